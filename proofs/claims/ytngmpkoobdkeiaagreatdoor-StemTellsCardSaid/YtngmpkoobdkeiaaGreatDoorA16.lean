/- A PART OF THE PROOF (printed by a program of the author's own): contracts of functions, each walked once. -/
import Derived.Test.YtngmpkoobdkeiaaGreatDoorA12
import Derived.Test.YtngmpkoobdkeiaaGreatDoorA14
namespace Go.Pk
open Go Go.RowKit Go.Proofs
set_option maxRecDepth 4000 in
theorem c_internal_stringslite_HasSuffix {h : Heap} {w : World} (hs : Sub h w) (s : Str) (s_le : s.length ≤ 281474976710656) (p : Str) (p_le : p.length ≤ 281474976710656) : Calls Tryz.prog 193 #[strV s, strV p] w (Rets h w (fun _ _ res_ => res_ = .bool (hasSuf s p))) := by
  refine W.calls (n := 21) (args := [strV s, strV p]) Tryz.func193 rfl rfl rfl ?_
  have st0 : St h w h w [] := St.start hs
  refine W.seq ?_
  refine W.region ?_
  refine OpsL.val rfl rfl (r_asB rfl) ?_
  refine OpsL.nil ?_
  refine Then.norm ?_
  refine W.seq ?_
  refine W.region ?_
  refine OpsL.val rfl rfl (r_mvS rfl) ?_
  refine OpsL.val rfl rfl (r_len_str rfl Tryz.underlying9) ?_
  refine OpsL.val rfl rfl (r_mvS rfl) ?_
  refine OpsL.val rfl rfl (r_len_str rfl Tryz.underlying9) ?_
  refine OpsL.val rfl rfl (r_geq rfl rfl) ?_
  refine OpsL.val rfl rfl (r_mvB rfl) ?_
  refine OpsL.split (d := 10) rfl (fun g1 => ?_) (fun g1 => ?_)
  ·
    replace g1 := of_decide_eq_true g1
    refine OpsL.guarded rfl rfl (d := 10) rfl ?_
    refine OpsL.val rfl rfl (r_mvS rfl) ?_
    refine OpsL.guarded rfl rfl (d := 10) rfl ?_
    refine OpsL.val rfl rfl (r_mvS rfl) ?_
    refine OpsL.guarded rfl rfl (d := 10) rfl ?_
    refine OpsL.val rfl rfl (r_len_str rfl Tryz.underlying9) ?_
    refine OpsL.guarded rfl rfl (d := 10) rfl ?_
    refine OpsL.val rfl rfl (r_mvS rfl) ?_
    refine OpsL.guarded rfl rfl (d := 10) rfl ?_
    refine OpsL.val rfl rfl (r_len_str rfl Tryz.underlying9) ?_
    refine OpsL.guarded rfl rfl (d := 10) rfl ?_
    refine OpsL.val rfl rfl (r_sub rfl rfl (by first | omega | (simp; omega))) ?_
    refine OpsL.guarded rfl rfl (d := 10) rfl ?_
    refine OpsL.val rfl rfl (r_slice_from rfl rfl (hk := (show _ = ((s.length - p.length : Nat) : Int) by omega)) (hle := by omega) (hu := Tryz.underlying9)) ?_
    refine OpsL.guarded rfl rfl (d := 10) rfl ?_
    refine OpsL.val rfl rfl (r_mvS rfl) ?_
    refine OpsL.guarded rfl rfl (d := 10) rfl ?_
    refine OpsL.val rfl rfl (r_seql rfl rfl) ?_
    refine OpsL.val rfl rfl (r_pickT (v := (.bool _)) rfl rfl) ?_
    refine OpsL.val rfl rfl (r_asB rfl) ?_
    refine OpsL.nil ?_
    refine Then.norm ?_
    refine W.ret ?_
    -- return r1
    refine Post.ret1 Tryz.results193 ?_
    refine ⟨h, _, rfl, st0.done, ?_⟩
    refine bool_eq ?_
    first | (simp_all [hasSuf]; done) | (simp_all [hasSuf]; omega) | (simp_all [hasSuf]; intros; omega)
  ·
    replace g1 := of_decide_eq_false g1
    refine OpsL.skipped rfl rfl (d := 10) rfl rfl rfl ?_
    refine OpsL.skipped rfl rfl (d := 10) rfl rfl rfl ?_
    refine OpsL.skipped rfl rfl (d := 10) rfl rfl rfl ?_
    refine OpsL.skipped rfl rfl (d := 10) rfl rfl rfl ?_
    refine OpsL.skipped rfl rfl (d := 10) rfl rfl rfl ?_
    refine OpsL.skipped rfl rfl (d := 10) rfl rfl rfl ?_
    refine OpsL.skipped rfl rfl (d := 10) rfl rfl rfl ?_
    refine OpsL.skipped rfl rfl (d := 10) rfl rfl rfl ?_
    refine OpsL.skipped rfl rfl (d := 10) rfl rfl rfl ?_
    refine OpsL.val rfl rfl (r_pickF (v := (.bool _)) rfl rfl) ?_
    refine OpsL.val rfl rfl (r_asB rfl) ?_
    refine OpsL.nil ?_
    refine Then.norm ?_
    refine W.ret ?_
    -- return r2
    refine Post.ret1 Tryz.results193 ?_
    refine ⟨h, _, rfl, st0.done, ?_⟩
    refine bool_eq ?_
    first | (simp_all [hasSuf]; done) | (simp_all [hasSuf]; omega) | (simp_all [hasSuf]; intros; omega)
set_option maxRecDepth 4000 in
theorem c_internal_stringslite_CutSuffix {h : Heap} {w : World} (hs : Sub h w) (s : Str) (s_le : s.length ≤ 281474976710656) (p : Str) (p_le : p.length ≤ 281474976710656) : Calls Tryz.prog 171 #[strV s, strV p] w (Rets h w (fun _ _ res_ => res_ = .tuple #[strV ((if hasSuf s p then s.take (s.length - p.length) else s)), .bool (hasSuf s p)])) := by
  refine W.calls (n := 18) (args := [strV s, strV p]) Tryz.func171 rfl rfl rfl ?_
  have st0 : St h w h w [] := St.start hs
  refine W.seq ?_
  refine W.region ?_
  refine OpsL.val rfl rfl (r_asS rfl) ?_
  refine OpsL.val rfl rfl (r_asB rfl) ?_
  refine OpsL.nil ?_
  refine Then.norm ?_
  refine W.seq ?_
  refine W.seq ?_
  refine W.region ?_
  refine OpsL.val rfl rfl (r_mvS rfl) ?_
  refine OpsL.val rfl rfl (r_mvS rfl) ?_
  refine OpsL.callF st0 rfl rfl rfl Tryz.call193 rfl (c_internal_stringslite_HasSuffix st0.sub _ (by first | assumption | (simp [big]; done) | (simp [big]; omega) | omega) _ (by first | assumption | (simp [big]; done) | (simp [big]; omega) | omega)) ?_
  intro r1 w2 h3 le4 st5 q6
  obtain rfl := q6
  refine OpsL.val rfl rfl (r_not rfl) ?_
  refine OpsL.nil ?_
  refine Then.norm ?_
  refine W.cond rfl (fun c7 => ?_) (fun c7 => ?_)
  ·
    refine W.seq ?_
    refine W.region ?_
    refine OpsL.val rfl rfl (r_mvS rfl) ?_
    refine OpsL.val rfl rfl (r_asS rfl) ?_
    refine OpsL.val rfl rfl (r_asB rfl) ?_
    refine OpsL.nil ?_
    refine Then.norm ?_
    refine W.ret ?_
    refine Then.ret ?_
    -- return r1
    refine Post.ret2 Tryz.results171 ?_
    refine ⟨h3, _, rfl, st5.done, ?_⟩
    refine tup2 (str_eq ?_) (bool_eq ?_)
    all_goals simp_all
  ·
    refine W.skip ?_
    refine Then.norm ?_
    refine W.seq ?_
    have hsl : p.length ≤ s.length := by
      have q := c7
      simp [hasSuf] at q
      exact q.1
    refine W.region ?_
    refine OpsL.val rfl rfl (r_mvS rfl) ?_
    refine OpsL.val rfl rfl (r_mvS rfl) ?_
    refine OpsL.val rfl rfl (r_len_str rfl Tryz.underlying9) ?_
    refine OpsL.val rfl rfl (r_mvS rfl) ?_
    refine OpsL.val rfl rfl (r_len_str rfl Tryz.underlying9) ?_
    refine OpsL.val rfl rfl (r_sub rfl rfl (by first | omega | (simp; omega))) ?_
    refine OpsL.val rfl rfl (r_slice_to rfl rfl (hk := (show _ = ((s.length - p.length : Nat) : Int) by omega)) (hle := by omega) (hu := Tryz.underlying9)) ?_
    refine OpsL.val rfl rfl (r_asS rfl) ?_
    refine OpsL.val rfl rfl (r_asB rfl) ?_
    refine OpsL.nil ?_
    refine Then.norm ?_
    refine W.ret ?_
    -- return r2
    refine Post.ret2 Tryz.results171 ?_
    refine ⟨h3, _, rfl, st5.done, ?_⟩
    refine tup2 (str_eq ?_) (bool_eq ?_)
    all_goals simp_all
set_option maxRecDepth 4000 in
theorem c_strings_CutSuffix {h : Heap} {w : World} (hs : Sub h w) (s : Str) (s_le : s.length ≤ 281474976710656) (p : Str) (p_le : p.length ≤ 281474976710656) : Calls Tryz.prog 118 #[strV s, strV p] w (Rets h w (fun _ _ res_ => res_ = .tuple #[strV ((if hasSuf s p then s.take (s.length - p.length) else s)), .bool (hasSuf s p)])) := by
  refine W.calls (n := 11) (args := [strV s, strV p]) Tryz.func118 rfl rfl rfl ?_
  have st0 : St h w h w [] := St.start hs
  refine W.seq ?_
  refine W.region ?_
  refine OpsL.val rfl rfl (r_asS rfl) ?_
  refine OpsL.val rfl rfl (r_asB rfl) ?_
  refine OpsL.nil ?_
  refine Then.norm ?_
  refine W.seq ?_
  refine W.region ?_
  refine OpsL.val rfl rfl (r_mvS rfl) ?_
  refine OpsL.val rfl rfl (r_mvS rfl) ?_
  refine OpsL.callF st0 rfl rfl rfl Tryz.call171 rfl (c_internal_stringslite_CutSuffix st0.sub _ (by first | assumption | (simp [big]; done) | (simp [big]; omega) | omega) _ (by first | assumption | (simp [big]; done) | (simp [big]; omega) | omega)) ?_
  intro r1 w2 h3 le4 st5 q6
  obtain rfl := q6
  refine OpsL.val rfl rfl (r_extract (v := (strV _)) rfl rfl) ?_
  refine OpsL.val rfl rfl (r_extract (v := (.bool _)) rfl rfl) ?_
  refine OpsL.val rfl rfl (r_asS rfl) ?_
  refine OpsL.val rfl rfl (r_asB rfl) ?_
  refine OpsL.nil ?_
  refine Then.norm ?_
  refine W.ret ?_
  -- return r1
  refine Post.ret2 Tryz.results118 ?_
  refine ⟨h3, _, rfl, st5.done, ?_⟩
  refine tup2 (str_eq ?_) (bool_eq ?_)
  all_goals rfl
set_option maxRecDepth 4000 in
theorem c_stem_office_turns_1 {h0 h : Heap} {w0 w : World} {rest : Own} {left_b : Nat} {left : Int} {word_b : Nat} {word : Str} (word_le : word.length ≤ 281474976710656) {o_b : Nat} {o : Office} {o_v0 : Value} (o_f0 : Sl LRule h o_v0 o.lex.rules) {o_v1 : Value} (o_f1 : Sl LDecision h o_v1 o.lex.decisions) {o_v2 : Value} (o_f2 : Sl LChapter h o_v2 o.text.chapters) {o_v3 : Value} (o_f3 : FML (fun n : Int => .int .i64 n) (fun x : Decision => [.int .i64 x.number, .int .u8 x.kind, strV x.form, .int .i64 x.at_.chapter, .int .i64 x.at_.line, .int .i64 x.at_.word, strV x.to.stem, .int .u8 x.to.mark, .int .i64 x.of_]) LDecision h o.stands o_v3) (o_c : Cells h o_b 0 [o_v0, o_v1, o_v2, o_v3]) {o_bb : Nat} (o_cc : Cells h o_bb 0 [.pointer (some ⟨o_b, 0, none⟩)]) (hl : 0 ≤ left ∧ left ≤ 4) (hw12 : word.length ≤ 12) (st0 : St h0 w0 h w ([(left_b, .cells (List.toArray [.int .i64 left]) 3)] :: [(word_b, .cells (List.toArray [strV word]) 9)] :: rest)) : Calls Tryz.prog 117 #[.pointer (some ⟨left_b, 0, none⟩), .pointer (some ⟨word_b, 0, none⟩), .pointer (some ⟨o_bb, 0, none⟩)] w (fun e_ w' => ∃ h' res_ left' word', e_ = .returned res_ ∧ Le h h' ∧ St h0 w0 h' w' ([(left_b, .cells (List.toArray [.int .i64 left']) 3)] :: [(word_b, .cells (List.toArray [strV word']) 9)] :: rest) ∧ left' = turnL left ∧ word' = turnW o.lex.rules left word ∧ (res_ = .tuple #[strV (turnW o.lex.rules left word), .bool (turnB o.lex.rules left word)])) := by
  refine W.calls (n := 56) (args := [.pointer (some ⟨left_b, 0, none⟩), .pointer (some ⟨word_b, 0, none⟩), .pointer (some ⟨o_bb, 0, none⟩)]) Tryz.func117 rfl rfl rfl ?_
  have o_f0_b := o_f0.le
  have o_f1_b := o_f1.le
  have o_f2_b := o_f2.le
  refine W.seq ?_
  refine W.region ?_
  refine OpsL.val rfl rfl (r_asS rfl) ?_
  refine OpsL.val rfl rfl (r_asB rfl) ?_
  refine OpsL.nil ?_
  refine Then.norm ?_
  refine W.scope ?_
  refine W.seq ?_
  refine W.seq ?_
  refine W.region ?_
  refine OpsL.val rfl rfl (r_load_b1 (st0.get (k := 0) rfl) rfl rfl Tryz.isAgg3) ?_
  refine OpsL.val rfl rfl (r_eql rfl rfl) ?_
  refine OpsL.nil ?_
  refine Then.norm ?_
  refine W.cond rfl (fun c1 => ?_) (fun c1 => ?_)
  ·
    replace c1 := of_decide_eq_true c1
    refine W.seq ?_
    refine W.region ?_
    refine OpsL.val rfl rfl (r_load_b1 (st0.get (k := 1) rfl) rfl rfl Tryz.isAgg9) ?_
    refine OpsL.val rfl rfl (r_asS rfl) ?_
    refine OpsL.val rfl rfl (r_asB rfl) ?_
    refine OpsL.nil ?_
    refine Then.norm ?_
    refine W.ret ?_
    refine Then.ret ?_
    refine NoGo.ret ?_
    -- return r1
    refine Post.ret2 Tryz.results117 ?_
    refine ⟨h, _, _, _, rfl, Le.refl _, st0, ?_, ?_, ?_⟩
    · simp_all [turnL]
    · simp_all [turnW]
    refine tup2 (str_eq ?_) (bool_eq ?_)
    · simp_all [turnW]
    · simp_all [turnB]
  ·
    replace c1 := of_decide_eq_false c1
    refine W.skip ?_
    refine Then.norm ?_
    refine W.seq ?_
    refine W.region ?_
    refine OpsL.val rfl rfl (r_load_b1 (st0.get (k := 0) rfl) rfl rfl Tryz.isAgg3) ?_
    refine OpsL.val rfl rfl (r_sub rfl rfl (by first | omega | (simp; omega))) ?_
    refine OpsL.store1 st0 (k := 0) rfl rfl rfl rfl Tryz.sizeOf3 rfl rfl rfl ?_
    intro w2 st3
    refine OpsL.nil ?_
    refine Then.norm ?_
    refine W.seq ?_
    refine W.label ?_
    refine Then.norm ?_
    refine W.seq ?_
    refine W.seq ?_
    refine W.region ?_
    refine OpsL.val rfl rfl (r_load_cells1 (j := 0) st3.sub o_cc rfl rfl rfl Tryz.isAgg94) ?_
    refine OpsL.val rfl rfl (r_nil_check rfl) ?_
    refine OpsL.val rfl rfl (r_field_addr rfl Tryz.underlying103 rfl Tryz.sizeOf28 rfl) ?_
    refine OpsL.val rfl rfl (r_field_addr rfl Tryz.underlying28 rfl Tryz.sizeOf25 rfl) ?_
    refine OpsL.val rfl rfl (r_load_cells1 (j := 0) st3.sub o_c rfl rfl rfl Tryz.isAgg25) ?_
    refine OpsL.val rfl rfl (r_len o_f0 rfl Tryz.underlying25) ?_
    refine OpsL.val rfl rfl (r_mvI rfl) ?_
    refine OpsL.nil ?_
    refine Then.norm ?_
    refine W.block ?_
    refine W.loopI [3, 4, 6, 7, 8, 20, 21, 22, 23, 24, 25, 26, 27, 28, 29, 30, 31, 32, 33, 34, 35, 36, 37, 38, 39, 40, 41, 42, 43, 44, 45, 46, 47, 48, 49, 50, 51, 52, 53, 54] (G := Nat × Heap) (fun ⟨i, h4⟩ => [(20, .int .i64 (i : Int))]) (fun ⟨i, h4⟩ w' => Le h h4 ∧ St h0 w0 h4 w' ([(left_b, .cells (List.toArray [.int .i64 (left - 1)]) 3)] :: [(word_b, .cells (List.toArray [strV word]) 9)] :: rest) ∧ (i ≤ o.lex.rules.length) ∧ ((o.lex.rules.take i).findSome? (made · word) = none)) (fun ⟨i, h4⟩ => o.lex.rules.length - i) ⟨0, h⟩ ⟨rfl, trivial⟩ ⟨Le.refl _, st3, (by first | omega | simp | trivial), (by first | omega | simp | trivial)⟩ ?_
    rintro ⟨i, h4⟩ _ w7 ⟨le5, st6, hi, ht⟩
    refine W.seq ?_
    refine W.region ?_
    refine OpsL.val rfl rfl (r_lss rfl rfl) ?_
    refine OpsL.nil ?_
    refine Then.norm ?_
    refine W.seq ?_
    refine W.cond rfl (fun c8 => ?_) (fun c8 => ?_)
    ·
      replace c8 := of_decide_eq_true c8
      refine W.skip ?_
      refine Then.norm ?_
      refine W.seq ?_
      refine W.block ?_
      refine W.seq ?_
      refine W.region ?_
      have hr : ∃ y, (o.lex.rules)[i]? = some y := ⟨_, List.getElem?_eq_getElem (by omega)⟩
      obtain ⟨r, hr⟩ := hr
      obtain ⟨b9, o10, _, he12, hc11, hr_r⟩ := Sl.elem (o_f0.up le5) hr
      obtain ⟨rfl, ls13, ls14⟩ := hr_r
      simp only [big] at ls13
      simp only [big] at ls14
      refine OpsL.val rfl rfl (r_index_el he12 rfl rfl (hk := rfl) (hu := Tryz.underlying25) (hz := Tryz.sizeOf70)) ?_
      refine OpsL.val rfl rfl (r_load_call st6.sub hc11 rfl Tryz.isAgg70 Tryz.sizeOf70 rfl) ?_
      refine OpsL.allocSt st6 Tryz.zeroValue70 rfl rfl rfl (us := [strV (r.cut), strV (r.put), .int .i64 (r.least)]) (fun _ => rfl) (one_cons rfl (one_cons rfl (one_cons rfl one_nil))) Tryz.sizeOf70 rfl ?_
      intro b15 w16 h17 le18 hc19 st20
      refine OpsL.nil ?_
      refine Then.norm ?_
      refine W.seq ?_
      refine W.region ?_
      refine OpsL.val rfl rfl (r_load_b1 (st20.get (k := 1) rfl) rfl rfl Tryz.isAgg9) ?_
      refine OpsL.val rfl rfl (r_field_addr rfl Tryz.underlying70 rfl Tryz.sizeOf9 rfl) ?_
      refine OpsL.val rfl rfl (r_load_cells1 (j := 0) st20.sub hc19 rfl rfl rfl Tryz.isAgg9) ?_
      refine OpsL.callF st20 rfl rfl rfl Tryz.call118 rfl (c_strings_CutSuffix st20.sub _ (by first | assumption | (simp [big]; done) | (simp [big]; omega) | omega) _ (by first | assumption | (simp [big]; done) | (simp [big]; omega) | omega)) ?_
      intro r21 w22 h23 le24 st25 q26
      obtain rfl := q26
      have hrl : (if hasSuf (word) (r.cut) then (word).take ((word).length - (r.cut).length) else (word)).length ≤ word.length := by split <;> simp
      refine OpsL.val rfl rfl (r_mvT rfl) ?_
      refine OpsL.val rfl rfl (r_extract (v := (strV _)) rfl rfl) ?_
      refine OpsL.val rfl rfl (r_extract (v := (.bool _)) rfl rfl) ?_
      refine OpsL.val rfl rfl (r_asS rfl) ?_
      refine OpsL.val rfl rfl (r_asB rfl) ?_
      refine OpsL.nil ?_
      refine Then.norm ?_
      refine W.seq ?_
      refine W.seq ?_
      refine W.region ?_
      refine OpsL.val rfl rfl (r_mvB rfl) ?_
      refine OpsL.val rfl rfl (r_not rfl) ?_
      refine OpsL.val rfl rfl (r_mvB rfl) ?_
      refine OpsL.split (d := 33) rfl (fun g27 => ?_) (fun g27 => ?_)
      ·
        refine OpsL.skipped rfl rfl (d := 33) rfl rfl rfl ?_
        refine OpsL.skipped rfl rfl (d := 33) rfl rfl rfl ?_
        refine OpsL.skipped rfl rfl (d := 33) rfl rfl rfl ?_
        refine OpsL.skipped rfl rfl (d := 33) rfl rfl rfl ?_
        refine OpsL.skipped rfl rfl (d := 33) rfl rfl rfl ?_
        refine OpsL.val rfl rfl (r_pickT (v := (.bool _)) rfl rfl) ?_
        refine OpsL.val rfl rfl (r_mvB rfl) ?_
        refine OpsL.skipped rfl rfl (d := 40) rfl rfl rfl ?_
        refine OpsL.skipped rfl rfl (d := 40) rfl rfl rfl ?_
        refine OpsL.skipped rfl rfl (d := 40) rfl rfl rfl ?_
        refine OpsL.skipped rfl rfl (d := 40) rfl rfl rfl ?_
        refine OpsL.skipped rfl rfl (d := 40) rfl rfl rfl ?_
        refine OpsL.skipped rfl rfl (d := 40) rfl rfl rfl ?_
        refine OpsL.skipped rfl rfl (d := 40) rfl rfl rfl ?_
        refine OpsL.val rfl rfl (r_pickT (v := (.bool _)) rfl rfl) ?_
        refine OpsL.nil ?_
        refine Then.norm ?_
        refine W.cond rfl (fun c28 => ?_) (fun c28 => ?_)
        ·
          refine W.exit ?_
          refine Then.exit ?_
          refine Blk.hit ?_
          refine Then.norm ?_
          refine W.region ?_
          refine OpsL.val rfl rfl (r_add rfl rfl (by first | omega | (simp; omega))) ?_
          refine OpsL.val rfl rfl (r_mvI rfl) ?_
          refine OpsL.nil ?_
          refine Then.norm ?_
          refine ⟨⟨i + 1, h23⟩, ⟨rfl, trivial⟩, ?_, ⟨((le5.trans le18).trans le24), st25, ?_, ?_⟩, ?_⟩
          · repeat (first | exact Agree.mix _ _ _ | exact Agree.refl _ _ | refine Agree.updO rfl ?_ | refine Agree.upd rfl ?_ | refine Agree.known rfl ?_ | refine Agree.sub rfl ?_)
          · first | omega | (simp; omega)
          · exact turn_take ht hr (made_no (fun qh _ => by rw [qh] at g27; cases g27))
          · show o.lex.rules.length - ((i + 1)) < o.lex.rules.length - i
            omega
        ·
          cases c28
      ·
        refine OpsL.guarded rfl rfl (d := 33) rfl ?_
        refine OpsL.val rfl rfl (r_mvS rfl) ?_
        refine OpsL.guarded rfl rfl (d := 33) rfl ?_
        refine OpsL.val rfl rfl (r_len_str rfl Tryz.underlying9) ?_
        refine OpsL.guarded rfl rfl (d := 33) rfl ?_
        refine OpsL.val rfl rfl (r_field_addr rfl Tryz.underlying70 rfl Tryz.sizeOf3 rfl) ?_
        refine OpsL.guarded rfl rfl (d := 33) rfl ?_
        refine OpsL.val rfl rfl (r_load_cells1 (j := 2) st25.sub (hc19.up le24) rfl rfl rfl Tryz.isAgg3) ?_
        refine OpsL.guarded rfl rfl (d := 33) rfl ?_
        refine OpsL.val rfl rfl (r_lss rfl rfl) ?_
        refine OpsL.val rfl rfl (r_pickF (v := (.bool _)) rfl rfl) ?_
        refine OpsL.val rfl rfl (r_mvB rfl) ?_
        refine OpsL.split (d := 40) rfl (fun g29 => ?_) (fun g29 => ?_)
        ·
          replace g29 := of_decide_eq_true g29
          refine OpsL.skipped rfl rfl (d := 40) rfl rfl rfl ?_
          refine OpsL.skipped rfl rfl (d := 40) rfl rfl rfl ?_
          refine OpsL.skipped rfl rfl (d := 40) rfl rfl rfl ?_
          refine OpsL.skipped rfl rfl (d := 40) rfl rfl rfl ?_
          refine OpsL.skipped rfl rfl (d := 40) rfl rfl rfl ?_
          refine OpsL.skipped rfl rfl (d := 40) rfl rfl rfl ?_
          refine OpsL.skipped rfl rfl (d := 40) rfl rfl rfl ?_
          refine OpsL.val rfl rfl (r_pickT (v := (.bool _)) rfl rfl) ?_
          refine OpsL.nil ?_
          refine Then.norm ?_
          refine W.cond rfl (fun c30 => ?_) (fun c30 => ?_)
          ·
            refine W.exit ?_
            refine Then.exit ?_
            refine Blk.hit ?_
            refine Then.norm ?_
            refine W.region ?_
            refine OpsL.val rfl rfl (r_add rfl rfl (by first | omega | (simp; omega))) ?_
            refine OpsL.val rfl rfl (r_mvI rfl) ?_
            refine OpsL.nil ?_
            refine Then.norm ?_
            refine ⟨⟨i + 1, h23⟩, ⟨rfl, trivial⟩, ?_, ⟨((le5.trans le18).trans le24), st25, ?_, ?_⟩, ?_⟩
            · repeat (first | exact Agree.mix _ _ _ | exact Agree.refl _ _ | refine Agree.updO rfl ?_ | refine Agree.upd rfl ?_ | refine Agree.known rfl ?_ | refine Agree.sub rfl ?_)
            · first | omega | (simp; omega)
            · exact turn_take ht hr (made_no (fun qh q => by rw [if_pos qh] at g29; omega))
            · show o.lex.rules.length - ((i + 1)) < o.lex.rules.length - i
              omega
          ·
            cases c30
        ·
          replace g29 := of_decide_eq_false g29
          refine OpsL.guarded rfl rfl (d := 40) rfl ?_
          refine OpsL.val rfl rfl (r_mvS rfl) ?_
          refine OpsL.guarded rfl rfl (d := 40) rfl ?_
          refine OpsL.val rfl rfl (r_len_str rfl Tryz.underlying9) ?_
          refine OpsL.guarded rfl rfl (d := 40) rfl ?_
          refine OpsL.val rfl rfl (r_field_addr rfl Tryz.underlying70 rfl Tryz.sizeOf9 rfl) ?_
          refine OpsL.guarded rfl rfl (d := 40) rfl ?_
          refine OpsL.val rfl rfl (r_load_cells1 (j := 1) st25.sub (hc19.up le24) rfl rfl rfl Tryz.isAgg9) ?_
          refine OpsL.guarded rfl rfl (d := 40) rfl ?_
          refine OpsL.val rfl rfl (r_len_str rfl Tryz.underlying9) ?_
          refine OpsL.guarded rfl rfl (d := 40) rfl ?_
          refine OpsL.val rfl rfl (r_add rfl rfl (by first | omega | (simp; omega))) ?_
          refine OpsL.guarded rfl rfl (d := 40) rfl ?_
          refine OpsL.val rfl rfl (r_gtr rfl rfl) ?_
          refine OpsL.val rfl rfl (r_pickF (v := (.bool _)) rfl rfl) ?_
          refine OpsL.nil ?_
          refine Then.norm ?_
          refine W.cond rfl (fun c31 => ?_) (fun c31 => ?_)
          ·
            replace c31 := of_decide_eq_true c31
            refine W.exit ?_
            refine Then.exit ?_
            refine Blk.hit ?_
            refine Then.norm ?_
            refine W.region ?_
            refine OpsL.val rfl rfl (r_add rfl rfl (by first | omega | (simp; omega))) ?_
            refine OpsL.val rfl rfl (r_mvI rfl) ?_
            refine OpsL.nil ?_
            refine Then.norm ?_
            refine ⟨⟨i + 1, h23⟩, ⟨rfl, trivial⟩, ?_, ⟨((le5.trans le18).trans le24), st25, ?_, ?_⟩, ?_⟩
            · repeat (first | exact Agree.mix _ _ _ | exact Agree.refl _ _ | refine Agree.updO rfl ?_ | refine Agree.upd rfl ?_ | refine Agree.known rfl ?_ | refine Agree.sub rfl ?_)
            · first | omega | (simp; omega)
            · exact turn_take ht hr (made_no (fun qh q => by rw [if_pos qh] at c31; omega))
            · show o.lex.rules.length - ((i + 1)) < o.lex.rules.length - i
              omega
          ·
            replace c31 := of_decide_eq_false c31
            refine W.skip ?_
            refine Then.norm ?_
            refine W.seq ?_
            refine W.region ?_
            refine OpsL.val rfl rfl (r_mvS rfl) ?_
            refine OpsL.val rfl rfl (r_field_addr rfl Tryz.underlying70 rfl Tryz.sizeOf9 rfl) ?_
            refine OpsL.val rfl rfl (r_load_cells1 (j := 1) st25.sub (hc19.up le24) rfl rfl rfl Tryz.isAgg9) ?_
            refine OpsL.val rfl rfl (r_sadd rfl rfl (by first | omega | (simp; omega))) ?_
            refine OpsL.store1 st25 (k := 1) rfl rfl rfl rfl Tryz.sizeOf9 rfl rfl rfl ?_
            intro w32 st33
            refine OpsL.nil ?_
            refine Then.norm ?_
            refine W.seq ?_
            refine W.region ?_
            refine OpsL.val rfl rfl (r_load_b1 (st33.get (k := 1) rfl) rfl rfl Tryz.isAgg9) ?_
            refine OpsL.val rfl rfl (r_asS rfl) ?_
            refine OpsL.val rfl rfl (r_asB rfl) ?_
            refine OpsL.nil ?_
            refine Then.norm ?_
            refine W.ret ?_
            refine Blk.ret ?_
            refine Then.ret ?_
            refine Then.ret ?_
            refine Blk.ret ?_
            refine Then.ret ?_
            refine NoGo.ret ?_
            -- return r2
            refine Post.ret2 Tryz.results117 ?_
            have qh : hasSuf word r.cut = true := by simpa using g27
            have em := made_yes qh (by have q := g29; rw [if_pos qh] at q; omega) (by have q := c31; rw [if_pos qh] at q; omega)
            have es := stepOf_at ht hr em
            have hl0 : ¬ left = 0 := c1
            simp only [if_pos qh]
            refine ⟨h23, _, _, _, rfl, ((le5.trans le18).trans le24), st33, ?_, ?_, ?_⟩
            · simp [turnL, hl0]
            · simp [turnW, hl0, es, qh]
            refine tup2 (str_eq ?_) (bool_eq ?_)
            · simp [turnW, hl0, es]
            · simp [turnB, hl0, es]
    ·
      replace c8 := of_decide_eq_false c8
      refine W.exit ?_
      refine Then.exit ?_
      refine Then.exit ?_
      refine Blk.hit ?_
      refine Then.norm ?_
      refine W.seq ?_
      refine W.region ?_
      refine OpsL.val rfl rfl (r_load_b1 (st6.get (k := 1) rfl) rfl rfl Tryz.isAgg9) ?_
      refine OpsL.val rfl rfl (r_asS rfl) ?_
      refine OpsL.val rfl rfl (r_asB rfl) ?_
      refine OpsL.nil ?_
      refine Then.norm ?_
      refine W.ret ?_
      refine NoGo.ret ?_
      -- return r3
      refine Post.ret2 Tryz.results117 ?_
      have es := stepOf_none ht (by omega)
      have hl0 : ¬ left = 0 := c1
      refine ⟨h4, _, _, _, rfl, le5, st6, ?_, ?_, ?_⟩
      · simp [turnL, hl0]
      · simp [turnW, hl0, es]
      refine tup2 (str_eq ?_) (bool_eq ?_)
      · simp [turnW, hl0, es]
      · simp [turnB, hl0, es]
end Go.Pk
