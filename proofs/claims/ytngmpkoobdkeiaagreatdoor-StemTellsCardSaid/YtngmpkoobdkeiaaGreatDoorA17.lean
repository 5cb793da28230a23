/- A PART OF THE PROOF (printed by a program of the author's own): contracts of functions, each walked once. -/
import Derived.Test.YtngmpkoobdkeiaaGreatDoorA16
namespace Go.Pk
open Go Go.RowKit Go.Proofs
set_option maxRecDepth 4000 in
theorem c_stem_office_turns {h : Heap} {w : World} (hs : Sub h w) {o_b : Nat} {o : Office} {o_v0 : Value} (o_f0 : Sl LRule h o_v0 o.lex.rules) {o_v1 : Value} (o_f1 : Sl LDecision h o_v1 o.lex.decisions) {o_v2 : Value} (o_f2 : Sl LChapter h o_v2 o.text.chapters) {o_v3 : Value} (o_f3 : FML (fun n : Int => .int .i64 n) (fun x : Decision => [.int .i64 x.number, .int .u8 x.kind, strV x.form, .int .i64 x.at_.chapter, .int .i64 x.at_.line, .int .i64 x.at_.word, strV x.to.stem, .int .u8 x.to.mark, .int .i64 x.of_]) LDecision h o.stands o_v3) (o_c : Cells h o_b 0 [o_v0, o_v1, o_v2, o_v3]) (word : Str) (word_le : word.length ≤ 281474976710656) : Calls Tryz.prog 83 #[.pointer (some ⟨o_b, 0, none⟩), strV word] w (fun e_ w' => ∃ h' bl bw bo, e_ = .returned (.func (.func 117) #[] #[.pointer (some ⟨bl, 0, none⟩), .pointer (some ⟨bw, 0, none⟩), .pointer (some ⟨bo, 0, none⟩)]) ∧ Le h h' ∧ St h w h' w' [[(bw, .cells [strV word].toArray 9)], [(bl, .cells [.int .i64 4].toArray 3)]] ∧ Cells h' bo 0 [.pointer (some ⟨o_b, 0, none⟩)]) := by
  refine W.calls (n := 7) (args := [.pointer (some ⟨o_b, 0, none⟩), strV word]) Tryz.func83 rfl rfl rfl ?_
  have st0 : St h w h w [] := St.start hs
  have o_f0_b := o_f0.le
  have o_f1_b := o_f1.le
  have o_f2_b := o_f2.le
  refine W.seq ?_
  refine W.region ?_
  refine OpsL.boxF st0 (cs := [.pointer (some ⟨o_b, 0, none⟩)]) rfl rfl rfl ?_
  intro b1 w2 h3 le4 hc5 st6
  refine OpsL.boxO st6 (cs := [strV word]) rfl rfl rfl ?_
  intro b7 w8 st9
  refine OpsL.val rfl rfl (r_assign rfl) ?_
  refine OpsL.nil ?_
  refine Then.norm ?_
  refine W.seq ?_
  refine W.region ?_
  refine OpsL.allocO st9 Tryz.zeroValue3 rfl rfl ?_
  intro b10 w11 st12
  refine OpsL.store1 st12 (k := 1) rfl rfl rfl rfl Tryz.sizeOf3 rfl rfl rfl ?_
  intro w13 st14
  refine OpsL.nil ?_
  refine Then.norm ?_
  refine W.seq ?_
  refine W.region ?_
  refine OpsL.val rfl rfl (r_make_func rfl rfl) ?_
  refine OpsL.val rfl rfl (r_asF rfl) ?_
  refine OpsL.nil ?_
  refine Then.norm ?_
  refine W.ret ?_
  -- return r1
  refine Post.ret1 Tryz.results83 ?_
  exact ⟨h3, _, _, _, rfl, le4, st14, hc5⟩
set_option maxRecDepth 4000 in
theorem c_stem_office_steps {h : Heap} {w : World} (hs : Sub h w) {o_b : Nat} {o : Office} {o_v0 : Value} (o_f0 : Sl LRule h o_v0 o.lex.rules) {o_v1 : Value} (o_f1 : Sl LDecision h o_v1 o.lex.decisions) {o_v2 : Value} (o_f2 : Sl LChapter h o_v2 o.text.chapters) {o_v3 : Value} (o_f3 : FML (fun n : Int => .int .i64 n) (fun x : Decision => [.int .i64 x.number, .int .u8 x.kind, strV x.form, .int .i64 x.at_.chapter, .int .i64 x.at_.line, .int .i64 x.at_.word, strV x.to.stem, .int .u8 x.to.mark, .int .i64 x.of_]) LDecision h o.stands o_v3) (o_c : Cells h o_b 0 [o_v0, o_v1, o_v2, o_v3]) (word : Str) (word_le : word.length ≤ 281474976710656) (hw : word.length ≤ 12) : Calls Tryz.prog 42 #[.pointer (some ⟨o_b, 0, none⟩), strV word] w (Rets h w (fun h' _ res_ => ∃ u0, res_ = u0 ∧ Sl LStr h' u0 (stepsN o.lex.rules 4 word))) := by
  refine W.calls (n := 30) (args := [.pointer (some ⟨o_b, 0, none⟩), strV word]) Tryz.func42 rfl rfl rfl ?_
  have st0 : St h w h w [] := St.start hs
  have o_f0_b := o_f0.le
  have o_f1_b := o_f1.le
  have o_f2_b := o_f2.le
  refine W.seq ?_
  refine W.region ?_
  refine OpsL.val rfl rfl (r_asL rfl) ?_
  refine OpsL.nil ?_
  refine Then.norm ?_
  refine W.seq ?_
  refine W.region ?_
  refine OpsL.val rfl rfl (r_mvS rfl) ?_
  refine OpsL.sliceO (L := LStr) (xs := [word]) (cs := [strV word]) st0 (Enc.cons (L := LStr) (vs := [strV word]) (x := word) (h := h) (⟨rfl, by first | assumption | (simp [big]; done) | (simp [big]; omega) | omega⟩) Enc.nil) rfl rfl rfl Tryz.underlying33 Tryz.info9 rfl rfl rfl rfl (by kernel_rfl) ?_
  intro v1 o5 w2 f3 st4
  refine OpsL.val rfl rfl (r_assign (v := v1) rfl) ?_
  refine OpsL.nil ?_
  refine Then.norm ?_
  refine W.seq ?_
  refine W.region ?_
  refine OpsL.val rfl rfl (r_mvP rfl) ?_
  refine OpsL.val rfl rfl (r_mvS rfl) ?_
  refine OpsL.calls rfl rfl (run_call rfl Tryz.call83 rfl) ((c_stem_office_turns st4.sub (o := o) o_f0 o_f1 o_f2 o_f3 o_c _ (by first | assumption | (simp [big]; done) | (simp [big]; omega) | omega)).mono ?_)
  rintro _ w6 ⟨h7, bl8, bw9, bo10, rfl, le11, s12, hc13⟩
  refine ⟨_, rfl, ?_⟩
  have st14 := st4.call s12
  refine OpsL.val rfl rfl (r_assign (v := (.func (.func 117) #[] #[.pointer (some ⟨bl8, 0, none⟩), .pointer (some ⟨bw9, 0, none⟩), .pointer (some ⟨bo10, 0, none⟩)])) rfl) ?_
  refine OpsL.nil ?_
  refine Then.norm ?_
  refine W.seq ?_
  refine W.seq ?_
  refine W.region ?_
  refine OpsL.val rfl rfl (r_move (v := (.func (.func 117) #[] #[.pointer (some ⟨bl8, 0, none⟩), .pointer (some ⟨bw9, 0, none⟩), .pointer (some ⟨bo10, 0, none⟩)])) rfl) ?_
  have con := c_stem_office_turns_1 (left_b := bl8) (left := 4) (word_b := bw9) (word := word) (by omega) (o := o) (o_f0.up le11) (o_f1.up le11) (o_f2.up le11) (o_f3.up le11) (o_c.up le11) hc13 (by omega) (by exact hw) (st14.perm (List.reverse_perm _).symm)
  refine OpsL.calls rfl rfl (run_call_value (fs := []) (cs := [.pointer (some ⟨bl8, 0, none⟩), .pointer (some ⟨bw9, 0, none⟩), .pointer (some ⟨bo10, 0, none⟩)]) rfl rfl Tryz.call117 rfl) (con.mono ?_)
  rintro _ w15 ⟨h16, _, l17, w18, rfl, le19, s20, rfl, rfl, rfl⟩
  refine ⟨_, rfl, ?_⟩
  clear con
  have st21 := s20.perm (List.reverse_perm _).symm
  refine OpsL.val rfl rfl (r_mvT rfl) ?_
  refine OpsL.val rfl rfl (r_extract (v := (strV _)) rfl rfl) ?_
  refine OpsL.val rfl rfl (r_extract (v := (.bool _)) rfl rfl) ?_
  refine OpsL.val rfl rfl (r_asS rfl) ?_
  refine OpsL.val rfl rfl (r_asB rfl) ?_
  refine OpsL.nil ?_
  refine Then.norm ?_
  refine W.block ?_
  refine W.loopI [5, 7, 8, 19, 20, 21, 22, 23, 24, 25, 26, 27, 28] (G := Nat × List Str × Str × Str × Bool × Int × Value × List (Nat × Obj) × Heap) (fun ⟨k, ini, la, cw, tb, lf, v_5, o_5, h23⟩ => [(5, v_5), (7, strV cw), (8, .bool tb)]) (fun ⟨k, ini, la, cw, tb, lf, v_5, o_5, h23⟩ w' => Le h16 h23 ∧ St h w h23 w' [o_5, [(bw9, .cells (List.toArray [strV cw]) 9)], [(bl8, .cells (List.toArray [.int .i64 lf]) 3)]] ∧ (OSl LStr 9 h23 v_5 (ini ++ [la]) o_5) ∧ (k ≤ 4) ∧ (ini.length = k) ∧ (la.length ≤ 12) ∧ (cw.length ≤ 12) ∧ (0 ≤ lf ∧ lf ≤ 4) ∧ (stepsN o.lex.rules 4 word = ini ++ stepsN o.lex.rules (4 - k) la) ∧ (tb = true → k < 4 ∧ stepOf o.lex.rules la = some cw ∧ lf = 3 - k) ∧ (tb = false → stepsN o.lex.rules (4 - k) la = [la])) (fun ⟨k, ini, la, cw, tb, lf, v_5, o_5, h23⟩ => 4 - k) ⟨0, [], word, (turnW o.lex.rules 4 word), (turnB o.lex.rules 4 word), (turnL 4), v1, o5, h16⟩ ⟨rfl, rfl, rfl, trivial⟩ ⟨Le.refl _, st21, (OSl.to (f3.up (le11.trans le19)) (by rfl)), (by first | omega | simp | trivial), (by rfl), (by exact hw), (by exact turnW_len hw), (by decide), (by rfl), (by exact fun q => ⟨by omega, (turn_true q).2, by decide⟩), (by exact fun q => turn_false q (by rfl))⟩ ?_
  rintro ⟨k, ini, la, cw, tb, lf, v_5, o_5, h23⟩ _ w26 ⟨le24, st25, hO_5, hk, hn, hla, hcw, hlf, hq, ht, hf⟩
  refine W.seq ?_
  refine W.seq ?_
  refine W.region ?_
  refine OpsL.val rfl rfl (r_mvB rfl) ?_
  refine OpsL.nil ?_
  refine Then.norm ?_
  refine W.cond rfl (fun c27 => ?_) (fun c27 => ?_)
  ·
    refine W.skip ?_
    refine Then.norm ?_
    refine W.seq ?_
    refine W.block ?_
    refine W.region ?_
    refine OpsL.val rfl rfl (r_move (v := v_5) rfl) ?_
    refine OpsL.val rfl rfl (r_mvS rfl) ?_
    refine OpsL.sliceF (L := LStr) (xs := [cw]) (cs := [strV cw]) st25 (Enc.cons (L := LStr) (vs := [strV cw]) (x := cw) (h := h23) (⟨rfl, by first | assumption | (simp [big]; done) | (simp [big]; omega) | omega⟩) Enc.nil) rfl rfl rfl Tryz.underlying33 Tryz.info9 rfl rfl rfl (by kernel_rfl) ?_
    intro v28 w29 h32 le33 f30 st31
    refine OpsL.append (k := 0) (nb := 16) st31 (hO_5.up le33) rfl f30 rfl rfl rfl Tryz.underlying33 Tryz.info9 rfl rfl rfl (by decide) rfl (by simp [hn]; omega) (by simp [hn]; omega) ?_
    intro v34 o35 w36 _ e37 f38 st39
    subst e37
    refine OpsL.val rfl rfl (r_assign (v := v34) rfl) ?_
    refine OpsL.nil ?_
    refine Blk.norm ?_
    refine Then.norm ?_
    refine W.region ?_
    refine OpsL.val rfl rfl (r_move (v := (.func (.func 117) #[] #[.pointer (some ⟨bl8, 0, none⟩), .pointer (some ⟨bw9, 0, none⟩), .pointer (some ⟨bo10, 0, none⟩)])) rfl) ?_
    have con := c_stem_office_turns_1 (left_b := bl8) (left := lf) (word_b := bw9) (word := cw) (by omega) (o := o) (o_f0.up (((le11.trans le19).trans le24).trans le33)) (o_f1.up (((le11.trans le19).trans le24).trans le33)) (o_f2.up (((le11.trans le19).trans le24).trans le33)) (o_f3.up (((le11.trans le19).trans le24).trans le33)) (o_c.up (((le11.trans le19).trans le24).trans le33)) (hc13.up ((le19.trans le24).trans le33)) (by omega) (by exact hcw) (st39.perm (List.reverse_perm _).symm)
    refine OpsL.calls rfl rfl (run_call_value (fs := []) (cs := [.pointer (some ⟨bl8, 0, none⟩), .pointer (some ⟨bw9, 0, none⟩), .pointer (some ⟨bo10, 0, none⟩)]) rfl rfl Tryz.call117 rfl) (con.mono ?_)
    rintro _ w40 ⟨h41, _, l42, w43, rfl, le44, s45, rfl, rfl, rfl⟩
    refine ⟨_, rfl, ?_⟩
    clear con
    have st46 := s45.perm (List.reverse_perm _).symm
    refine OpsL.val rfl rfl (r_mvT rfl) ?_
    refine OpsL.val rfl rfl (r_extract (v := (strV _)) rfl rfl) ?_
    refine OpsL.val rfl rfl (r_extract (v := (.bool _)) rfl rfl) ?_
    refine OpsL.val rfl rfl (r_asS rfl) ?_
    refine OpsL.val rfl rfl (r_asB rfl) ?_
    refine OpsL.nil ?_
    refine Then.norm ?_
    have q1 := ht c27
    refine ⟨⟨k + 1, ini ++ [la], cw, (turnW o.lex.rules lf cw), (turnB o.lex.rules lf cw), (turnL lf), v34, o35, h41⟩, ⟨rfl, rfl, rfl, trivial⟩, ?_, ⟨((le24.trans le33).trans le44), st46, ?_, ?_, ?_, ?_, ?_, ?_, ?_, ?_, ?_⟩, ?_⟩
    · repeat (first | exact Agree.mix _ _ _ | exact Agree.refl _ _ | refine Agree.updO rfl ?_ | refine Agree.upd rfl ?_ | refine Agree.known rfl ?_ | refine Agree.sub rfl ?_)
    · refine OSl.to (f38.up le44) ?_
      rfl
    · omega
    · simp [hn]
    · exact hcw
    · exact turnW_len hcw
    · unfold turnL; split <;> omega
    · rw [hq, stepsN_some (show 4 - k = (4 - (k + 1)) + 1 by omega) q1.2.1]; simp
    · exact fun q => ⟨by have := (turn_true q).1; omega, (turn_true q).2, by have := (turn_true q).1; unfold turnL; rw [if_neg this]; omega⟩
    · exact fun q => turn_false q (by omega)
    · show 4 - ((k + 1)) < 4 - k
      omega
  ·
    refine W.exit ?_
    refine Then.exit ?_
    refine Then.exit ?_
    refine Blk.hit ?_
    refine Then.norm ?_
    refine W.seq ?_
    refine W.region ?_
    refine OpsL.val rfl rfl (r_move (v := v_5) rfl) ?_
    refine OpsL.val rfl rfl (r_assign (v := v_5) rfl) ?_
    refine OpsL.nil ?_
    refine Then.norm ?_
    refine W.ret ?_
    -- return r1
    refine Post.ret1 Tryz.results42 ?_
    obtain ⟨h48, le49, f50, st51⟩ := OSl.freeze (k := 0) st25 hO_5 rfl (by simp [hn]; omega)
    refine ⟨h48, _, rfl, st51.done, ?_⟩
    refine ⟨_, rfl, Sl.to f50 ?_⟩
    rw [hq, hf (by simpa using c27)]
end Go.Pk
