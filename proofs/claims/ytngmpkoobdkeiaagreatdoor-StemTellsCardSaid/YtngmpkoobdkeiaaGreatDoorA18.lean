/- A PART OF THE PROOF (printed by a program of the author's own): contracts of functions, each walked once. -/
import Derived.Test.YtngmpkoobdkeiaaGreatDoorA15
import Derived.Test.YtngmpkoobdkeiaaGreatDoorA17
namespace Go.Pk
open Go Go.RowKit Go.Proofs
set_option maxRecDepth 4000 in
theorem c_stem_Steps {h : Heap} {w : World} (hs : Sub h w) {t : Text} {t_v0 : Value} (t_f0 : Sl LChapter h t_v0 t.chapters) {x : Lexicon} {x_v0 : Value} (x_f0 : Sl LRule h x_v0 x.rules) {x_v1 : Value} (x_f1 : Sl LDecision h x_v1 x.decisions) (word : Str) (word_le : word.length ≤ 281474976710656) (K0 : Cells h 0 0 Tryz.glob0) : Calls Tryz.prog 10 #[.agg #[t_v0], .agg #[x_v0, x_v1], strV word] w (Rets h w (fun h' _ res_ => ∃ u0, res_ = .tuple #[u0, .int .i64 (stepsE t x word)] ∧ Sl LStr h' u0 (stepsR t x word))) := by
  refine W.calls (n := 25) (args := [.agg #[t_v0], .agg #[x_v0, x_v1], strV word]) Tryz.func10 rfl rfl rfl ?_
  have st0 : St h w h w [] := St.start hs
  have t_f0_b := t_f0.le
  have x_f0_b := x_f0.le
  have x_f1_b := x_f1.le
  refine W.seq ?_
  refine W.region ?_
  refine OpsL.boxF st0 (cs := [t_v0]) rfl rfl rfl ?_
  intro b1 w2 h3 le4 hc5 st6
  refine OpsL.boxF st6 (cs := [x_v0, x_v1]) rfl rfl rfl ?_
  intro b7 w8 h9 le10 hc11 st12
  refine OpsL.val rfl rfl (r_asL rfl) ?_
  refine OpsL.val rfl rfl (r_asI rfl) ?_
  refine OpsL.nil ?_
  refine Then.norm ?_
  refine W.seq ?_
  refine W.region ?_
  refine OpsL.val rfl rfl (r_load_call st12.sub (hc5.up le10) rfl Tryz.isAgg24 Tryz.sizeOf24 rfl) ?_
  refine OpsL.val rfl rfl (r_load_call st12.sub hc11 rfl Tryz.isAgg28 Tryz.sizeOf28 rfl) ?_
  refine OpsL.callF st12 rfl rfl rfl Tryz.call40 rfl (c_stem_open st12.sub (t := t) (t_f0.up (le4.trans le10)) (x := x) (x_f0.up (le4.trans le10)) (x_f1.up (le4.trans le10)) (K0.up (le4.trans le10))) ?_
  intro r13 w14 h15 le16 st17 q18
  rcases Bool.eq_false_or_eq_true (decide (checkN (t) (x) = 0)) with hb19 | hb19
  ·
    simp only [hb19, if_true, if_false, Bool.false_eq_true, reduceIte] at q18
    obtain ⟨v20, rfl, f21⟩ := q18
    obtain ⟨b22, vs23, rfl, hc24, hr25⟩ := f21
    obtain ⟨v26, v28, v30, v32, rfl, f27, f29, f31, lm33⟩ := hr25
    have f27_b := f27.le
    have f29_b := f29.le
    have f31_b := f31.le
    refine OpsL.val rfl rfl (r_mvT rfl) ?_
    refine OpsL.val rfl rfl (r_extract (v := (.pointer (some _))) rfl rfl) ?_
    refine OpsL.val rfl rfl (r_extract (v := (.int _ _)) rfl rfl) ?_
    refine OpsL.val rfl rfl (r_asP rfl) ?_
    refine OpsL.val rfl rfl (r_asI rfl) ?_
    refine OpsL.nil ?_
    refine Then.norm ?_
    refine W.seq ?_
    refine W.seq ?_
    refine W.region ?_
    refine OpsL.val rfl rfl (r_mvI rfl) ?_
    refine OpsL.val rfl rfl (r_neq rfl rfl) ?_
    refine OpsL.nil ?_
    refine Then.norm ?_
    refine W.cond rfl (fun c34 => ?_) (fun c34 => ?_)
    ·
      replace c34 := of_decide_eq_true c34
      refine W.seq ?_
      refine W.region ?_
      refine OpsL.val rfl rfl (r_mvI rfl) ?_
      refine OpsL.val rfl rfl (r_asL rfl) ?_
      refine OpsL.val rfl rfl (r_asI rfl) ?_
      refine OpsL.nil ?_
      refine Then.norm ?_
      refine W.ret ?_
      refine Then.ret ?_
      -- return r1
      refine Post.ret2 Tryz.results10 ?_
      refine ⟨h15, _, rfl, st17.done, ?_⟩
      refine ⟨_, tup2 rfl (int_eq ?_), Sl.to (Sl.nil _ _) ?_⟩
      all_goals simp_all [stepsR, stepsE, wordB]
    ·
      replace c34 := of_decide_eq_false c34
      refine W.skip ?_
      refine Then.norm ?_
      refine W.seq ?_
      refine W.seq ?_
      refine W.region ?_
      refine OpsL.val rfl rfl (r_mvS rfl) ?_
      refine OpsL.callF st17 rfl rfl rfl Tryz.call41 rfl (c_stem_letters st17.sub _ (by first | assumption | (simp [big]; done) | (simp [big]; omega) | omega) _) ?_
      intro r35 w36 h37 le38 st39 q40
      obtain rfl := q40
      refine OpsL.val rfl rfl (r_not rfl) ?_
      refine OpsL.nil ?_
      refine Then.norm ?_
      refine W.cond rfl (fun c41 => ?_) (fun c41 => ?_)
      ·
        refine W.seq ?_
        refine W.region ?_
        refine OpsL.val rfl rfl (r_asL rfl) ?_
        refine OpsL.val rfl rfl (r_asI rfl) ?_
        refine OpsL.nil ?_
        refine Then.norm ?_
        refine W.ret ?_
        refine Then.ret ?_
        -- return r2
        refine Post.ret2 Tryz.results10 ?_
        refine ⟨h37, _, rfl, st39.done, ?_⟩
        refine ⟨_, tup2 rfl (int_eq ?_), Sl.to (Sl.nil _ _) ?_⟩
        all_goals simp_all [stepsR, stepsE, wordB]
      ·
        refine W.skip ?_
        refine Then.norm ?_
        refine W.seq ?_
        refine W.region ?_
        refine OpsL.val rfl rfl (r_mvP rfl) ?_
        refine OpsL.val rfl rfl (r_mvS rfl) ?_
        refine OpsL.callF st39 rfl rfl rfl Tryz.call42 rfl (c_stem_office_steps st39.sub (o := (Office.mk (x) (t) (standM (x)))) (f27.up le38) (f29.up le38) (f31.up le38) (lm33.up le38) (hc24.up le38) _ (by first | assumption | (simp [big]; done) | (simp [big]; omega) | omega) (by exact word_len (show wordB word = true by simpa [wordB] using c41))) ?_
        intro r42 w43 h44 le45 st46 q47
        obtain ⟨v48, e50, f49⟩ := q47
        rw [← e50] at f49
        have f49_b := f49.le
        refine OpsL.val rfl rfl (r_assign (v := r42) rfl) ?_
        refine OpsL.val rfl rfl (r_asI rfl) ?_
        refine OpsL.nil ?_
        refine Then.norm ?_
        refine W.ret ?_
        -- return r3
        refine Post.ret2 Tryz.results10 ?_
        refine ⟨h44, _, rfl, st46.done, ?_⟩
        refine ⟨_, tup2 rfl (int_eq ?_), Sl.to f49 ?_⟩
        all_goals simp_all [stepsR, stepsE, wordB]
  ·
    simp only [hb19, if_true, if_false, Bool.false_eq_true, reduceIte] at q18
    obtain ⟨v51, rfl, f52⟩ := q18
    obtain rfl := f52
    refine OpsL.val rfl rfl (r_mvT rfl) ?_
    refine OpsL.val rfl rfl (r_extract (v := (.pointer none)) rfl rfl) ?_
    refine OpsL.val rfl rfl (r_extract (v := (.int _ _)) rfl rfl) ?_
    refine OpsL.val rfl rfl (r_assign rfl) ?_
    refine OpsL.val rfl rfl (r_asI rfl) ?_
    refine OpsL.nil ?_
    refine Then.norm ?_
    refine W.seq ?_
    refine W.seq ?_
    refine W.region ?_
    refine OpsL.val rfl rfl (r_mvI rfl) ?_
    refine OpsL.val rfl rfl (r_neq rfl rfl) ?_
    refine OpsL.nil ?_
    refine Then.norm ?_
    refine W.cond rfl (fun c53 => ?_) (fun c53 => ?_)
    ·
      replace c53 := of_decide_eq_true c53
      refine W.seq ?_
      refine W.region ?_
      refine OpsL.val rfl rfl (r_mvI rfl) ?_
      refine OpsL.val rfl rfl (r_asL rfl) ?_
      refine OpsL.val rfl rfl (r_asI rfl) ?_
      refine OpsL.nil ?_
      refine Then.norm ?_
      refine W.ret ?_
      refine Then.ret ?_
      -- return r4
      refine Post.ret2 Tryz.results10 ?_
      refine ⟨h15, _, rfl, st17.done, ?_⟩
      refine ⟨_, tup2 rfl (int_eq ?_), Sl.to (Sl.nil _ _) ?_⟩
      all_goals simp_all [stepsR, stepsE, wordB]
    ·
      replace c53 := of_decide_eq_false c53
      exfalso
      simp_all
set_option maxRecDepth 4000 in
theorem c_stem_Standing {h : Heap} {w : World} (hs : Sub h w) {t : Text} {t_v0 : Value} (t_f0 : Sl LChapter h t_v0 t.chapters) {x : Lexicon} {x_v0 : Value} (x_f0 : Sl LRule h x_v0 x.rules) {x_v1 : Value} (x_f1 : Sl LDecision h x_v1 x.decisions) (K0 : Cells h 0 0 Tryz.glob0) : Calls Tryz.prog 12 #[.agg #[t_v0], .agg #[x_v0, x_v1]] w (Rets h w (fun h' _ res_ => ∃ u0, res_ = .tuple #[u0, .int .i64 (checkN t x)] ∧ Sl LInt h' u0 (standingN t x))) := by
  refine W.calls (n := 35) (args := [.agg #[t_v0], .agg #[x_v0, x_v1]]) Tryz.func12 rfl rfl rfl ?_
  have st0 : St h w h w [] := St.start hs
  have t_f0_b := t_f0.le
  have x_f0_b := x_f0.le
  have x_f1_b := x_f1.le
  refine W.seq ?_
  refine W.region ?_
  refine OpsL.boxF st0 (cs := [t_v0]) rfl rfl rfl ?_
  intro b1 w2 h3 le4 hc5 st6
  refine OpsL.boxF st6 (cs := [x_v0, x_v1]) rfl rfl rfl ?_
  intro b7 w8 h9 le10 hc11 st12
  refine OpsL.val rfl rfl (r_asL rfl) ?_
  refine OpsL.val rfl rfl (r_asI rfl) ?_
  refine OpsL.nil ?_
  refine Then.norm ?_
  refine W.seq ?_
  refine W.region ?_
  refine OpsL.val rfl rfl (r_load_call st12.sub (hc5.up le10) rfl Tryz.isAgg24 Tryz.sizeOf24 rfl) ?_
  refine OpsL.val rfl rfl (r_load_call st12.sub hc11 rfl Tryz.isAgg28 Tryz.sizeOf28 rfl) ?_
  refine OpsL.callF st12 rfl rfl rfl Tryz.call40 rfl (c_stem_open st12.sub (t := t) (t_f0.up (le4.trans le10)) (x := x) (x_f0.up (le4.trans le10)) (x_f1.up (le4.trans le10)) (K0.up (le4.trans le10))) ?_
  intro r13 w14 h15 le16 st17 q18
  rcases Bool.eq_false_or_eq_true (decide (checkN (t) (x) = 0)) with hb19 | hb19
  ·
    simp only [hb19, if_true, if_false, Bool.false_eq_true, reduceIte] at q18
    obtain ⟨v20, rfl, f21⟩ := q18
    obtain ⟨b22, vs23, rfl, hc24, hr25⟩ := f21
    obtain ⟨v26, v28, v30, v32, rfl, f27, f29, f31, lm33⟩ := hr25
    have f27_b := f27.le
    have f29_b := f29.le
    have f31_b := f31.le
    refine OpsL.val rfl rfl (r_mvT rfl) ?_
    refine OpsL.val rfl rfl (r_extract (v := (.pointer (some _))) rfl rfl) ?_
    refine OpsL.val rfl rfl (r_extract (v := (.int _ _)) rfl rfl) ?_
    refine OpsL.val rfl rfl (r_asP rfl) ?_
    refine OpsL.val rfl rfl (r_asI rfl) ?_
    refine OpsL.nil ?_
    refine Then.norm ?_
    refine W.seq ?_
    refine W.seq ?_
    refine W.region ?_
    refine OpsL.val rfl rfl (r_mvI rfl) ?_
    refine OpsL.val rfl rfl (r_neq rfl rfl) ?_
    refine OpsL.nil ?_
    refine Then.norm ?_
    refine W.cond rfl (fun c34 => ?_) (fun c34 => ?_)
    ·
      replace c34 := of_decide_eq_true c34
      refine W.seq ?_
      refine W.region ?_
      refine OpsL.val rfl rfl (r_mvI rfl) ?_
      refine OpsL.val rfl rfl (r_asL rfl) ?_
      refine OpsL.val rfl rfl (r_asI rfl) ?_
      refine OpsL.nil ?_
      refine Then.norm ?_
      refine W.ret ?_
      refine Then.ret ?_
      -- return r1
      refine Post.ret2 Tryz.results12 ?_
      refine ⟨h15, _, rfl, st17.done, ?_⟩
      refine ⟨_, tup2 rfl (int_eq ?_), Sl.to (Sl.nil _ _) ?_⟩
      all_goals simp_all [standingN]
    ·
      replace c34 := of_decide_eq_false c34
      refine W.skip ?_
      refine Then.norm ?_
      refine W.seq ?_
      refine W.region ?_
      refine OpsL.val rfl rfl (r_asL rfl) ?_
      refine OpsL.nil ?_
      refine Then.norm ?_
      refine W.seq ?_
      refine W.seq ?_
      have hck : checkN t x = 0 := by simpa using c34
      have hml : (standM x).length ≤ 20 := standM_len hck
      refine W.region ?_
      refine OpsL.val rfl rfl (r_mvP rfl) ?_
      refine OpsL.val rfl rfl (r_nil_check rfl) ?_
      refine OpsL.val rfl rfl (r_field_addr rfl Tryz.underlying103 rfl Tryz.sizeOf101 rfl) ?_
      refine OpsL.val rfl rfl (r_load_cells1 (j := 3) st17.sub hc24 rfl rfl rfl Tryz.isAgg101) ?_
      refine OpsL.rangeM st17 lm33.1 rfl Tryz.underlying101 rfl ?_
      intro o35 vi36 w37 hI38 st39
      refine OpsL.nil ?_
      refine Then.norm ?_
      refine W.block ?_
      have st43 := st39.snoc
      have f44 := OSl.nil LInt 3 h15
      refine W.loopI [8, 9, 24, 25, 26, 27, 28, 29, 30, 31] (G := List (Int × Decision) × List (Int × Decision) × Value × List (Nat × Obj) × List (Nat × Obj) × Heap) (fun ⟨dn, rm, v_8, o_8, o_23, h40⟩ => [(8, v_8)]) (fun ⟨dn, rm, v_8, o_8, o_23, h40⟩ w' => Le h15 h40 ∧ St h w h40 w' [o_23, o_8] ∧ (OSl LInt 3 h40 v_8 (dn.map (·.1)) o_8) ∧ (MI (fun n : Int => .int .i64 n) (fun x => .agg ((fun x : Decision => [.int .i64 x.number, .int .u8 x.kind, strV x.form, .int .i64 x.at_.chapter, .int .i64 x.at_.line, .int .i64 x.at_.word, strV x.to.stem, .int .u8 x.to.mark, .int .i64 x.of_]) x).toArray) h40 v32 o_23 vi36 rm) ∧ ((dn ++ rm).Perm (standM x))) (fun ⟨dn, rm, v_8, o_8, o_23, h40⟩ => rm.length) ⟨[], (standM x), (.slice none 0 0), [], o35, h15⟩ ⟨rfl, trivial⟩ ⟨Le.refl _, st43, (OSl.to f44 (by rfl)), hI38, (by exact List.Perm.refl _)⟩ ?_
      rintro ⟨dn, rm, v_8, o_8, o_23, h40⟩ _ w45 ⟨le41, st42, hO_8, hI_23, hpd⟩
      refine W.seq ?_
      refine W.region ?_
      refine OpsL.nextM (i := 0) st42 hI_23 rfl rfl rfl (fun e46 w47 st48 => ?_) (fun p49 rm50 o51 w56 _ e57 hp54 hI52 hC53 st55 => ?_)
      ·
        refine OpsL.val rfl rfl (r_extract (v := (.bool _)) rfl rfl) ?_
        refine OpsL.nil ?_
        refine Then.norm ?_
        refine W.seq ?_
        refine W.cond rfl (fun c58 => ?_) (fun c58 => ?_)
        ·
          cases c58
        ·
          refine W.exit ?_
          refine Then.exit ?_
          refine Then.exit ?_
          refine Blk.hit ?_
          refine Then.norm ?_
          refine W.seq ?_
          have hdn : dn.Perm (standM x) := by
            have q := hpd
            rw [e46, List.append_nil] at q
            exact q
          have hdl := hdn.length_eq
          refine W.region ?_
          refine OpsL.val rfl rfl (r_move (v := v_8) rfl) ?_
          have con := sort1 (L := LInt) (T := 3) (f := 45) (fun n : Int => .int .i64 n) id rfl (fun l => l.mergeSort fun a b => decide (a ≤ b)) (fun l => List.mergeSort_perm _ _) (fun blk off cap zs w hH hb hs => Tryz.slices_Sort_int blk off cap zs w hH hb hs) (fun p cap w => Tryz.slices_Sort_int_none p cap w) (i := 1) st48 hO_8 rfl (by simp only [List.length_map]; omega)
          refine OpsL.calls rfl rfl (run_call rfl Tryz.call45 rfl) (con.mono ?_)
          rintro _ w59 ⟨rfl, o60, _, e61, f62, st63⟩
          subst e61
          refine ⟨_, rfl, ?_⟩
          clear con
          have f64 := OSl.to f62 (show _ = (standingN t x) from (standing_eq (okD_of hck) hdn).trans (by rw [standingN, if_pos hck]))
          refine OpsL.nil ?_
          refine Then.norm ?_
          refine W.seq ?_
          refine W.region ?_
          refine OpsL.val rfl rfl (r_move (v := v_8) rfl) ?_
          refine OpsL.val rfl rfl (r_assign (v := v_8) rfl) ?_
          refine OpsL.val rfl rfl (r_asI rfl) ?_
          refine OpsL.nil ?_
          refine Then.norm ?_
          refine W.ret ?_
          -- return r2
          refine Post.ret2 Tryz.results12 ?_
          obtain ⟨h65, le66, f67, st68⟩ := OSl.freeze (k := 1) st63 f64 rfl (by have q := standingN_len t x; omega)
          refine ⟨h65, _, rfl, st68.done, ?_⟩
          refine ⟨_, tup2 rfl (int_eq ?_), Sl.to f67 ?_⟩
          all_goals simp_all [standingN]
      ·
        subst e57
        refine OpsL.val rfl rfl (r_extract (v := (.bool _)) rfl rfl) ?_
        refine OpsL.nil ?_
        refine Then.norm ?_
        refine W.seq ?_
        refine W.cond rfl (fun c69 => ?_) (fun c69 => ?_)
        ·
          refine W.skip ?_
          refine Then.norm ?_
          refine W.block ?_
          refine W.seq ?_
          refine W.region ?_
          refine OpsL.val rfl rfl (r_entry st55.sub hC53 (st55.ent (k := 0) rfl) rfl) ?_
          refine OpsL.val rfl rfl (r_extract (v := (.int _ _)) rfl rfl) ?_
          refine OpsL.val rfl rfl (r_asI rfl) ?_
          refine OpsL.nil ?_
          refine Then.norm ?_
          refine W.region ?_
          refine OpsL.val rfl rfl (r_move (v := v_8) rfl) ?_
          refine OpsL.val rfl rfl (r_mvI rfl) ?_
          refine OpsL.sliceF (L := LInt) (xs := [p49.1]) (cs := [.int .i64 p49.1]) st55 (Enc.cons (L := LInt) (vs := [.int .i64 p49.1]) (x := p49.1) (h := h40) (rfl) Enc.nil) rfl rfl rfl Tryz.underlying39 Tryz.info3 rfl rfl rfl (by kernel_rfl) ?_
          intro v70 w71 h74 le75 f72 st73
          refine OpsL.append (k := 1) (nb := 8) st73 (hO_8.up le75) rfl f72 rfl rfl rfl Tryz.underlying39 Tryz.info3 rfl rfl rfl (by decide) rfl (by have q := hpd.length_eq; simp only [List.length_append, List.length_map, List.length_cons, List.length_nil] at *; omega) (by have q := hpd.length_eq; simp only [List.length_append, List.length_map, List.length_cons, List.length_nil] at *; omega) ?_
          intro v76 o77 w78 _ e79 f80 st81
          subst e79
          refine OpsL.val rfl rfl (r_assign (v := v76) rfl) ?_
          refine OpsL.nil ?_
          refine Blk.norm ?_
          refine Then.norm ?_
          refine ⟨⟨dn ++ [p49], rm50, v76, o77, o51, h74⟩, ⟨rfl, trivial⟩, ?_, ⟨(le41.trans le75), st81, ?_, ?_, ?_⟩, ?_⟩
          · repeat (first | exact Agree.mix _ _ _ | exact Agree.refl _ _ | refine Agree.updO rfl ?_ | refine Agree.upd rfl ?_ | refine Agree.known rfl ?_ | refine Agree.sub rfl ?_)
          · refine OSl.to f80 ?_
            rw [List.map_append]; rfl
          · exact (hI52.up le75)
          · exact perm_step hpd hp54
          · show ((rm50)).length < rm.length
            have q := hp54.length_eq; simp only [List.length_cons] at q; omega
        ·
          cases c69
  ·
    simp only [hb19, if_true, if_false, Bool.false_eq_true, reduceIte] at q18
    obtain ⟨v82, rfl, f83⟩ := q18
    obtain rfl := f83
    refine OpsL.val rfl rfl (r_mvT rfl) ?_
    refine OpsL.val rfl rfl (r_extract (v := (.pointer none)) rfl rfl) ?_
    refine OpsL.val rfl rfl (r_extract (v := (.int _ _)) rfl rfl) ?_
    refine OpsL.val rfl rfl (r_assign rfl) ?_
    refine OpsL.val rfl rfl (r_asI rfl) ?_
    refine OpsL.nil ?_
    refine Then.norm ?_
    refine W.seq ?_
    refine W.seq ?_
    refine W.region ?_
    refine OpsL.val rfl rfl (r_mvI rfl) ?_
    refine OpsL.val rfl rfl (r_neq rfl rfl) ?_
    refine OpsL.nil ?_
    refine Then.norm ?_
    refine W.cond rfl (fun c84 => ?_) (fun c84 => ?_)
    ·
      replace c84 := of_decide_eq_true c84
      refine W.seq ?_
      refine W.region ?_
      refine OpsL.val rfl rfl (r_mvI rfl) ?_
      refine OpsL.val rfl rfl (r_asL rfl) ?_
      refine OpsL.val rfl rfl (r_asI rfl) ?_
      refine OpsL.nil ?_
      refine Then.norm ?_
      refine W.ret ?_
      refine Then.ret ?_
      -- return r3
      refine Post.ret2 Tryz.results12 ?_
      refine ⟨h15, _, rfl, st17.done, ?_⟩
      refine ⟨_, tup2 rfl (int_eq ?_), Sl.to (Sl.nil _ _) ?_⟩
      all_goals simp_all [standingN]
    ·
      replace c84 := of_decide_eq_false c84
      exfalso
      simp_all
end Go.Pk
