/- A PART OF THE PROOF (printed by a program of the author's own): contracts of functions, each walked once. -/
import Derived.Test.YtngmpkoobdkeiaaGreatDoorA02
namespace Go.Pk
open Go Go.RowKit Go.Proofs
set_option maxRecDepth 4000 in
theorem c_postilref04_Made {h : Heap} {w : World} (hs : Sub h w) {r : Rule} (r_l1 : r.cut.length ≤ 281474976710656) (r_l2 : r.put.length ≤ 281474976710656) (word : Str) (word_le : word.length ≤ 281474976710656) (hr1 : 1 ≤ r.least) : Calls Tryz.prog 85 #[.agg #[strV r.cut, strV r.put, .int .i64 r.least], strV word] w (Rets h w (fun _ _ res_ => res_ = .tuple #[strV ((made r word).getD []), .bool ((made r word).isSome)])) := by
  refine W.calls (n := 39) (args := [.agg #[strV r.cut, strV r.put, .int .i64 r.least], strV word]) Tryz.func85 rfl rfl rfl ?_
  have st0 : St h w h w [] := St.start hs
  refine W.seq ?_
  refine W.region ?_
  refine OpsL.boxF st0 (cs := [strV (r.cut), strV (r.put), .int .i64 (r.least)]) rfl rfl rfl ?_
  intro b1 w2 h3 le4 hc5 st6
  refine OpsL.val rfl rfl (r_asS rfl) ?_
  refine OpsL.val rfl rfl (r_asB rfl) ?_
  refine OpsL.nil ?_
  refine Then.norm ?_
  refine W.seq ?_
  refine W.region ?_
  refine OpsL.val rfl rfl (r_mvS rfl) ?_
  refine OpsL.val rfl rfl (r_len_str rfl Tryz.underlying9) ?_
  refine OpsL.val rfl rfl (r_field_addr rfl Tryz.underlying70 rfl Tryz.sizeOf9 rfl) ?_
  refine OpsL.val rfl rfl (r_load_cells1 (j := 0) st6.sub hc5 rfl rfl rfl Tryz.isAgg9) ?_
  refine OpsL.val rfl rfl (r_len_str rfl Tryz.underlying9) ?_
  refine OpsL.val rfl rfl (r_sub rfl rfl (by first | omega | (simp; omega))) ?_
  refine OpsL.val rfl rfl (r_asI rfl) ?_
  refine OpsL.nil ?_
  refine Then.norm ?_
  refine W.seq ?_
  refine W.seq ?_
  refine W.regionQ Tryz.mixed (by kernel_rfl) (Cls h3 _) (Cls.drew st6) ?_
  refine OpsQ.val rfl rfl (fun _ _ => (r_mvI rfl)) ?_
  refine OpsQ.val rfl rfl (fun _ _ => (r_field_addr rfl Tryz.underlying70 rfl Tryz.sizeOf3 rfl)) ?_
  refine OpsQ.val rfl rfl (fun _ hC => (r_load_cells1 (j := 2) hC.sub hc5 rfl rfl rfl Tryz.isAgg3)) ?_
  refine OpsQ.val rfl rfl (fun _ _ => (r_lss rfl rfl)) ?_
  refine OpsQ.val rfl rfl (fun _ _ => (r_mvB rfl)) ?_
  refine OpsQ.split (d := 17) rfl (fun g7 => ?_) (fun g7 => ?_)
  ·
    replace g7 := of_decide_eq_true g7
    refine OpsQ.skipped rfl rfl (d := 17) rfl rfl rfl ?_
    refine OpsQ.skipped rfl rfl (d := 17) rfl rfl rfl ?_
    refine OpsQ.skipped rfl rfl (d := 17) rfl rfl rfl ?_
    refine OpsQ.skipped rfl rfl (d := 17) rfl rfl rfl ?_
    refine OpsQ.skipped rfl rfl (d := 17) rfl rfl rfl ?_
    refine OpsQ.skipped rfl rfl (d := 17) rfl rfl rfl ?_
    refine OpsQ.val rfl rfl (fun _ _ => (r_pickT (v := (.bool _)) rfl rfl)) ?_
    refine OpsQ.val rfl rfl (fun _ _ => (r_mvB rfl)) ?_
    refine OpsQ.skipped rfl rfl (d := 25) rfl rfl rfl ?_
    refine OpsQ.skipped rfl rfl (d := 25) rfl rfl rfl ?_
    refine OpsQ.skipped rfl rfl (d := 25) rfl rfl rfl ?_
    refine OpsQ.skipped rfl rfl (d := 25) rfl rfl rfl ?_
    refine OpsQ.skipped rfl rfl (d := 25) rfl rfl rfl ?_
    refine OpsQ.skipped rfl rfl (d := 25) rfl rfl rfl ?_
    refine OpsQ.val rfl rfl (fun _ _ => (r_pickT (v := (.bool _)) rfl rfl)) ?_
    refine OpsQ.nil ?_
    rintro w8 ⟨h9, s10⟩
    have st11 := st6.call0 s10
    refine Then.norm ?_
    refine W.cond rfl (fun c12 => ?_) (fun c12 => ?_)
    ·
      refine W.seq ?_
      refine W.region ?_
      refine OpsL.val rfl rfl (r_asS rfl) ?_
      refine OpsL.val rfl rfl (r_asB rfl) ?_
      refine OpsL.nil ?_
      refine Then.norm ?_
      refine W.ret ?_
      refine Then.ret ?_
      -- return r1
      refine Post.ret2 Tryz.results85 ?_
      have q : made r word = none := by
        unfold made
        rw [if_neg]
        rintro ⟨q1, q2, q3, q4⟩
        first | omega | exact absurd q3 (by assumption)
      refine ⟨h9, _, rfl, st11.done, ?_⟩
      refine tup2 (str_eq ?_) (bool_eq ?_)
      all_goals simp [q]
    ·
      cases c12
  ·
    replace g7 := of_decide_eq_false g7
    refine OpsQ.guarded rfl rfl (d := 17) rfl ?_
    refine OpsQ.val rfl rfl (fun _ _ => (r_mvS rfl)) ?_
    refine OpsQ.guarded rfl rfl (d := 17) rfl ?_
    refine OpsQ.val rfl rfl (fun _ _ => (r_mvI rfl)) ?_
    refine OpsQ.guarded rfl rfl (d := 17) rfl ?_
    refine OpsQ.val rfl rfl (fun _ _ => (r_slice_from rfl rfl (hk := (show _ = ((word.length - r.cut.length : Nat) : Int) by omega)) (hle := by omega) (hu := Tryz.underlying9))) ?_
    refine OpsQ.guarded rfl rfl (d := 17) rfl ?_
    refine OpsQ.val rfl rfl (fun _ _ => (r_field_addr rfl Tryz.underlying70 rfl Tryz.sizeOf9 rfl)) ?_
    refine OpsQ.guarded rfl rfl (d := 17) rfl ?_
    refine OpsQ.val rfl rfl (fun _ hC => (r_load_cells1 (j := 0) hC.sub hc5 rfl rfl rfl Tryz.isAgg9)) ?_
    refine OpsQ.guarded rfl rfl (d := 17) rfl ?_
    refine OpsQ.val rfl rfl (fun _ _ => (r_sneq rfl rfl)) ?_
    refine OpsQ.val rfl rfl (fun _ _ => (r_pickF (v := (.bool _)) rfl rfl)) ?_
    refine OpsQ.val rfl rfl (fun _ _ => (r_mvB rfl)) ?_
    refine OpsQ.split (d := 25) rfl (fun g13 => ?_) (fun g13 => ?_)
    ·
      replace g13 := of_decide_eq_true g13
      refine OpsQ.skipped rfl rfl (d := 25) rfl rfl rfl ?_
      refine OpsQ.skipped rfl rfl (d := 25) rfl rfl rfl ?_
      refine OpsQ.skipped rfl rfl (d := 25) rfl rfl rfl ?_
      refine OpsQ.skipped rfl rfl (d := 25) rfl rfl rfl ?_
      refine OpsQ.skipped rfl rfl (d := 25) rfl rfl rfl ?_
      refine OpsQ.skipped rfl rfl (d := 25) rfl rfl rfl ?_
      refine OpsQ.val rfl rfl (fun _ _ => (r_pickT (v := (.bool _)) rfl rfl)) ?_
      refine OpsQ.nil ?_
      rintro w14 ⟨h15, s16⟩
      have st17 := st6.call0 s16
      refine Then.norm ?_
      refine W.cond rfl (fun c18 => ?_) (fun c18 => ?_)
      ·
        refine W.seq ?_
        refine W.region ?_
        refine OpsL.val rfl rfl (r_asS rfl) ?_
        refine OpsL.val rfl rfl (r_asB rfl) ?_
        refine OpsL.nil ?_
        refine Then.norm ?_
        refine W.ret ?_
        refine Then.ret ?_
        -- return r2
        refine Post.ret2 Tryz.results85 ?_
        have q : made r word = none := by
          unfold made
          rw [if_neg]
          rintro ⟨q1, q2, q3, q4⟩
          first | omega | exact absurd q3 (by assumption)
        refine ⟨h15, _, rfl, st17.done, ?_⟩
        refine tup2 (str_eq ?_) (bool_eq ?_)
        all_goals simp [q]
      ·
        cases c18
    ·
      replace g13 := of_decide_eq_false g13
      refine OpsQ.guarded rfl rfl (d := 25) rfl ?_
      refine OpsQ.val rfl rfl (fun _ _ => (r_mvI rfl)) ?_
      refine OpsQ.guarded rfl rfl (d := 25) rfl ?_
      refine OpsQ.val rfl rfl (fun _ _ => (r_field_addr rfl Tryz.underlying70 rfl Tryz.sizeOf9 rfl)) ?_
      refine OpsQ.guarded rfl rfl (d := 25) rfl ?_
      refine OpsQ.val rfl rfl (fun _ hC => (r_load_cells1 (j := 1) hC.sub hc5 rfl rfl rfl Tryz.isAgg9)) ?_
      refine OpsQ.guarded rfl rfl (d := 25) rfl ?_
      refine OpsQ.val rfl rfl (fun _ _ => (r_len_str rfl Tryz.underlying9)) ?_
      refine OpsQ.guarded rfl rfl (d := 25) rfl ?_
      refine OpsQ.val rfl rfl (fun _ _ => (r_add rfl rfl (by first | omega | (simp; omega)))) ?_
      refine OpsQ.guarded rfl rfl (d := 25) rfl ?_
      refine OpsQ.val rfl rfl (fun _ _ => (r_gtr rfl rfl)) ?_
      refine OpsQ.val rfl rfl (fun _ _ => (r_pickF (v := (.bool _)) rfl rfl)) ?_
      refine OpsQ.nil ?_
      rintro w19 ⟨h20, s21⟩
      have st22 := st6.call0 s21
      refine Then.norm ?_
      refine W.cond rfl (fun c23 => ?_) (fun c23 => ?_)
      ·
        replace c23 := of_decide_eq_true c23
        refine W.seq ?_
        refine W.region ?_
        refine OpsL.val rfl rfl (r_asS rfl) ?_
        refine OpsL.val rfl rfl (r_asB rfl) ?_
        refine OpsL.nil ?_
        refine Then.norm ?_
        refine W.ret ?_
        refine Then.ret ?_
        -- return r3
        refine Post.ret2 Tryz.results85 ?_
        have q : made r word = none := by
          unfold made
          rw [if_neg]
          rintro ⟨q1, q2, q3, q4⟩
          first | omega | exact absurd q3 (by assumption)
        refine ⟨h20, _, rfl, st22.done, ?_⟩
        refine tup2 (str_eq ?_) (bool_eq ?_)
        all_goals simp [q]
      ·
        replace c23 := of_decide_eq_false c23
        refine W.skip ?_
        refine Then.norm ?_
        refine W.seq ?_
        refine W.regionQ Tryz.mixed (by kernel_rfl) (Cls h20 _) (Cls.drew st22) ?_
        refine OpsQ.val rfl rfl (fun _ _ => (r_mvS rfl)) ?_
        refine OpsQ.val rfl rfl (fun _ _ => (r_mvI rfl)) ?_
        refine OpsQ.val rfl rfl (fun _ _ => (r_slice_to rfl rfl (hk := (show _ = ((word.length - r.cut.length : Nat) : Int) by omega)) (hle := by omega) (hu := Tryz.underlying9))) ?_
        refine OpsQ.val rfl rfl (fun _ _ => (r_field_addr rfl Tryz.underlying70 rfl Tryz.sizeOf9 rfl)) ?_
        refine OpsQ.val rfl rfl (fun _ hC => (r_load_cells1 (j := 1) hC.sub (hc5.up s21.le) rfl rfl rfl Tryz.isAgg9)) ?_
        refine OpsQ.val rfl rfl (fun _ _ => (r_sadd rfl rfl (by first | omega | (simp; omega)))) ?_
        refine OpsQ.val rfl rfl (fun _ _ => (r_asS rfl)) ?_
        refine OpsQ.val rfl rfl (fun _ _ => (r_asB rfl)) ?_
        refine OpsQ.nil ?_
        rintro w24 ⟨h25, s26⟩
        have st27 := st22.call0 s26
        refine Then.norm ?_
        refine W.ret ?_
        -- return r4
        refine Post.ret2 Tryz.results85 ?_
        have q : made r word = some (word.take (word.length - r.cut.length) ++ r.put) := by
          unfold made
          rw [if_pos ⟨by omega, by omega, by simpa using g13, by omega⟩]
        refine ⟨h25, _, rfl, st27.done, ?_⟩
        refine tup2 (str_eq ?_) (bool_eq ?_)
        all_goals simp [q]
set_option maxRecDepth 4000 in
theorem c_postilref04_steps {h : Heap} {w : World} (hs : Sub h w) {x : Lexicon} {x_v0 : Value} (x_f0 : Sl LRule h x_v0 x.rules) {x_v1 : Value} (x_f1 : Sl LDecision h x_v1 x.decisions) (word : Str) (word_le : word.length ≤ 281474976710656) (hx : ∀ r ∈ x.rules, 1 ≤ r.least) (hw : word.length ≤ 12) : Calls Tryz.prog 44 #[.agg #[x_v0, x_v1], strV word] w (Rets h w (fun h' _ res_ => ∃ u0, res_ = u0 ∧ Sl LStr h' u0 (stepsN x.rules 4 word))) := by
  refine W.calls (n := 49) (args := [.agg #[x_v0, x_v1], strV word]) Tryz.func44 rfl rfl rfl ?_
  have st0 : St h w h w [] := St.start hs
  have x_f0_b := x_f0.le
  have x_f1_b := x_f1.le
  refine W.seq ?_
  refine W.region ?_
  refine OpsL.boxF st0 (cs := [x_v0, x_v1]) rfl rfl rfl ?_
  intro b1 w2 h3 le4 hc5 st6
  refine OpsL.val rfl rfl (r_asL rfl) ?_
  refine OpsL.nil ?_
  refine Then.norm ?_
  refine W.seq ?_
  refine W.region ?_
  refine OpsL.val rfl rfl (r_mvS rfl) ?_
  refine OpsL.sliceO (L := LStr) (xs := [word]) (cs := [strV word]) st6 (Enc.cons (L := LStr) (vs := [strV word]) (x := word) (h := h3) (⟨rfl, by first | assumption | (simp [big]; done) | (simp [big]; omega) | omega⟩) Enc.nil) rfl rfl rfl Tryz.underlying33 Tryz.info9 rfl rfl rfl rfl (by kernel_rfl) ?_
  intro v7 o11 w8 f9 st10
  refine OpsL.val rfl rfl (r_assign (v := v7) rfl) ?_
  refine OpsL.nil ?_
  refine Then.norm ?_
  refine W.seq ?_
  refine W.seq ?_
  refine W.region ?_
  refine OpsL.val rfl rfl (r_asI rfl) ?_
  refine OpsL.nil ?_
  refine Then.norm ?_
  refine W.block ?_
  refine W.loopI [5, 6, 7, 8, 9, 10, 13, 14, 15, 16, 17, 18, 19, 20, 21, 22, 23, 24, 25, 26, 27, 28, 29, 30, 31, 32, 33, 34, 35, 36, 37, 38, 39, 40, 41, 42, 43, 44, 45, 46, 47] (G := Nat × List Str × Str × Value × List (Nat × Obj) × Heap) (fun ⟨turn, ini, la, v_5, o_5, h12⟩ => [(5, v_5), (6, .int .i64 (turn : Int))]) (fun ⟨turn, ini, la, v_5, o_5, h12⟩ w' => Le h3 h12 ∧ St h w h12 w' [o_5] ∧ (OSl LStr 9 h12 v_5 (ini ++ [la]) o_5) ∧ (turn ≤ 4) ∧ (ini.length = turn) ∧ (la.length ≤ 12) ∧ (stepsN x.rules 4 word = ini ++ stepsN x.rules (4 - turn) la)) (fun ⟨turn, ini, la, v_5, o_5, h12⟩ => 4 - turn) ⟨0, [], word, v7, o11, h3⟩ ⟨rfl, rfl, trivial⟩ ⟨Le.refl _, st10, (OSl.to f9 (by rfl)), (by first | omega | simp | trivial), (by first | omega | simp | trivial), (by first | omega | simp | trivial), (by rfl)⟩ ?_
  rintro ⟨turn, ini, la, v_5, o_5, h12⟩ _ w15 ⟨le13, st14, hO_5, ht, hn, hla, hq⟩
  refine W.seq ?_
  refine W.seq ?_
  refine W.region ?_
  refine OpsL.val rfl rfl (r_mvI rfl) ?_
  refine OpsL.val rfl rfl (r_lss rfl rfl) ?_
  refine OpsL.nil ?_
  refine Then.norm ?_
  refine W.cond rfl (fun c16 => ?_) (fun c16 => ?_)
  ·
    replace c16 := of_decide_eq_true c16
    refine W.skip ?_
    refine Then.norm ?_
    refine W.seq ?_
    refine W.block ?_
    refine W.seq ?_
    refine W.region ?_
    refine OpsL.val rfl rfl (r_asS rfl) ?_
    refine OpsL.nil ?_
    refine Then.norm ?_
    refine W.seq ?_
    refine W.seq ?_
    refine W.region ?_
    refine OpsL.val rfl rfl (r_field_addr rfl Tryz.underlying28 rfl Tryz.sizeOf25 rfl) ?_
    refine OpsL.val rfl rfl (r_load_cells1 (j := 0) st14.sub (hc5.up le13) rfl rfl rfl Tryz.isAgg25) ?_
    refine OpsL.val rfl rfl (r_len (x_f0.up (le4.trans le13)) rfl Tryz.underlying25) ?_
    refine OpsL.val rfl rfl (r_sub rfl rfl (by first | omega | (simp; omega))) ?_
    refine OpsL.val rfl rfl (r_asI rfl) ?_
    refine OpsL.nil ?_
    refine Then.norm ?_
    refine W.block ?_
    refine W.loopI [5, 7, 8, 9, 10, 21, 22, 23, 24, 25, 26, 27, 28, 29, 30, 31, 32, 33, 34, 35, 36, 37, 38, 39, 40, 41] (G := Nat × Str × Value × List (Nat × Obj) × Heap) (fun ⟨m, nx, v_5, o_5, h17⟩ => [(5, v_5), (7, strV nx), (8, .int .i64 ((m : Int) - 1))]) (fun ⟨m, nx, v_5, o_5, h17⟩ w' => Le h12 h17 ∧ St h w h17 w' [o_5] ∧ (OSl LStr 9 h17 v_5 (ini ++ [la]) o_5) ∧ (m ≤ x.rules.length) ∧ (nx.length ≤ 12) ∧ (nx = (stepOf (x.rules.drop m) la).getD [])) (fun ⟨m, nx, v_5, o_5, h17⟩ => m) ⟨x.rules.length, [], v_5, o_5, h12⟩ ⟨rfl, rfl, rfl, trivial⟩ ⟨Le.refl _, st14, (OSl.to hO_5 (by rfl)), (by first | omega | simp | trivial), (by first | omega | simp | trivial), (by simp [stepOf])⟩ ?_
    rintro ⟨m, nx, v_5, o_5, h17⟩ _ w20 ⟨le18, st19, hO_5, hm, hl, hnx⟩
    refine W.seq ?_
    refine W.seq ?_
    refine W.region ?_
    refine OpsL.val rfl rfl (r_mvI rfl) ?_
    refine OpsL.val rfl rfl (r_geq rfl rfl) ?_
    refine OpsL.nil ?_
    refine Then.norm ?_
    refine W.cond rfl (fun c21 => ?_) (fun c21 => ?_)
    ·
      replace c21 := of_decide_eq_true c21
      refine W.skip ?_
      refine Then.norm ?_
      refine W.seq ?_
      refine W.block ?_
      refine W.seq ?_
      refine W.regionQ Tryz.mixed (by kernel_rfl) (Cls h17 _) (Cls.drew st19) ?_
      refine OpsQ.val rfl rfl (fun _ _ => (r_field_addr rfl Tryz.underlying28 rfl Tryz.sizeOf25 rfl)) ?_
      refine OpsQ.val rfl rfl (fun _ hC => (r_load_cells1 (j := 0) hC.sub (hc5.up (le13.trans le18)) rfl rfl rfl Tryz.isAgg25)) ?_
      refine OpsQ.val rfl rfl (fun _ _ => (r_mvI rfl)) ?_
      have hr : ∃ y, (x.rules)[m - 1]? = some y := ⟨_, List.getElem?_eq_getElem (by omega)⟩
      obtain ⟨r, hr⟩ := hr
      obtain ⟨b22, o23, _, he25, hc24, hr_r⟩ := Sl.elem (x_f0.up ((le4.trans le13).trans le18)) hr
      obtain ⟨rfl, ls26, ls27⟩ := hr_r
      simp only [big] at ls26
      simp only [big] at ls27
      refine OpsQ.val rfl rfl (fun _ _ => (r_index_el he25 rfl rfl (hk := (show _ = ((m - 1 : Nat) : Int) by omega)) (hu := Tryz.underlying25) (hz := Tryz.sizeOf70))) ?_
      refine OpsQ.val rfl rfl (fun _ hC => (r_load_call hC.sub hc24 rfl Tryz.isAgg70 Tryz.sizeOf70 rfl)) ?_
      refine OpsQ.val rfl rfl (fun _ _ => (r_move (v := v_5) rfl)) ?_
      refine OpsQ.val rfl rfl (fun _ _ => (r_move (v := v_5) rfl)) ?_
      refine OpsQ.val rfl rfl (fun _ _ => (r_len_own hO_5 rfl Tryz.underlying33)) ?_
      refine OpsQ.val rfl rfl (fun _ _ => (r_sub rfl rfl (by first | omega | (simp; omega)))) ?_
      have hla0 : ∃ y, (ini ++ [la])[(ini ++ [la]).length - 1]? = some y := ⟨_, List.getElem?_eq_getElem (by simp)⟩
      obtain ⟨la0, hla0⟩ := hla0
      obtain ⟨b28, o29, cur30, _, e33, he31, hr_la0, hc32⟩ := OSl.elem hO_5 hla0
      subst e33
      obtain ⟨rfl, ls34⟩ := hr_la0
      simp only [big] at ls34
      refine OpsQ.val rfl rfl (fun _ _ => (r_index_el he31 rfl rfl (hk := (show _ = (((ini ++ [la]).length - 1 : Nat) : Int) by simp)) (hu := Tryz.underlying33) (hz := Tryz.sizeOf9))) ?_
      refine OpsQ.val rfl rfl (fun _ hC => (r_load_cur1 (j := 0) (hC.block (st19.get (k := 0) rfl)) hc32 rfl rfl rfl Tryz.isAgg9)) ?_
      refine OpsQ.calls rfl rfl (fun _ => run_call rfl Tryz.call85 rfl) (fun _ hC => Rets.quiet hC (c_postilref04_Made hC.sub (r := r) (by first | assumption | (simp [big]; done) | (simp [big]; omega) | omega) (by first | assumption | (simp [big]; done) | (simp [big]; omega) | omega) _ (by first | assumption | (simp [big]; done) | (simp [big]; omega) | omega) (by exact hx r (List.mem_of_getElem? hr)))) ?_
      refine OpsQ.val rfl rfl (fun _ _ => (r_mvT rfl)) ?_
      refine OpsQ.val rfl rfl (fun _ _ => (r_extract (v := (strV _)) rfl rfl)) ?_
      refine OpsQ.val rfl rfl (fun _ _ => (r_extract (v := (.bool _)) rfl rfl)) ?_
      refine OpsQ.val rfl rfl (fun _ _ => (r_asS rfl)) ?_
      refine OpsQ.val rfl rfl (fun _ _ => (r_asB rfl)) ?_
      refine OpsQ.nil ?_
      rintro w35 ⟨h36, s37⟩
      have st38 := st19.call0 s37
      refine Then.norm ?_
      refine W.seq ?_
      refine W.region ?_
      refine OpsL.val rfl rfl (r_mvB rfl) ?_
      refine OpsL.nil ?_
      refine Then.norm ?_
      refine W.cond rfl (fun c39 => ?_) (fun c39 => ?_)
      ·
        refine W.region ?_
        refine OpsL.val rfl rfl (r_mvS rfl) ?_
        refine OpsL.val rfl rfl (r_asS rfl) ?_
        refine OpsL.nil ?_
        refine Blk.norm ?_
        refine Then.norm ?_
        refine W.region ?_
        refine OpsL.val rfl rfl (r_mvI rfl) ?_
        refine OpsL.val rfl rfl (r_sub rfl rfl (by first | omega | (simp; omega))) ?_
        refine OpsL.val rfl rfl (r_asI rfl) ?_
        refine OpsL.nil ?_
        refine Then.norm ?_
        have hE : la0 = la := by simpa using hla0.symm
        have hD := drop_cons hr
        rw [show m - 1 + 1 = m by omega] at hD
        have hC := c39
        refine ⟨⟨m - 1, (made r la0).getD [], v_5, [(b28, .cells cur30 9)], h36⟩, ⟨rfl, rfl, ?_, trivial⟩, ?_, ⟨(le18.trans s37.le), st38, ?_, ?_, ?_, ?_⟩, ?_⟩
        · exact int_eq (by omega)
        · repeat (first | exact Agree.mix _ _ _ | exact Agree.refl _ _ | refine Agree.updO rfl ?_ | refine Agree.upd rfl ?_ | refine Agree.known rfl ?_ | refine Agree.sub rfl ?_)
        · refine OSl.to (hO_5.up s37.le) ?_
          rfl
        · first | omega | (simp; omega)
        · cases e : made r la0 with
          | none => simp
          | some q => simpa using made_len e
        · rw [hD, stepOf_cons, ← hE]; cases e : made r la0 with
          | none => simp [e] at hC
          | some q => simp
        · show ((m - 1)) < m
          omega
      ·
        refine W.skip ?_
        refine Blk.norm ?_
        refine Then.norm ?_
        refine W.region ?_
        refine OpsL.val rfl rfl (r_mvI rfl) ?_
        refine OpsL.val rfl rfl (r_sub rfl rfl (by first | omega | (simp; omega))) ?_
        refine OpsL.val rfl rfl (r_asI rfl) ?_
        refine OpsL.nil ?_
        refine Then.norm ?_
        have hE : la0 = la := by simpa using hla0.symm
        have hD := drop_cons hr
        rw [show m - 1 + 1 = m by omega] at hD
        have hC := c39
        refine ⟨⟨m - 1, nx, v_5, [(b28, .cells cur30 9)], h36⟩, ⟨rfl, rfl, ?_, trivial⟩, ?_, ⟨(le18.trans s37.le), st38, ?_, ?_, ?_, ?_⟩, ?_⟩
        · exact int_eq (by omega)
        · repeat (first | exact Agree.mix _ _ _ | exact Agree.refl _ _ | refine Agree.updO rfl ?_ | refine Agree.upd rfl ?_ | refine Agree.known rfl ?_ | refine Agree.sub rfl ?_)
        · refine OSl.to (hO_5.up s37.le) ?_
          rfl
        · first | omega | (simp; omega)
        · first | omega | (simp; omega)
        · rw [hD, stepOf_cons, ← hE]; cases e : made r la0 with
          | none => simpa [hE] using hnx
          | some q => simp [e] at hC
        · show ((m - 1)) < m
          omega
    ·
      replace c21 := of_decide_eq_false c21
      refine W.exit ?_
      refine Then.exit ?_
      refine Then.exit ?_
      refine Blk.hit ?_
      refine Then.norm ?_
      refine W.seq ?_
      refine W.seq ?_
      refine W.region ?_
      refine OpsL.val rfl rfl (r_mvS rfl) ?_
      refine OpsL.val rfl rfl (r_seql rfl rfl) ?_
      refine OpsL.nil ?_
      refine Then.norm ?_
      refine W.cond rfl (fun c40 => ?_) (fun c40 => ?_)
      ·
        replace c40 := of_decide_eq_true c40
        refine W.exit ?_
        refine Then.exit ?_
        refine Blk.miss rfl ?_
        refine Then.exit ?_
        refine Then.exit ?_
        refine Blk.hit ?_
        refine Then.norm ?_
        refine W.seq ?_
        refine W.region ?_
        refine OpsL.val rfl rfl (r_move (v := v_5) rfl) ?_
        refine OpsL.val rfl rfl (r_assign (v := v_5) rfl) ?_
        refine OpsL.nil ?_
        refine Then.norm ?_
        refine W.ret ?_
        -- return r1
        refine Post.ret1 Tryz.results44 ?_
        obtain ⟨h41, le42, f43, st44⟩ := OSl.freeze (k := 0) st19 hO_5 rfl (by first | omega | (simp; omega))
        refine ⟨h41, _, rfl, st44.done, ?_⟩
        refine ⟨_, rfl, Sl.to f43 ?_⟩
        have hm0 : m = 0 := by omega
        subst hm0
        have hs0 : stepOf x.rules la = none := by
          cases e : stepOf x.rules la with
          | none => rfl
          | some q => simp [e] at hnx; exact absurd (hnx.symm.trans c40) (stepOf_pos hx e)
        rw [hq, stepsN_none hs0]
      ·
        replace c40 := of_decide_eq_false c40
        refine W.skip ?_
        refine Then.norm ?_
        refine W.region ?_
        refine OpsL.val rfl rfl (r_move (v := v_5) rfl) ?_
        refine OpsL.val rfl rfl (r_mvS rfl) ?_
        refine OpsL.sliceF (L := LStr) (xs := [nx]) (cs := [strV nx]) st19 (Enc.cons (L := LStr) (vs := [strV nx]) (x := nx) (h := h17) (⟨rfl, by first | assumption | (simp [big]; done) | (simp [big]; omega) | omega⟩) Enc.nil) rfl rfl rfl Tryz.underlying33 Tryz.info9 rfl rfl rfl (by kernel_rfl) ?_
        intro v45 w46 h49 le50 f47 st48
        refine OpsL.append (k := 0) (nb := 16) st48 (hO_5.up le50) rfl f47 rfl rfl rfl Tryz.underlying33 Tryz.info9 rfl rfl rfl (by decide) rfl (by first | omega | (simp; omega)) (by first | omega | (simp; omega)) ?_
        intro v51 o52 w53 _ e54 f55 st56
        subst e54
        refine OpsL.val rfl rfl (r_assign (v := v51) rfl) ?_
        refine OpsL.nil ?_
        refine Blk.norm ?_
        refine Then.norm ?_
        refine W.region ?_
        refine OpsL.val rfl rfl (r_mvI rfl) ?_
        refine OpsL.val rfl rfl (r_add rfl rfl (by first | omega | (simp; omega))) ?_
        refine OpsL.val rfl rfl (r_asI rfl) ?_
        refine OpsL.nil ?_
        refine Then.norm ?_
        have HS : stepOf x.rules la = some nx := by
          have hm0 : m = 0 := by omega
          subst hm0
          cases e : stepOf x.rules la with
          | none => simp [e] at hnx; exact absurd hnx c40
          | some q => simp [e] at hnx; rw [hnx]
        refine ⟨⟨turn + 1, ini ++ [la], nx, v51, o52, h49⟩, ⟨rfl, rfl, trivial⟩, ?_, ⟨((le13.trans le18).trans le50), st56, ?_, ?_, ?_, ?_, ?_⟩, ?_⟩
        · repeat (first | exact Agree.mix _ _ _ | exact Agree.refl _ _ | refine Agree.updO rfl ?_ | refine Agree.upd rfl ?_ | refine Agree.known rfl ?_ | refine Agree.sub rfl ?_)
        · refine OSl.to f55 ?_
          rfl
        · first | omega | (simp; omega)
        · first | omega | (simp; omega)
        · first | omega | (simp; omega)
        · rw [hq, stepsN_some (show 4 - turn = (4 - (turn + 1)) + 1 by omega) HS]; simp
        · show 4 - ((turn + 1)) < 4 - turn
          omega
  ·
    replace c16 := of_decide_eq_false c16
    refine W.exit ?_
    refine Then.exit ?_
    refine Then.exit ?_
    refine Blk.hit ?_
    refine Then.norm ?_
    refine W.seq ?_
    refine W.region ?_
    refine OpsL.val rfl rfl (r_move (v := v_5) rfl) ?_
    refine OpsL.val rfl rfl (r_assign (v := v_5) rfl) ?_
    refine OpsL.nil ?_
    refine Then.norm ?_
    refine W.ret ?_
    -- return r2
    refine Post.ret1 Tryz.results44 ?_
    obtain ⟨h57, le58, f59, st60⟩ := OSl.freeze (k := 0) st14 hO_5 rfl (by first | omega | (simp; omega))
    refine ⟨h57, _, rfl, st60.done, ?_⟩
    refine ⟨_, rfl, Sl.to f59 ?_⟩
    rw [hq, show 4 - turn = 0 by omega]
    rfl
set_option maxRecDepth 4000 in
theorem c_postilref04_Steps {h : Heap} {w : World} (hs : Sub h w) {t : Text} {t_v0 : Value} (t_f0 : Sl LChapter h t_v0 t.chapters) {x : Lexicon} {x_v0 : Value} (x_f0 : Sl LRule h x_v0 x.rules) {x_v1 : Value} (x_f1 : Sl LDecision h x_v1 x.decisions) (word : Str) (word_le : word.length ≤ 281474976710656) : Calls Tryz.prog 11 #[.agg #[t_v0], .agg #[x_v0, x_v1], strV word] w (Rets h w (fun h' _ res_ => ∃ u0, res_ = .tuple #[u0, .int .i64 (stepsE t x word)] ∧ Sl LStr h' u0 (stepsR t x word))) := by
  refine W.calls (n := 21) (args := [.agg #[t_v0], .agg #[x_v0, x_v1], strV word]) Tryz.func11 rfl rfl rfl ?_
  have st0 : St h w h w [] := St.start hs
  have t_f0_b := t_f0.le
  have x_f0_b := x_f0.le
  have x_f1_b := x_f1.le
  refine W.seq ?_
  refine W.region ?_
  refine OpsL.boxF st0 (cs := [t_v0]) rfl rfl rfl ?_
  intro b1 w2 h3 le4 hc5 st6
  refine OpsL.boxF st6 (cs := [x_v0, x_v1]) rfl rfl rfl ?_
  intro b7 w8 h9 le10 hc11 st12
  refine OpsL.val rfl rfl (r_asL rfl) ?_
  refine OpsL.val rfl rfl (r_asI rfl) ?_
  refine OpsL.nil ?_
  refine Then.norm ?_
  refine W.seq ?_
  refine W.seq ?_
  refine W.region ?_
  refine OpsL.val rfl rfl (r_load_call st12.sub (hc5.up le10) rfl Tryz.isAgg24 Tryz.sizeOf24 rfl) ?_
  refine OpsL.val rfl rfl (r_load_call st12.sub hc11 rfl Tryz.isAgg28 Tryz.sizeOf28 rfl) ?_
  refine OpsL.callF st12 rfl rfl rfl Tryz.call15 rfl (c_postilref04_Check st12.sub (t := t) (t_f0.up (le4.trans le10)) (x := x) (x_f0.up (le4.trans le10)) (x_f1.up (le4.trans le10))) ?_
  intro r13 w14 h15 le16 st17 q18
  obtain rfl := q18
  refine OpsL.val rfl rfl (r_asI rfl) ?_
  refine OpsL.nil ?_
  refine Then.norm ?_
  refine W.seq ?_
  refine W.region ?_
  refine OpsL.val rfl rfl (r_mvI rfl) ?_
  refine OpsL.val rfl rfl (r_neq rfl rfl) ?_
  refine OpsL.nil ?_
  refine Then.norm ?_
  refine W.cond rfl (fun c19 => ?_) (fun c19 => ?_)
  ·
    replace c19 := of_decide_eq_true c19
    refine W.seq ?_
    refine W.region ?_
    refine OpsL.val rfl rfl (r_mvI rfl) ?_
    refine OpsL.val rfl rfl (r_asL rfl) ?_
    refine OpsL.val rfl rfl (r_asI rfl) ?_
    refine OpsL.nil ?_
    refine Then.norm ?_
    refine W.ret ?_
    refine Then.ret ?_
    -- return r1
    refine Post.ret2 Tryz.results11 ?_
    refine ⟨h15, _, rfl, st17.done, ?_⟩
    refine ⟨_, tup2 rfl (int_eq ?_), Sl.to (Sl.nil _ _) ?_⟩
    all_goals simp_all [stepsR, stepsE]
  ·
    replace c19 := of_decide_eq_false c19
    refine W.skip ?_
    refine Then.norm ?_
    refine W.seq ?_
    refine W.seq ?_
    refine W.region ?_
    refine OpsL.val rfl rfl (r_mvS rfl) ?_
    refine OpsL.callF st17 rfl rfl rfl Tryz.call43 rfl (c_postilref01_Word st17.sub _ (by first | assumption | (simp [big]; done) | (simp [big]; omega) | omega)) ?_
    intro r20 w21 h22 le23 st24 q25
    obtain rfl := q25
    refine OpsL.val rfl rfl (r_not rfl) ?_
    refine OpsL.nil ?_
    refine Then.norm ?_
    refine W.cond rfl (fun c26 => ?_) (fun c26 => ?_)
    ·
      refine W.seq ?_
      refine W.region ?_
      refine OpsL.val rfl rfl (r_asL rfl) ?_
      refine OpsL.val rfl rfl (r_asI rfl) ?_
      refine OpsL.nil ?_
      refine Then.norm ?_
      refine W.ret ?_
      refine Then.ret ?_
      -- return r2
      refine Post.ret2 Tryz.results11 ?_
      refine ⟨h22, _, rfl, st24.done, ?_⟩
      refine ⟨_, tup2 rfl (int_eq ?_), Sl.to (Sl.nil _ _) ?_⟩
      all_goals simp_all [stepsR, stepsE]
    ·
      refine W.skip ?_
      refine Then.norm ?_
      refine W.seq ?_
      refine W.region ?_
      refine OpsL.val rfl rfl (r_load_call st24.sub (hc11.up (le16.trans le23)) rfl Tryz.isAgg28 Tryz.sizeOf28 rfl) ?_
      refine OpsL.val rfl rfl (r_mvS rfl) ?_
      refine OpsL.callF st24 rfl rfl rfl Tryz.call44 rfl (c_postilref04_steps st24.sub (x := x) (x_f0.up (((le4.trans le10).trans le16).trans le23)) (x_f1.up (((le4.trans le10).trans le16).trans le23)) _ (by first | assumption | (simp [big]; done) | (simp [big]; omega) | omega) (by exact lexicon_rules (by simpa using c19)) (by exact word_len (by simpa using c26))) ?_
      intro r27 w28 h29 le30 st31 q32
      obtain ⟨v33, e35, f34⟩ := q32
      rw [← e35] at f34
      have f34_b := f34.le
      refine OpsL.val rfl rfl (r_assign (v := r27) rfl) ?_
      refine OpsL.val rfl rfl (r_asI rfl) ?_
      refine OpsL.nil ?_
      refine Then.norm ?_
      refine W.ret ?_
      -- return r3
      refine Post.ret2 Tryz.results11 ?_
      refine ⟨h29, _, rfl, st31.done, ?_⟩
      refine ⟨_, tup2 rfl (int_eq ?_), Sl.to f34 ?_⟩
      all_goals simp_all [stepsR, stepsE]
set_option maxRecDepth 4000 in
theorem c_postilref04_stands : ∀ (n_ : Nat) {h : Heap} {w : World} (hs : Sub h w) {x : Lexicon} {x_v0 : Value} (x_f0 : Sl LRule h x_v0 x.rules) {x_v1 : Value} (x_f1 : Sl LDecision h x_v1 x.decisions) {d : Decision} (d_l2 : 0 ≤ d.kind ∧ d.kind ≤ 255) (d_l3 : d.form.length ≤ 281474976710656) (d_l7 : d.to.stem.length ≤ 281474976710656) (d_l8 : 0 ≤ d.to.mark ∧ d.to.mark ≤ 255) (hv : ∀ v ∈ x.decisions, v.number ≤ 999 ∧ (v.kind = 4 → v.of_ < v.number)) (hn : 999 < d.number + n_), Calls Tryz.prog 88 #[.agg #[x_v0, x_v1], .agg #[.int .i64 d.number, .int .u8 d.kind, strV d.form, .int .i64 d.at_.chapter, .int .i64 d.at_.line, .int .i64 d.at_.word, strV d.to.stem, .int .u8 d.to.mark, .int .i64 d.of_]] w (Rets h w (fun _ _ res_ => res_ = .bool (standsF x n_ d))) := by
  intro n_
  induction n_ using Nat.strongRecOn with
  | _ n_ ih_ =>
  intro h w hs x x_v0 x_f0 x_v1 x_f1 d d_l2 d_l3 d_l7 d_l8 hv hn
  refine W.calls (n := 34) (args := [.agg #[x_v0, x_v1], .agg #[.int .i64 d.number, .int .u8 d.kind, strV d.form, .int .i64 d.at_.chapter, .int .i64 d.at_.line, .int .i64 d.at_.word, strV d.to.stem, .int .u8 d.to.mark, .int .i64 d.of_]]) Tryz.func88 rfl rfl rfl ?_
  have st0 : St h w h w [] := St.start hs
  have x_f0_b := x_f0.le
  have x_f1_b := x_f1.le
  refine W.seq ?_
  refine W.region ?_
  refine OpsL.boxF st0 (cs := [x_v0, x_v1]) rfl rfl rfl ?_
  intro b1 w2 h3 le4 hc5 st6
  refine OpsL.boxF st6 (cs := [.int .i64 (d.number), .int .u8 (d.kind), strV (d.form), .int .i64 (d.at_.chapter), .int .i64 (d.at_.line), .int .i64 (d.at_.word), strV (d.to.stem), .int .u8 (d.to.mark), .int .i64 (d.of_)]) rfl rfl rfl ?_
  intro b7 w8 h9 le10 hc11 st12
  refine OpsL.val rfl rfl (r_asB rfl) ?_
  refine OpsL.nil ?_
  refine Then.norm ?_
  refine W.seq ?_
  refine W.seq ?_
  refine W.region ?_
  refine OpsL.val rfl rfl (r_asI rfl) ?_
  refine OpsL.nil ?_
  refine Then.norm ?_
  refine W.block ?_
  refine W.loopI [4, 5, 6, 7, 8, 9, 10, 11, 12, 13, 14, 15, 16, 17, 18, 19, 20, 21, 22, 23, 24, 25, 26, 27, 28, 29, 30, 31, 32, 33] (G := Nat × Heap) (fun ⟨i, h13⟩ => [(5, .int .i64 (i : Int))]) (fun ⟨i, h13⟩ w' => Le h9 h13 ∧ St h w h13 w' [] ∧ (i ≤ x.decisions.length) ∧ ((x.decisions.take i).all (voids x n_ d) = true)) (fun ⟨i, h13⟩ => x.decisions.length - i) ⟨0, h9⟩ ⟨rfl, trivial⟩ ⟨Le.refl _, st12, (by first | omega | simp | trivial), (by first | omega | simp | trivial)⟩ ?_
  rintro ⟨i, h13⟩ _ w16 ⟨le14, st15, hi, hA⟩
  refine W.seq ?_
  refine W.seq ?_
  refine W.region ?_
  refine OpsL.val rfl rfl (r_mvI rfl) ?_
  refine OpsL.val rfl rfl (r_field_addr rfl Tryz.underlying28 rfl Tryz.sizeOf26 rfl) ?_
  refine OpsL.val rfl rfl (r_load_cells1 (j := 1) st15.sub (hc5.up (le10.trans le14)) rfl rfl rfl Tryz.isAgg26) ?_
  refine OpsL.val rfl rfl (r_len (x_f1.up ((le4.trans le10).trans le14)) rfl Tryz.underlying26) ?_
  refine OpsL.val rfl rfl (r_lss rfl rfl) ?_
  refine OpsL.nil ?_
  refine Then.norm ?_
  refine W.cond rfl (fun c17 => ?_) (fun c17 => ?_)
  ·
    replace c17 := of_decide_eq_true c17
    refine W.skip ?_
    refine Then.norm ?_
    refine W.seq ?_
    refine W.block ?_
    refine W.seq ?_
    refine W.region ?_
    refine OpsL.val rfl rfl (r_field_addr rfl Tryz.underlying28 rfl Tryz.sizeOf26 rfl) ?_
    refine OpsL.val rfl rfl (r_load_cells1 (j := 1) st15.sub (hc5.up (le10.trans le14)) rfl rfl rfl Tryz.isAgg26) ?_
    refine OpsL.val rfl rfl (r_mvI rfl) ?_
    have hv1 : ∃ y, (x.decisions)[i]? = some y := ⟨_, List.getElem?_eq_getElem (by omega)⟩
    obtain ⟨v1, hv1⟩ := hv1
    obtain ⟨b18, o19, _, he21, hc20, hr_v1⟩ := Sl.elem (x_f1.up ((le4.trans le10).trans le14)) hv1
    obtain ⟨rfl, lu22, ls23, ls24, lu25⟩ := hr_v1
    simp only [big] at ls23
    simp only [big] at ls24
    refine OpsL.val rfl rfl (r_index_el he21 rfl rfl (hk := rfl) (hu := Tryz.underlying26) (hz := Tryz.sizeOf56)) ?_
    refine OpsL.val rfl rfl (r_load_call st15.sub hc20 rfl Tryz.isAgg56 Tryz.sizeOf56 rfl) ?_
    refine OpsL.allocO st15 Tryz.zeroValue56 rfl rfl ?_
    intro b26 w27 st28
    refine OpsL.storeN st28 (k := 0) rfl rfl rfl (one_cons rfl (one_cons rfl (one_cons rfl (one_cons rfl (one_cons rfl (one_cons rfl (one_cons rfl (one_cons rfl (one_cons rfl one_nil))))))))) Tryz.sizeOf56 rfl rfl rfl ?_
    intro w29 st30
    obtain ⟨h31, le32, hb33, st35⟩ := st30.freeze (k := 0) rfl
    have hc34 := Cells.of hb33
    refine OpsL.nil ?_
    refine Then.norm ?_
    refine W.seq ?_
    refine W.region ?_
    refine OpsL.val rfl rfl (r_field_addr rfl Tryz.underlying56 rfl Tryz.sizeOf5 rfl) ?_
    refine OpsL.val rfl rfl (r_load_cells1 (j := 1) st35.sub hc34 rfl rfl rfl Tryz.isAgg5) ?_
    refine OpsL.val rfl rfl (r_eql rfl rfl) ?_
    refine OpsL.val rfl rfl (r_mvB rfl) ?_
    refine OpsL.split (d := 22) rfl (fun g36 => ?_) (fun g36 => ?_)
    ·
      replace g36 := of_decide_eq_true g36
      refine OpsL.guarded rfl rfl (d := 22) rfl ?_
      refine OpsL.val rfl rfl (r_field_addr rfl Tryz.underlying56 rfl Tryz.sizeOf3 rfl) ?_
      refine OpsL.guarded rfl rfl (d := 22) rfl ?_
      refine OpsL.val rfl rfl (r_load_cells1 (j := 8) st35.sub hc34 rfl rfl rfl Tryz.isAgg3) ?_
      refine OpsL.guarded rfl rfl (d := 22) rfl ?_
      refine OpsL.val rfl rfl (r_field_addr rfl Tryz.underlying56 rfl Tryz.sizeOf3 rfl) ?_
      refine OpsL.guarded rfl rfl (d := 22) rfl ?_
      refine OpsL.val rfl rfl (r_load_cells1 (j := 0) st35.sub (hc11.up (le14.trans le32)) rfl rfl rfl Tryz.isAgg3) ?_
      refine OpsL.guarded rfl rfl (d := 22) rfl ?_
      refine OpsL.val rfl rfl (r_eql rfl rfl) ?_
      refine OpsL.val rfl rfl (r_pickT (v := (.bool _)) rfl rfl) ?_
      refine OpsL.val rfl rfl (r_mvB rfl) ?_
      refine OpsL.split (d := 29) rfl (fun g37 => ?_) (fun g37 => ?_)
      ·
        replace g37 := of_decide_eq_true g37
        refine OpsL.guarded rfl rfl (d := 29) rfl ?_
        refine OpsL.val rfl rfl (r_load_call st35.sub (hc5.up ((le10.trans le14).trans le32)) rfl Tryz.isAgg28 Tryz.sizeOf28 rfl) ?_
        refine OpsL.guarded rfl rfl (d := 29) rfl ?_
        refine OpsL.val rfl rfl (r_load_call st35.sub hc34 rfl Tryz.isAgg56 Tryz.sizeOf56 rfl) ?_
        refine OpsL.guarded rfl rfl (d := 29) rfl ?_
        have q1 := hv v1 (List.mem_of_getElem? hv1)
        have q2 := q1.2 g36
        have q3 := g37
        refine OpsL.callF st35 rfl rfl rfl Tryz.call88 rfl (ih_ (n_ - 1) (by omega) st35.sub (x := x) (x_f0.up (((le4.trans le10).trans le14).trans le32)) (x_f1.up (((le4.trans le10).trans le14).trans le32)) (d := v1) (by first | assumption | decide | omega) (by first | assumption | (simp [big]; done) | (simp [big]; omega) | omega) (by first | assumption | (simp [big]; done) | (simp [big]; omega) | omega) (by first | assumption | decide | omega) (by exact hv) (by omega)) ?_
        intro r38 w39 h40 le41 st42 q43
        obtain rfl := q43
        refine OpsL.val rfl rfl (r_pickT (v := (.bool _)) rfl rfl) ?_
        refine OpsL.nil ?_
        refine Then.norm ?_
        refine W.cond rfl (fun c44 => ?_) (fun c44 => ?_)
        ·
          refine W.seq ?_
          refine W.region ?_
          refine OpsL.val rfl rfl (r_asB rfl) ?_
          refine OpsL.nil ?_
          refine Then.norm ?_
          refine W.ret ?_
          refine Blk.ret ?_
          refine Then.ret ?_
          refine Then.ret ?_
          refine Blk.ret ?_
          refine Then.ret ?_
          -- return r1
          refine Post.ret1 Tryz.results88 ?_
          rw [standsF_eq hv hn]
          refine ⟨h40, _, rfl, st42.done, ?_⟩
          refine bool_eq ?_
          exact (not_all hv1 (by simp_all [voids])).symm
        ·
          refine W.skip ?_
          refine Blk.norm ?_
          refine Then.norm ?_
          refine W.region ?_
          refine OpsL.val rfl rfl (r_mvI rfl) ?_
          refine OpsL.val rfl rfl (r_add rfl rfl (by first | omega | (simp; omega))) ?_
          refine OpsL.val rfl rfl (r_asI rfl) ?_
          refine OpsL.nil ?_
          refine Then.norm ?_
          refine ⟨⟨i + 1, h40⟩, ⟨rfl, trivial⟩, ?_, ⟨((le14.trans le32).trans le41), st42.take 0, ?_, ?_⟩, ?_⟩
          · repeat (first | exact Agree.mix _ _ _ | exact Agree.refl _ _ | refine Agree.updO rfl ?_ | refine Agree.upd rfl ?_ | refine Agree.known rfl ?_ | refine Agree.sub rfl ?_)
          · first | omega | (simp; omega)
          · exact all_take_succ hA hv1 (by simp_all [voids])
          · show x.decisions.length - ((i + 1)) < x.decisions.length - i
            omega
      ·
        replace g37 := of_decide_eq_false g37
        refine OpsL.skipped rfl rfl (d := 29) rfl rfl rfl ?_
        refine OpsL.skipped rfl rfl (d := 29) rfl rfl rfl ?_
        refine OpsL.skipped rfl rfl (d := 29) rfl rfl rfl ?_
        refine OpsL.val rfl rfl (r_pickF (v := (.bool _)) rfl rfl) ?_
        refine OpsL.nil ?_
        refine Then.norm ?_
        refine W.cond rfl (fun c45 => ?_) (fun c45 => ?_)
        ·
          cases c45
        ·
          refine W.skip ?_
          refine Blk.norm ?_
          refine Then.norm ?_
          refine W.region ?_
          refine OpsL.val rfl rfl (r_mvI rfl) ?_
          refine OpsL.val rfl rfl (r_add rfl rfl (by first | omega | (simp; omega))) ?_
          refine OpsL.val rfl rfl (r_asI rfl) ?_
          refine OpsL.nil ?_
          refine Then.norm ?_
          refine ⟨⟨i + 1, h31⟩, ⟨rfl, trivial⟩, ?_, ⟨(le14.trans le32), st35.take 0, ?_, ?_⟩, ?_⟩
          · repeat (first | exact Agree.mix _ _ _ | exact Agree.refl _ _ | refine Agree.updO rfl ?_ | refine Agree.upd rfl ?_ | refine Agree.known rfl ?_ | refine Agree.sub rfl ?_)
          · first | omega | (simp; omega)
          · exact all_take_succ hA hv1 (by simp_all [voids])
          · show x.decisions.length - ((i + 1)) < x.decisions.length - i
            omega
    ·
      replace g36 := of_decide_eq_false g36
      refine OpsL.skipped rfl rfl (d := 22) rfl rfl rfl ?_
      refine OpsL.skipped rfl rfl (d := 22) rfl rfl rfl ?_
      refine OpsL.skipped rfl rfl (d := 22) rfl rfl rfl ?_
      refine OpsL.skipped rfl rfl (d := 22) rfl rfl rfl ?_
      refine OpsL.skipped rfl rfl (d := 22) rfl rfl rfl ?_
      refine OpsL.val rfl rfl (r_pickF (v := (.bool _)) rfl rfl) ?_
      refine OpsL.val rfl rfl (r_mvB rfl) ?_
      refine OpsL.skipped rfl rfl (d := 29) rfl rfl rfl ?_
      refine OpsL.skipped rfl rfl (d := 29) rfl rfl rfl ?_
      refine OpsL.skipped rfl rfl (d := 29) rfl rfl rfl ?_
      refine OpsL.val rfl rfl (r_pickF (v := (.bool _)) rfl rfl) ?_
      refine OpsL.nil ?_
      refine Then.norm ?_
      refine W.cond rfl (fun c46 => ?_) (fun c46 => ?_)
      ·
        cases c46
      ·
        refine W.skip ?_
        refine Blk.norm ?_
        refine Then.norm ?_
        refine W.region ?_
        refine OpsL.val rfl rfl (r_mvI rfl) ?_
        refine OpsL.val rfl rfl (r_add rfl rfl (by first | omega | (simp; omega))) ?_
        refine OpsL.val rfl rfl (r_asI rfl) ?_
        refine OpsL.nil ?_
        refine Then.norm ?_
        refine ⟨⟨i + 1, h31⟩, ⟨rfl, trivial⟩, ?_, ⟨(le14.trans le32), st35.take 0, ?_, ?_⟩, ?_⟩
        · repeat (first | exact Agree.mix _ _ _ | exact Agree.refl _ _ | refine Agree.updO rfl ?_ | refine Agree.upd rfl ?_ | refine Agree.known rfl ?_ | refine Agree.sub rfl ?_)
        · first | omega | (simp; omega)
        · exact all_take_succ hA hv1 (by simp_all [voids])
        · show x.decisions.length - ((i + 1)) < x.decisions.length - i
          omega
  ·
    replace c17 := of_decide_eq_false c17
    refine W.exit ?_
    refine Then.exit ?_
    refine Then.exit ?_
    refine Blk.hit ?_
    refine Then.norm ?_
    refine W.seq ?_
    refine W.region ?_
    refine OpsL.val rfl rfl (r_asB rfl) ?_
    refine OpsL.nil ?_
    refine Then.norm ?_
    refine W.ret ?_
    -- return r2
    refine Post.ret1 Tryz.results88 ?_
    rw [standsF_eq hv hn]
    refine ⟨h13, _, rfl, st15.done, ?_⟩
    refine bool_eq ?_
    exact (all_of_take hA (by omega)).symm
set_option maxRecDepth 4000 in
theorem c_postilref04_standing {h : Heap} {w : World} (hs : Sub h w) {x : Lexicon} {x_v0 : Value} (x_f0 : Sl LRule h x_v0 x.rules) {x_v1 : Value} (x_f1 : Sl LDecision h x_v1 x.decisions) (hv : ∀ v ∈ x.decisions, v.number ≤ 999 ∧ (v.kind = 4 → v.of_ < v.number)) (hv1 : ∀ v ∈ x.decisions, 1 ≤ v.number) (hl20 : x.decisions.length ≤ 20) : Calls Tryz.prog 46 #[.agg #[x_v0, x_v1]] w (Rets h w (fun h' _ res_ => ∃ u0, res_ = u0 ∧ Sl LDecision h' u0 (standingR x))) := by
  refine W.calls (n := 37) (args := [.agg #[x_v0, x_v1]]) Tryz.func46 rfl rfl rfl ?_
  have st0 : St h w h w [] := St.start hs
  have x_f0_b := x_f0.le
  have x_f1_b := x_f1.le
  refine W.seq ?_
  refine W.region ?_
  refine OpsL.boxF st0 (cs := [x_v0, x_v1]) rfl rfl rfl ?_
  intro b1 w2 h3 le4 hc5 st6
  refine OpsL.val rfl rfl (r_asL rfl) ?_
  refine OpsL.nil ?_
  refine Then.norm ?_
  refine W.seq ?_
  refine W.region ?_
  refine OpsL.val rfl rfl (r_asL rfl) ?_
  refine OpsL.nil ?_
  refine Then.norm ?_
  refine W.seq ?_
  refine W.seq ?_
  refine W.region ?_
  refine OpsL.val rfl rfl (r_asI rfl) ?_
  refine OpsL.nil ?_
  refine Then.norm ?_
  refine W.block ?_
  have st10 := st6.snoc
  have f11 := OSl.nil LDecision 56 h3
  refine W.loopI [3, 4, 5, 6, 7, 8, 9, 10, 11, 12, 13, 14, 15, 16, 17, 18, 19, 20, 21, 22, 23, 24, 25, 26, 27, 28, 29, 30, 31, 32, 33, 34, 35] (G := Nat × Value × List (Nat × Obj) × Heap) (fun ⟨n, v_3, o_3, h7⟩ => [(3, v_3), (4, .int .i64 ((n : Int) + 1))]) (fun ⟨n, v_3, o_3, h7⟩ w' => Le h3 h7 ∧ St h w h7 w' [o_3] ∧ (OSl LDecision 56 h7 v_3 ((List.range n).flatMap (standAt x)) o_3) ∧ (n ≤ 999)) (fun ⟨n, v_3, o_3, h7⟩ => 999 - n) ⟨0, (.slice none 0 0), [], h3⟩ ⟨rfl, rfl, trivial⟩ ⟨Le.refl _, st10, (OSl.to f11 (by rfl)), (by first | omega | simp | trivial)⟩ ?_
  rintro ⟨n, v_3, o_3, h7⟩ _ w12 ⟨le8, st9, hO_3, hn⟩
  refine W.seq ?_
  refine W.seq ?_
  refine W.region ?_
  refine OpsL.val rfl rfl (r_mvI rfl) ?_
  refine OpsL.val rfl rfl (r_leq rfl rfl) ?_
  refine OpsL.nil ?_
  refine Then.norm ?_
  refine W.cond rfl (fun c13 => ?_) (fun c13 => ?_)
  ·
    replace c13 := of_decide_eq_true c13
    refine W.skip ?_
    refine Then.norm ?_
    refine W.seq ?_
    refine W.block ?_
    refine W.seq ?_
    refine W.region ?_
    refine OpsL.val rfl rfl (r_asI rfl) ?_
    refine OpsL.nil ?_
    refine Then.norm ?_
    refine W.block ?_
    refine W.loopI [3, 5, 6, 11, 12, 13, 14, 15, 16, 17, 18, 19, 20, 21, 22, 23, 24, 25, 26, 27, 28, 29, 30, 31, 32, 33, 34, 35] (G := Nat × Value × List (Nat × Obj) × Heap) (fun ⟨i, v_3, o_3, h14⟩ => [(3, v_3), (5, .int .i64 (i : Int))]) (fun ⟨i, v_3, o_3, h14⟩ w' => Le h7 h14 ∧ St h w h14 w' [o_3] ∧ (OSl LDecision 56 h14 v_3 ((List.range n).flatMap (standAt x) ++ (x.decisions.take i).filter (standP x n)) o_3) ∧ (i ≤ x.decisions.length)) (fun ⟨i, v_3, o_3, h14⟩ => x.decisions.length - i) ⟨0, v_3, o_3, h7⟩ ⟨rfl, rfl, trivial⟩ ⟨Le.refl _, st9, (OSl.to hO_3 (by simp)), (by first | omega | simp | trivial)⟩ ?_
    rintro ⟨i, v_3, o_3, h14⟩ _ w17 ⟨le15, st16, hO_3, hi⟩
    refine W.seq ?_
    refine W.seq ?_
    refine W.region ?_
    refine OpsL.val rfl rfl (r_mvI rfl) ?_
    refine OpsL.val rfl rfl (r_field_addr rfl Tryz.underlying28 rfl Tryz.sizeOf26 rfl) ?_
    refine OpsL.val rfl rfl (r_load_cells1 (j := 1) st16.sub (hc5.up (le8.trans le15)) rfl rfl rfl Tryz.isAgg26) ?_
    refine OpsL.val rfl rfl (r_len (x_f1.up ((le4.trans le8).trans le15)) rfl Tryz.underlying26) ?_
    refine OpsL.val rfl rfl (r_lss rfl rfl) ?_
    refine OpsL.nil ?_
    refine Then.norm ?_
    refine W.cond rfl (fun c18 => ?_) (fun c18 => ?_)
    ·
      replace c18 := of_decide_eq_true c18
      refine W.skip ?_
      refine Then.norm ?_
      refine W.seq ?_
      refine W.block ?_
      refine W.seq ?_
      refine W.region ?_
      refine OpsL.val rfl rfl (r_field_addr rfl Tryz.underlying28 rfl Tryz.sizeOf26 rfl) ?_
      refine OpsL.val rfl rfl (r_load_cells1 (j := 1) st16.sub (hc5.up (le8.trans le15)) rfl rfl rfl Tryz.isAgg26) ?_
      refine OpsL.val rfl rfl (r_mvI rfl) ?_
      have hd : ∃ y, (x.decisions)[i]? = some y := ⟨_, List.getElem?_eq_getElem (by omega)⟩
      obtain ⟨d, hd⟩ := hd
      obtain ⟨b19, o20, _, he22, hc21, hr_d⟩ := Sl.elem (x_f1.up ((le4.trans le8).trans le15)) hd
      obtain ⟨rfl, lu23, ls24, ls25, lu26⟩ := hr_d
      simp only [big] at ls24
      simp only [big] at ls25
      refine OpsL.val rfl rfl (r_index_el he22 rfl rfl (hk := rfl) (hu := Tryz.underlying26) (hz := Tryz.sizeOf56)) ?_
      refine OpsL.val rfl rfl (r_load_call st16.sub hc21 rfl Tryz.isAgg56 Tryz.sizeOf56 rfl) ?_
      refine OpsL.allocO st16 Tryz.zeroValue56 rfl rfl ?_
      intro b27 w28 st29
      refine OpsL.storeN st29 (k := 1) rfl rfl rfl (one_cons rfl (one_cons rfl (one_cons rfl (one_cons rfl (one_cons rfl (one_cons rfl (one_cons rfl (one_cons rfl (one_cons rfl one_nil))))))))) Tryz.sizeOf56 rfl rfl rfl ?_
      intro w30 st31
      obtain ⟨h32, le33, hb34, st36⟩ := st31.freeze (k := 1) rfl
      have hc35 := Cells.of hb34
      refine OpsL.nil ?_
      refine Then.norm ?_
      refine W.seq ?_
      refine W.region ?_
      refine OpsL.val rfl rfl (r_field_addr rfl Tryz.underlying56 rfl Tryz.sizeOf3 rfl) ?_
      refine OpsL.val rfl rfl (r_load_cells1 (j := 0) st36.sub hc35 rfl rfl rfl Tryz.isAgg3) ?_
      refine OpsL.val rfl rfl (r_mvI rfl) ?_
      refine OpsL.val rfl rfl (r_eql rfl rfl) ?_
      refine OpsL.val rfl rfl (r_mvB rfl) ?_
      refine OpsL.split (d := 27) rfl (fun g37 => ?_) (fun g37 => ?_)
      ·
        replace g37 := of_decide_eq_true g37
        refine OpsL.guarded rfl rfl (d := 27) rfl ?_
        refine OpsL.val rfl rfl (r_load_call st36.sub (hc5.up ((le8.trans le15).trans le33)) rfl Tryz.isAgg28 Tryz.sizeOf28 rfl) ?_
        refine OpsL.guarded rfl rfl (d := 27) rfl ?_
        refine OpsL.val rfl rfl (r_load_call st36.sub hc35 rfl Tryz.isAgg56 Tryz.sizeOf56 rfl) ?_
        refine OpsL.guarded rfl rfl (d := 27) rfl ?_
        refine OpsL.callF st36 rfl rfl rfl Tryz.call88 rfl (c_postilref04_stands (1000) st36.sub (x := x) (x_f0.up (((le4.trans le8).trans le15).trans le33)) (x_f1.up (((le4.trans le8).trans le15).trans le33)) (d := d) (by first | assumption | decide | omega) (by first | assumption | (simp [big]; done) | (simp [big]; omega) | omega) (by first | assumption | (simp [big]; done) | (simp [big]; omega) | omega) (by first | assumption | decide | omega) (by exact hv) (by have q := (hv1 d (List.mem_of_getElem? hd)); omega)) ?_
        intro r38 w39 h40 le41 st42 q43
        obtain rfl := q43
        refine OpsL.val rfl rfl (r_pickT (v := (.bool _)) rfl rfl) ?_
        refine OpsL.nil ?_
        refine Then.norm ?_
        refine W.cond rfl (fun c44 => ?_) (fun c44 => ?_)
        ·
          refine W.region ?_
          refine OpsL.val rfl rfl (r_move (v := v_3) rfl) ?_
          refine OpsL.val rfl rfl (r_load_call st42.sub (hc35.up le41) rfl Tryz.isAgg56 Tryz.sizeOf56 rfl) ?_
          refine OpsL.sliceF (L := LDecision) (xs := [d]) (cs := [.int .i64 (d.number), .int .u8 (d.kind), strV (d.form), .int .i64 (d.at_.chapter), .int .i64 (d.at_.line), .int .i64 (d.at_.word), strV (d.to.stem), .int .u8 (d.to.mark), .int .i64 (d.of_)]) st42 (Enc.cons (L := LDecision) (vs := [.int .i64 (d.number), .int .u8 (d.kind), strV (d.form), .int .i64 (d.at_.chapter), .int .i64 (d.at_.line), .int .i64 (d.at_.word), strV (d.to.stem), .int .u8 (d.to.mark), .int .i64 (d.of_)]) (x := d) (h := h40) (⟨rfl, by first | assumption | decide | omega, by first | assumption | (simp [big]; done) | (simp [big]; omega) | omega, by first | assumption | (simp [big]; done) | (simp [big]; omega) | omega, by first | assumption | decide | omega⟩) Enc.nil) rfl rfl rfl Tryz.underlying26 Tryz.info56 rfl rfl rfl (by kernel_rfl) ?_
          intro v45 w46 h49 le50 f47 st48
          refine OpsL.append (k := 0) (nb := 88) st48 (hO_3.up ((le33.trans le41).trans le50)) rfl f47 rfl rfl rfl Tryz.underlying26 Tryz.info56 rfl rfl rfl (by decide) rfl (by have q := stand_len n hl20; have q2 := List.length_filter_le (standP x n) (x.decisions.take i); rw [List.length_take] at q2; simp only [List.length_append, List.length_cons, List.length_nil]; omega) (by have q := stand_len n hl20; have q2 := List.length_filter_le (standP x n) (x.decisions.take i); rw [List.length_take] at q2; simp only [List.length_append, List.length_cons, List.length_nil]; omega) ?_
          intro v51 o52 w53 _ e54 f55 st56
          subst e54
          refine OpsL.val rfl rfl (r_assign (v := v51) rfl) ?_
          refine OpsL.nil ?_
          refine Blk.norm ?_
          refine Then.norm ?_
          refine W.region ?_
          refine OpsL.val rfl rfl (r_mvI rfl) ?_
          refine OpsL.val rfl rfl (r_add rfl rfl (by first | omega | (simp; omega))) ?_
          refine OpsL.val rfl rfl (r_asI rfl) ?_
          refine OpsL.nil ?_
          refine Then.norm ?_
          refine ⟨⟨i + 1, v51, o52, h49⟩, ⟨rfl, rfl, trivial⟩, ?_, ⟨(((le15.trans le33).trans le41).trans le50), st56.take 1, ?_, ?_⟩, ?_⟩
          · repeat (first | exact Agree.mix _ _ _ | exact Agree.refl _ _ | refine Agree.updO rfl ?_ | refine Agree.upd rfl ?_ | refine Agree.known rfl ?_ | refine Agree.sub rfl ?_)
          · refine OSl.to f55 ?_
            rw [take_snoc hd, List.filter_append, List.append_assoc]; simp_all [standP]
          · first | omega | (simp; omega)
          · show x.decisions.length - ((i + 1)) < x.decisions.length - i
            omega
        ·
          refine W.skip ?_
          refine Blk.norm ?_
          refine Then.norm ?_
          refine W.region ?_
          refine OpsL.val rfl rfl (r_mvI rfl) ?_
          refine OpsL.val rfl rfl (r_add rfl rfl (by first | omega | (simp; omega))) ?_
          refine OpsL.val rfl rfl (r_asI rfl) ?_
          refine OpsL.nil ?_
          refine Then.norm ?_
          refine ⟨⟨i + 1, v_3, o_3, h40⟩, ⟨rfl, rfl, trivial⟩, ?_, ⟨((le15.trans le33).trans le41), st42.take 1, ?_, ?_⟩, ?_⟩
          · repeat (first | exact Agree.mix _ _ _ | exact Agree.refl _ _ | refine Agree.updO rfl ?_ | refine Agree.upd rfl ?_ | refine Agree.known rfl ?_ | refine Agree.sub rfl ?_)
          · refine OSl.to (hO_3.up (le33.trans le41)) ?_
            rw [take_snoc hd, List.filter_append]; simp_all [standP]
          · first | omega | (simp; omega)
          · show x.decisions.length - ((i + 1)) < x.decisions.length - i
            omega
      ·
        replace g37 := of_decide_eq_false g37
        refine OpsL.skipped rfl rfl (d := 27) rfl rfl rfl ?_
        refine OpsL.skipped rfl rfl (d := 27) rfl rfl rfl ?_
        refine OpsL.skipped rfl rfl (d := 27) rfl rfl rfl ?_
        refine OpsL.val rfl rfl (r_pickF (v := (.bool _)) rfl rfl) ?_
        refine OpsL.nil ?_
        refine Then.norm ?_
        refine W.cond rfl (fun c57 => ?_) (fun c57 => ?_)
        ·
          cases c57
        ·
          refine W.skip ?_
          refine Blk.norm ?_
          refine Then.norm ?_
          refine W.region ?_
          refine OpsL.val rfl rfl (r_mvI rfl) ?_
          refine OpsL.val rfl rfl (r_add rfl rfl (by first | omega | (simp; omega))) ?_
          refine OpsL.val rfl rfl (r_asI rfl) ?_
          refine OpsL.nil ?_
          refine Then.norm ?_
          refine ⟨⟨i + 1, v_3, o_3, h32⟩, ⟨rfl, rfl, trivial⟩, ?_, ⟨(le15.trans le33), st36.take 1, ?_, ?_⟩, ?_⟩
          · repeat (first | exact Agree.mix _ _ _ | exact Agree.refl _ _ | refine Agree.updO rfl ?_ | refine Agree.upd rfl ?_ | refine Agree.known rfl ?_ | refine Agree.sub rfl ?_)
          · refine OSl.to (hO_3.up le33) ?_
            rw [take_snoc hd, List.filter_append]; simp_all [standP]
          · first | omega | (simp; omega)
          · show x.decisions.length - ((i + 1)) < x.decisions.length - i
            omega
    ·
      replace c18 := of_decide_eq_false c18
      refine W.exit ?_
      refine Then.exit ?_
      refine Then.exit ?_
      refine Blk.hit ?_
      refine Blk.norm ?_
      refine Then.norm ?_
      refine W.region ?_
      refine OpsL.val rfl rfl (r_mvI rfl) ?_
      refine OpsL.val rfl rfl (r_add rfl rfl (by first | omega | (simp; omega))) ?_
      refine OpsL.val rfl rfl (r_asI rfl) ?_
      refine OpsL.nil ?_
      refine Then.norm ?_
      refine ⟨⟨n + 1, v_3, o_3, h14⟩, ⟨rfl, rfl, trivial⟩, ?_, ⟨(le8.trans le15), st16, ?_, ?_⟩, ?_⟩
      · repeat (first | exact Agree.mix _ _ _ | exact Agree.refl _ _ | refine Agree.updO rfl ?_ | refine Agree.upd rfl ?_ | refine Agree.known rfl ?_ | refine Agree.sub rfl ?_)
      · refine OSl.to hO_3 ?_
        rw [List.range_succ, List.flatMap_append]; simp [standAt, List.take_of_length_le (show x.decisions.length ≤ i by omega)]
      · first | omega | (simp; omega)
      · show 999 - ((n + 1)) < 999 - n
        omega
  ·
    replace c13 := of_decide_eq_false c13
    refine W.exit ?_
    refine Then.exit ?_
    refine Then.exit ?_
    refine Blk.hit ?_
    refine Then.norm ?_
    refine W.seq ?_
    refine W.region ?_
    refine OpsL.val rfl rfl (r_move (v := v_3) rfl) ?_
    refine OpsL.val rfl rfl (r_assign (v := v_3) rfl) ?_
    refine OpsL.nil ?_
    refine Then.norm ?_
    refine W.ret ?_
    -- return r1
    refine Post.ret1 Tryz.results46 ?_
    obtain ⟨h58, le59, f60, st61⟩ := OSl.freeze (k := 0) st9 hO_3 rfl (by have q := stand_len n hl20; omega)
    refine ⟨h58, _, rfl, st61.done, ?_⟩
    refine ⟨_, rfl, Sl.to f60 ?_⟩
    have q : n = 999 := by omega
    subst q; rfl
set_option maxRecDepth 4000 in
theorem c_postilref04_Standing {h : Heap} {w : World} (hs : Sub h w) {t : Text} {t_v0 : Value} (t_f0 : Sl LChapter h t_v0 t.chapters) {x : Lexicon} {x_v0 : Value} (x_f0 : Sl LRule h x_v0 x.rules) {x_v1 : Value} (x_f1 : Sl LDecision h x_v1 x.decisions) : Calls Tryz.prog 13 #[.agg #[t_v0], .agg #[x_v0, x_v1]] w (Rets h w (fun h' _ res_ => ∃ u0, res_ = .tuple #[u0, .int .i64 (checkN t x)] ∧ Sl LInt h' u0 (standingN t x))) := by
  refine W.calls (n := 33) (args := [.agg #[t_v0], .agg #[x_v0, x_v1]]) Tryz.func13 rfl rfl rfl ?_
  have st0 : St h w h w [] := St.start hs
  have t_f0_b := t_f0.le
  have x_f0_b := x_f0.le
  have x_f1_b := x_f1.le
  refine W.seq ?_
  refine W.region ?_
  refine OpsL.boxF st0 (cs := [t_v0]) rfl rfl rfl ?_
  intro b1 w2 h3 le4 hc5 st6
  refine OpsL.boxF st6 (cs := [x_v0, x_v1]) rfl rfl rfl ?_
  intro b7 w8 h9 le10 hc11 st12
  refine OpsL.val rfl rfl (r_asL rfl) ?_
  refine OpsL.val rfl rfl (r_asI rfl) ?_
  refine OpsL.nil ?_
  refine Then.norm ?_
  refine W.seq ?_
  refine W.seq ?_
  refine W.region ?_
  refine OpsL.val rfl rfl (r_load_call st12.sub (hc5.up le10) rfl Tryz.isAgg24 Tryz.sizeOf24 rfl) ?_
  refine OpsL.val rfl rfl (r_load_call st12.sub hc11 rfl Tryz.isAgg28 Tryz.sizeOf28 rfl) ?_
  refine OpsL.callF st12 rfl rfl rfl Tryz.call15 rfl (c_postilref04_Check st12.sub (t := t) (t_f0.up (le4.trans le10)) (x := x) (x_f0.up (le4.trans le10)) (x_f1.up (le4.trans le10))) ?_
  intro r13 w14 h15 le16 st17 q18
  obtain rfl := q18
  refine OpsL.val rfl rfl (r_asI rfl) ?_
  refine OpsL.nil ?_
  refine Then.norm ?_
  refine W.seq ?_
  refine W.region ?_
  refine OpsL.val rfl rfl (r_mvI rfl) ?_
  refine OpsL.val rfl rfl (r_neq rfl rfl) ?_
  refine OpsL.nil ?_
  refine Then.norm ?_
  refine W.cond rfl (fun c19 => ?_) (fun c19 => ?_)
  ·
    replace c19 := of_decide_eq_true c19
    refine W.seq ?_
    refine W.region ?_
    refine OpsL.val rfl rfl (r_mvI rfl) ?_
    refine OpsL.val rfl rfl (r_asL rfl) ?_
    refine OpsL.val rfl rfl (r_asI rfl) ?_
    refine OpsL.nil ?_
    refine Then.norm ?_
    refine W.ret ?_
    refine Then.ret ?_
    -- return r1
    refine Post.ret2 Tryz.results13 ?_
    refine ⟨h15, _, rfl, st17.done, ?_⟩
    refine ⟨_, tup2 rfl (int_eq ?_), Sl.to (Sl.nil _ _) ?_⟩
    all_goals simp_all [standingN]
  ·
    replace c19 := of_decide_eq_false c19
    refine W.skip ?_
    refine Then.norm ?_
    refine W.seq ?_
    refine W.region ?_
    refine OpsL.val rfl rfl (r_asL rfl) ?_
    refine OpsL.nil ?_
    refine Then.norm ?_
    refine W.seq ?_
    refine W.region ?_
    refine OpsL.val rfl rfl (r_load_call st17.sub (hc11.up le16) rfl Tryz.isAgg28 Tryz.sizeOf28 rfl) ?_
    refine OpsL.callF st17 rfl rfl rfl Tryz.call46 rfl (c_postilref04_standing st17.sub (x := x) (x_f0.up ((le4.trans le10).trans le16)) (x_f1.up ((le4.trans le10).trans le16)) (by exact lexicon_v (by simpa using c19)) (by exact lexicon_v1 (by simpa using c19)) (by exact lexicon_20 (by simpa using c19))) ?_
    intro r20 w21 h22 le23 st24 q25
    obtain ⟨v26, e28, f27⟩ := q25
    rw [← e28] at f27
    have f27_b := f27.le
    refine OpsL.val rfl rfl (r_assign (v := r20) rfl) ?_
    refine OpsL.nil ?_
    refine Then.norm ?_
    refine W.seq ?_
    refine W.seq ?_
    refine W.region ?_
    refine OpsL.val rfl rfl (r_asI rfl) ?_
    refine OpsL.nil ?_
    refine Then.norm ?_
    refine W.block ?_
    have st32 := st24.snoc
    have f33 := OSl.nil LInt 3 h22
    refine W.loopI [7, 9, 18, 19, 20, 21, 22, 23, 24, 25, 26, 27, 28, 29, 30, 31] (G := Nat × Value × List (Nat × Obj) × Heap) (fun ⟨i, v_7, o_7, h29⟩ => [(7, v_7), (9, .int .i64 (i : Int))]) (fun ⟨i, v_7, o_7, h29⟩ w' => Le h22 h29 ∧ St h w h29 w' [o_7] ∧ (OSl LInt 3 h29 v_7 (((standingR x).take i).map (·.number)) o_7) ∧ (i ≤ (standingR x).length)) (fun ⟨i, v_7, o_7, h29⟩ => (standingR x).length - i) ⟨0, (.slice none 0 0), [], h22⟩ ⟨rfl, rfl, trivial⟩ ⟨Le.refl _, st32, (OSl.to f33 (by rfl)), (by first | omega | simp | trivial)⟩ ?_
    rintro ⟨i, v_7, o_7, h29⟩ _ w34 ⟨le30, st31, hO_7, hi⟩
    refine W.seq ?_
    refine W.seq ?_
    refine W.region ?_
    refine OpsL.val rfl rfl (r_mvI rfl) ?_
    refine OpsL.val rfl rfl (r_move (v := r20) rfl) ?_
    refine OpsL.val rfl rfl (r_len (f27.up le30) rfl Tryz.underlying26) ?_
    refine OpsL.val rfl rfl (r_lss rfl rfl) ?_
    refine OpsL.nil ?_
    refine Then.norm ?_
    refine W.cond rfl (fun c35 => ?_) (fun c35 => ?_)
    ·
      replace c35 := of_decide_eq_true c35
      refine W.skip ?_
      refine Then.norm ?_
      refine W.seq ?_
      refine W.block ?_
      refine W.region ?_
      refine OpsL.val rfl rfl (r_move (v := v_7) rfl) ?_
      refine OpsL.val rfl rfl (r_move (v := r20) rfl) ?_
      refine OpsL.val rfl rfl (r_mvI rfl) ?_
      have hd : ∃ y, (standingR (x))[i]? = some y := ⟨_, List.getElem?_eq_getElem (by omega)⟩
      obtain ⟨d, hd⟩ := hd
      obtain ⟨b36, o37, _, he39, hc38, hr_d⟩ := Sl.elem (f27.up le30) hd
      obtain ⟨rfl, lu40, ls41, ls42, lu43⟩ := hr_d
      simp only [big] at ls41
      simp only [big] at ls42
      refine OpsL.val rfl rfl (r_index_el he39 rfl rfl (hk := rfl) (hu := Tryz.underlying26) (hz := Tryz.sizeOf56)) ?_
      refine OpsL.val rfl rfl (r_field_addr rfl Tryz.underlying56 rfl Tryz.sizeOf3 rfl) ?_
      refine OpsL.val rfl rfl (r_load_cells1 (j := 0) st31.sub hc38 rfl rfl rfl Tryz.isAgg3) ?_
      refine OpsL.sliceF (L := LInt) (xs := [(d.number)]) (cs := [.int .i64 (d.number)]) st31 (Enc.cons (L := LInt) (vs := [.int .i64 (d.number)]) (x := (d.number)) (h := h29) (rfl) Enc.nil) rfl rfl rfl Tryz.underlying39 Tryz.info3 rfl rfl rfl (by kernel_rfl) ?_
      intro v44 w45 h48 le49 f46 st47
      refine OpsL.append (k := 0) (nb := 8) st47 (hO_7.up le49) rfl f46 rfl rfl rfl Tryz.underlying39 Tryz.info3 rfl rfl rfl (by decide) rfl (by have qs : (standingR x).length ≤ 20 * 999 := stand_len 999 (lexicon_20 (by simpa using c19)); have q := List.length_take_le i (standingR x); simp; omega) (by have qs : (standingR x).length ≤ 20 * 999 := stand_len 999 (lexicon_20 (by simpa using c19)); have q := List.length_take_le i (standingR x); simp; omega) ?_
      intro v50 o51 w52 _ e53 f54 st55
      subst e53
      refine OpsL.val rfl rfl (r_assign (v := v50) rfl) ?_
      refine OpsL.nil ?_
      refine Blk.norm ?_
      refine Then.norm ?_
      refine W.region ?_
      refine OpsL.val rfl rfl (r_mvI rfl) ?_
      refine OpsL.val rfl rfl (r_add rfl rfl (by first | omega | (simp; omega))) ?_
      refine OpsL.val rfl rfl (r_asI rfl) ?_
      refine OpsL.nil ?_
      refine Then.norm ?_
      refine ⟨⟨i + 1, v50, o51, h48⟩, ⟨rfl, rfl, trivial⟩, ?_, ⟨(le30.trans le49), st55, ?_, ?_⟩, ?_⟩
      · repeat (first | exact Agree.mix _ _ _ | exact Agree.refl _ _ | refine Agree.updO rfl ?_ | refine Agree.upd rfl ?_ | refine Agree.known rfl ?_ | refine Agree.sub rfl ?_)
      · refine OSl.to f54 ?_
        rw [take_snoc hd]; simp
      · first | omega | (simp; omega)
      · show (standingR x).length - ((i + 1)) < (standingR x).length - i
        omega
    ·
      replace c35 := of_decide_eq_false c35
      refine W.exit ?_
      refine Then.exit ?_
      refine Then.exit ?_
      refine Blk.hit ?_
      refine Then.norm ?_
      refine W.seq ?_
      refine W.region ?_
      refine OpsL.val rfl rfl (r_move (v := v_7) rfl) ?_
      refine OpsL.val rfl rfl (r_assign (v := v_7) rfl) ?_
      refine OpsL.val rfl rfl (r_asI rfl) ?_
      refine OpsL.nil ?_
      refine Then.norm ?_
      refine W.ret ?_
      -- return r2
      refine Post.ret2 Tryz.results13 ?_
      obtain ⟨h56, le57, f58, st59⟩ := OSl.freeze (k := 0) st31 hO_7 rfl (by have qs : (standingR x).length ≤ 20 * 999 := stand_len 999 (lexicon_20 (by simpa using c19)); have q := List.length_take_le i (standingR x); simp; omega)
      refine ⟨h56, _, rfl, st59.done, ?_⟩
      refine ⟨_, tup2 rfl (int_eq ?_), Sl.to f58 ?_⟩
      · have q := c19
        simp at q
        rw [q]
      · have q := c19
        simp at q
        rw [List.take_of_length_le (by omega)]; simp [standingN, q]
end Go.Pk
