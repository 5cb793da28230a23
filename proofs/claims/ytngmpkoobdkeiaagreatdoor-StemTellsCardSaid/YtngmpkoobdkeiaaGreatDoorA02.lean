/- A PART OF THE PROOF (printed by a program of the author's own): contracts of functions, each walked once. -/
import Derived.Test.YtngmpkoobdkeiaaGreatDoorA01
namespace Go.Pk
open Go Go.RowKit Go.Proofs
set_option maxRecDepth 4000 in
theorem c_postilref01_Text {h : Heap} {w : World} (hs : Sub h w) {t : Text} {t_v0 : Value} (t_f0 : Sl LChapter h t_v0 t.chapters) : Calls Tryz.prog 101 #[.agg #[t_v0]] w (Rets h w (fun _ _ res_ => res_ = .bool (textB t))) := by
  refine W.calls (n := 85) (args := [.agg #[t_v0]]) Tryz.func101 rfl rfl rfl ?_
  have st0 : St h w h w [] := St.start hs
  have t_f0_b := t_f0.le
  refine W.seq ?_
  refine W.region ?_
  refine OpsL.boxF st0 (cs := [t_v0]) rfl rfl rfl ?_
  intro b1 w2 h3 le4 hc5 st6
  refine OpsL.val rfl rfl (r_asB rfl) ?_
  refine OpsL.nil ?_
  refine Then.norm ?_
  refine W.seq ?_
  refine W.seq ?_
  refine W.region ?_
  refine OpsL.val rfl rfl (r_field_addr rfl Tryz.underlying24 rfl Tryz.sizeOf22 rfl) ?_
  refine OpsL.val rfl rfl (r_load_cells1 (j := 0) st6.sub hc5 rfl rfl rfl Tryz.isAgg22) ?_
  refine OpsL.val rfl rfl (r_len (t_f0.up le4) rfl Tryz.underlying22) ?_
  refine OpsL.callF st6 rfl rfl rfl Tryz.call84 rfl (c_postilref01_within st6.sub _ _ _) ?_
  intro r7 w8 h9 le10 st11 q12
  obtain rfl := q12
  refine OpsL.val rfl rfl (r_not rfl) ?_
  refine OpsL.nil ?_
  refine Then.norm ?_
  refine W.cond rfl (fun c13 => ?_) (fun c13 => ?_)
  ·
    refine W.seq ?_
    refine W.region ?_
    refine OpsL.val rfl rfl (r_asB rfl) ?_
    refine OpsL.nil ?_
    refine Then.norm ?_
    refine W.ret ?_
    refine Then.ret ?_
    -- return r1
    refine Post.ret1 Tryz.results101 ?_
    refine ⟨h9, _, rfl, st11.done, ?_⟩
    refine bool_eq ?_
    simp_all [textB]
  ·
    refine W.skip ?_
    refine Then.norm ?_
    refine W.seq ?_
    refine W.seq ?_
    refine W.region ?_
    refine OpsL.val rfl rfl (r_asI rfl) ?_
    refine OpsL.nil ?_
    refine Then.norm ?_
    refine W.block ?_
    refine W.loopI [2, 3, 4, 5, 6, 7, 13, 14, 15, 16, 17, 18, 19, 20, 21, 22, 23, 24, 25, 26, 27, 28, 29, 30, 31, 32, 33, 34, 35, 36, 37, 38, 39, 40, 41, 42, 43, 44, 45, 46, 47, 48, 49, 50, 51, 52, 53, 54, 55, 56, 57, 58, 59, 60, 61, 62, 63, 64, 65, 66, 67, 68, 69, 70, 71, 72, 73, 74, 75, 76, 77, 78, 79, 80, 81, 82, 83, 84] (G := Nat × Heap) (fun ⟨i, h14⟩ => [(3, .int .i64 (i : Int))]) (fun ⟨i, h14⟩ w' => Le h9 h14 ∧ St h w h14 w' [] ∧ (i ≤ t.chapters.length) ∧ ((t.chapters.take i).all chapterB = true) ∧ (((t.chapters.take i).map (·.id)).Nodup)) (fun ⟨i, h14⟩ => t.chapters.length - i) ⟨0, h9⟩ ⟨rfl, trivial⟩ ⟨Le.refl _, st11, (by first | omega | simp | trivial), (by first | omega | simp | trivial), (by first | omega | simp | trivial)⟩ ?_
    rintro ⟨i, h14⟩ _ w17 ⟨le15, st16, hi, hA, hN⟩
    refine W.seq ?_
    refine W.seq ?_
    refine W.region ?_
    refine OpsL.val rfl rfl (r_mvI rfl) ?_
    refine OpsL.val rfl rfl (r_field_addr rfl Tryz.underlying24 rfl Tryz.sizeOf22 rfl) ?_
    refine OpsL.val rfl rfl (r_load_cells1 (j := 0) st16.sub (hc5.up (le10.trans le15)) rfl rfl rfl Tryz.isAgg22) ?_
    refine OpsL.val rfl rfl (r_len (t_f0.up ((le4.trans le10).trans le15)) rfl Tryz.underlying22) ?_
    refine OpsL.val rfl rfl (r_lss rfl rfl) ?_
    refine OpsL.nil ?_
    refine Then.norm ?_
    refine W.cond rfl (fun c18 => ?_) (fun c18 => ?_)
    ·
      replace c18 := of_decide_eq_true c18
      refine W.skip ?_
      refine Then.norm ?_
      refine W.seq ?_
      refine W.block ?_
      refine W.seq ?_
      refine W.region ?_
      refine OpsL.val rfl rfl (r_field_addr rfl Tryz.underlying24 rfl Tryz.sizeOf22 rfl) ?_
      refine OpsL.val rfl rfl (r_load_cells1 (j := 0) st16.sub (hc5.up (le10.trans le15)) rfl rfl rfl Tryz.isAgg22) ?_
      refine OpsL.val rfl rfl (r_mvI rfl) ?_
      have hc : ∃ y, (t.chapters)[i]? = some y := ⟨_, List.getElem?_eq_getElem (by omega)⟩
      obtain ⟨c, hc⟩ := hc
      obtain ⟨b19, o20, _, he22, hc21, hr_c⟩ := Sl.elem (t_f0.up ((le4.trans le10).trans le15)) hc
      obtain ⟨v23, rfl, f24⟩ := hr_c
      have f24_b := f24.le
      refine OpsL.val rfl rfl (r_index_el he22 rfl rfl (hk := rfl) (hu := Tryz.underlying22) (hz := Tryz.sizeOf93)) ?_
      refine OpsL.val rfl rfl (r_load_call st16.sub hc21 rfl Tryz.isAgg93 Tryz.sizeOf93 rfl) ?_
      refine OpsL.allocO st16 Tryz.zeroValue93 rfl rfl ?_
      intro b25 w26 st27
      refine OpsL.storeN st27 (k := 0) rfl rfl rfl (one_cons rfl (one_cons f24.one one_nil)) Tryz.sizeOf93 rfl rfl rfl ?_
      intro w28 st29
      obtain ⟨h30, le31, hb32, st34⟩ := st29.freeze (k := 0) rfl
      have hc33 := Cells.of hb32
      refine OpsL.nil ?_
      refine Then.norm ?_
      refine W.seq ?_
      refine W.seq ?_
      refine W.region ?_
      refine OpsL.val rfl rfl (r_field_addr rfl Tryz.underlying93 rfl Tryz.sizeOf3 rfl) ?_
      refine OpsL.val rfl rfl (r_load_cells1 (j := 0) st34.sub hc33 rfl rfl rfl Tryz.isAgg3) ?_
      refine OpsL.callF st34 rfl rfl rfl Tryz.call84 rfl (c_postilref01_within st34.sub _ _ _) ?_
      intro r35 w36 h37 le38 st39 q40
      obtain rfl := q40
      refine OpsL.val rfl rfl (r_not rfl) ?_
      refine OpsL.val rfl rfl (r_mvB rfl) ?_
      refine OpsL.split (d := 29) rfl (fun g41 => ?_) (fun g41 => ?_)
      ·
        refine OpsL.skipped rfl rfl (d := 29) rfl rfl rfl ?_
        refine OpsL.skipped rfl rfl (d := 29) rfl rfl rfl ?_
        refine OpsL.skipped rfl rfl (d := 29) rfl rfl rfl ?_
        refine OpsL.skipped rfl rfl (d := 29) rfl rfl rfl ?_
        refine OpsL.skipped rfl rfl (d := 29) rfl rfl rfl ?_
        refine OpsL.val rfl rfl (r_pickT (v := (.bool _)) rfl rfl) ?_
        refine OpsL.nil ?_
        refine Then.norm ?_
        refine W.cond rfl (fun c42 => ?_) (fun c42 => ?_)
        ·
          refine W.seq ?_
          refine W.region ?_
          refine OpsL.val rfl rfl (r_asB rfl) ?_
          refine OpsL.nil ?_
          refine Then.norm ?_
          refine W.ret ?_
          refine Then.ret ?_
          refine Blk.ret ?_
          refine Then.ret ?_
          refine Then.ret ?_
          refine Blk.ret ?_
          refine Then.ret ?_
          -- return r2
          refine Post.ret1 Tryz.results101 ?_
          refine ⟨h37, _, rfl, st39.done, ?_⟩
          refine bool_eq ?_
          have q0 : chapterB c = false := by simp_all [chapterB]
          have q := not_all (p := chapterB) hc q0
          simp [textB, q]
        ·
          cases c42
      ·
        refine OpsL.guarded rfl rfl (d := 29) rfl ?_
        refine OpsL.val rfl rfl (r_field_addr rfl Tryz.underlying93 rfl Tryz.sizeOf91 rfl) ?_
        refine OpsL.guarded rfl rfl (d := 29) rfl ?_
        refine OpsL.val rfl rfl (r_load_cells1 (j := 1) st39.sub (hc33.up le38) rfl rfl rfl Tryz.isAgg91) ?_
        refine OpsL.guarded rfl rfl (d := 29) rfl ?_
        refine OpsL.val rfl rfl (r_len (f24.up (le31.trans le38)) rfl Tryz.underlying91) ?_
        refine OpsL.guarded rfl rfl (d := 29) rfl ?_
        refine OpsL.callF st39 rfl rfl rfl Tryz.call84 rfl (c_postilref01_within st39.sub _ _ _) ?_
        intro r43 w44 h45 le46 st47 q48
        obtain rfl := q48
        refine OpsL.guarded rfl rfl (d := 29) rfl ?_
        refine OpsL.val rfl rfl (r_not rfl) ?_
        refine OpsL.val rfl rfl (r_pickF (v := (.bool _)) rfl rfl) ?_
        refine OpsL.nil ?_
        refine Then.norm ?_
        refine W.cond rfl (fun c49 => ?_) (fun c49 => ?_)
        ·
          refine W.seq ?_
          refine W.region ?_
          refine OpsL.val rfl rfl (r_asB rfl) ?_
          refine OpsL.nil ?_
          refine Then.norm ?_
          refine W.ret ?_
          refine Then.ret ?_
          refine Blk.ret ?_
          refine Then.ret ?_
          refine Then.ret ?_
          refine Blk.ret ?_
          refine Then.ret ?_
          -- return r3
          refine Post.ret1 Tryz.results101 ?_
          refine ⟨h45, _, rfl, st47.done, ?_⟩
          refine bool_eq ?_
          have q0 : chapterB c = false := by simp_all [chapterB]
          have q := not_all (p := chapterB) hc q0
          simp [textB, q]
        ·
          refine W.skip ?_
          refine Then.norm ?_
          refine W.seq ?_
          refine W.seq ?_
          refine W.region ?_
          refine OpsL.val rfl rfl (r_asI rfl) ?_
          refine OpsL.nil ?_
          refine Then.norm ?_
          refine W.block ?_
          refine W.loopI [2, 5, 36, 37, 38, 39, 40, 41, 42, 43, 44, 45, 46, 47, 48, 49] (G := Nat × Heap) (fun ⟨k1, h50⟩ => [(5, .int .i64 (k1 : Int))]) (fun ⟨k1, h50⟩ w' => Le h45 h50 ∧ St h w h50 w' [[]] ∧ (k1 ≤ i) ∧ (∀ j c2, j < k1 → t.chapters[j]? = some c2 → c2.id ≠ c.id)) (fun ⟨k1, h50⟩ => i - k1) ⟨0, h45⟩ ⟨rfl, trivial⟩ ⟨Le.refl _, st47, (by first | omega | simp | trivial), (by intro j _ hj; omega)⟩ ?_
          rintro ⟨k1, h50⟩ _ w53 ⟨le51, st52, hk1, hd⟩
          refine W.seq ?_
          refine W.seq ?_
          refine W.region ?_
          refine OpsL.val rfl rfl (r_mvI rfl) ?_
          refine OpsL.val rfl rfl (r_mvI rfl) ?_
          refine OpsL.val rfl rfl (r_lss rfl rfl) ?_
          refine OpsL.nil ?_
          refine Then.norm ?_
          refine W.cond rfl (fun c54 => ?_) (fun c54 => ?_)
          ·
            replace c54 := of_decide_eq_true c54
            refine W.skip ?_
            refine Then.norm ?_
            refine W.seq ?_
            refine W.block ?_
            refine W.seq ?_
            refine W.regionQ Tryz.mixed (by kernel_rfl) (Cls h50 _) (Cls.drew st52) ?_
            refine OpsQ.val rfl rfl (fun _ _ => (r_field_addr rfl Tryz.underlying24 rfl Tryz.sizeOf22 rfl)) ?_
            refine OpsQ.val rfl rfl (fun _ hC => (r_load_cells1 (j := 0) hC.sub (hc5.up (((((le10.trans le15).trans le31).trans le38).trans le46).trans le51)) rfl rfl rfl Tryz.isAgg22)) ?_
            refine OpsQ.val rfl rfl (fun _ _ => (r_mvI rfl)) ?_
            have hcc : ∃ y, (t.chapters)[k1]? = some y := ⟨_, List.getElem?_eq_getElem (by omega)⟩
            obtain ⟨cc, hcc⟩ := hcc
            obtain ⟨b55, o56, _, he58, hc57, hr_cc⟩ := Sl.elem (t_f0.up ((((((le4.trans le10).trans le15).trans le31).trans le38).trans le46).trans le51)) hcc
            obtain ⟨v59, rfl, f60⟩ := hr_cc
            have f60_b := f60.le
            refine OpsQ.val rfl rfl (fun _ _ => (r_index_el he58 rfl rfl (hk := rfl) (hu := Tryz.underlying22) (hz := Tryz.sizeOf93))) ?_
            refine OpsQ.val rfl rfl (fun _ _ => (r_field_addr rfl Tryz.underlying93 rfl Tryz.sizeOf3 rfl)) ?_
            refine OpsQ.val rfl rfl (fun _ hC => (r_load_cells1 (j := 0) hC.sub hc57 rfl rfl rfl Tryz.isAgg3)) ?_
            refine OpsQ.val rfl rfl (fun _ _ => (r_field_addr rfl Tryz.underlying93 rfl Tryz.sizeOf3 rfl)) ?_
            refine OpsQ.val rfl rfl (fun _ hC => (r_load_cells1 (j := 0) hC.sub (hc33.up ((le38.trans le46).trans le51)) rfl rfl rfl Tryz.isAgg3)) ?_
            refine OpsQ.val rfl rfl (fun _ _ => (r_eql rfl rfl)) ?_
            refine OpsQ.nil ?_
            rintro w61 ⟨h62, s63⟩
            have st64 := st52.call0 s63
            refine Then.norm ?_
            refine W.cond rfl (fun c65 => ?_) (fun c65 => ?_)
            ·
              replace c65 := of_decide_eq_true c65
              refine W.seq ?_
              refine W.region ?_
              refine OpsL.val rfl rfl (r_asB rfl) ?_
              refine OpsL.nil ?_
              refine Then.norm ?_
              refine W.ret ?_
              refine Blk.ret ?_
              refine Then.ret ?_
              refine Then.ret ?_
              refine Blk.ret ?_
              refine Then.ret ?_
              refine Blk.ret ?_
              refine Then.ret ?_
              refine Then.ret ?_
              refine Blk.ret ?_
              refine Then.ret ?_
              -- return r4
              refine Post.ret1 Tryz.results101 ?_
              refine ⟨h62, _, rfl, st64.done, ?_⟩
              refine bool_eq ?_
              have q := not_nodup (f := (·.id)) hcc hc (by omega) (by assumption)
              simp [textB, q]
            ·
              replace c65 := of_decide_eq_false c65
              refine W.skip ?_
              refine Blk.norm ?_
              refine Then.norm ?_
              refine W.region ?_
              refine OpsL.val rfl rfl (r_mvI rfl) ?_
              refine OpsL.val rfl rfl (r_add rfl rfl (by first | omega | (simp; omega))) ?_
              refine OpsL.val rfl rfl (r_asI rfl) ?_
              refine OpsL.nil ?_
              refine Then.norm ?_
              refine ⟨⟨k1 + 1, h62⟩, ⟨rfl, trivial⟩, ?_, ⟨(le51.trans s63.le), st64, ?_, ?_⟩, ?_⟩
              · repeat (first | exact Agree.mix _ _ _ | exact Agree.refl _ _ | refine Agree.updO rfl ?_ | refine Agree.upd rfl ?_ | refine Agree.known rfl ?_ | refine Agree.sub rfl ?_)
              · first | omega | (simp; omega)
              · intro j c2 h1 h2
                rcases Nat.lt_or_ge j k1 with h3 | h3
                · exact hd j c2 h3 h2
                · obtain rfl : j = k1 := by omega
                  rw [h2] at hcc; cases hcc; assumption
              · show i - ((k1 + 1)) < i - k1
                omega
          ·
            replace c54 := of_decide_eq_false c54
            refine W.exit ?_
            refine Then.exit ?_
            refine Then.exit ?_
            refine Blk.hit ?_
            refine Then.norm ?_
            refine W.seq ?_
            refine W.region ?_
            refine OpsL.val rfl rfl (r_asI rfl) ?_
            refine OpsL.nil ?_
            refine Then.norm ?_
            refine W.block ?_
            refine W.loopI [2, 6, 7, 50, 51, 52, 53, 54, 55, 56, 57, 58, 59, 60, 61, 62, 63, 64, 65, 66, 67, 68, 69, 70, 71, 72, 73, 74, 75, 76, 77, 78, 79, 80, 81, 82, 83, 84] (G := Nat × Heap) (fun ⟨k2, h66⟩ => [(6, .int .i64 (k2 : Int))]) (fun ⟨k2, h66⟩ w' => Le h50 h66 ∧ St h w h66 w' [[]] ∧ (k2 ≤ c.lines.length) ∧ ((c.lines.take k2).all lineB = true)) (fun ⟨k2, h66⟩ => c.lines.length - k2) ⟨0, h50⟩ ⟨rfl, trivial⟩ ⟨Le.refl _, st52, (by first | omega | simp | trivial), (by first | omega | simp | trivial)⟩ ?_
            rintro ⟨k2, h66⟩ _ w69 ⟨le67, st68, hk2, hl⟩
            refine W.seq ?_
            refine W.seq ?_
            refine W.region ?_
            refine OpsL.val rfl rfl (r_mvI rfl) ?_
            refine OpsL.val rfl rfl (r_field_addr rfl Tryz.underlying93 rfl Tryz.sizeOf91 rfl) ?_
            refine OpsL.val rfl rfl (r_load_cells1 (j := 1) st68.sub (hc33.up (((le38.trans le46).trans le51).trans le67)) rfl rfl rfl Tryz.isAgg91) ?_
            refine OpsL.val rfl rfl (r_len (f24.up ((((le31.trans le38).trans le46).trans le51).trans le67)) rfl Tryz.underlying91) ?_
            refine OpsL.val rfl rfl (r_lss rfl rfl) ?_
            refine OpsL.nil ?_
            refine Then.norm ?_
            refine W.cond rfl (fun c70 => ?_) (fun c70 => ?_)
            ·
              replace c70 := of_decide_eq_true c70
              refine W.skip ?_
              refine Then.norm ?_
              refine W.seq ?_
              refine W.block ?_
              refine W.seq ?_
              refine W.seq ?_
              refine W.region ?_
              refine OpsL.val rfl rfl (r_field_addr rfl Tryz.underlying93 rfl Tryz.sizeOf91 rfl) ?_
              refine OpsL.val rfl rfl (r_load_cells1 (j := 1) st68.sub (hc33.up (((le38.trans le46).trans le51).trans le67)) rfl rfl rfl Tryz.isAgg91) ?_
              refine OpsL.val rfl rfl (r_mvI rfl) ?_
              have hln : ∃ y, (c.lines)[k2]? = some y := ⟨_, List.getElem?_eq_getElem (by omega)⟩
              obtain ⟨ln, hln⟩ := hln
              obtain ⟨b71, o72, _, he74, hc73, hr_ln⟩ := Sl.elem (f24.up ((((le31.trans le38).trans le46).trans le51).trans le67)) hln
              obtain ⟨v75, rfl, f76⟩ := hr_ln
              have f76_b := f76.le
              refine OpsL.val rfl rfl (r_index_el he74 rfl rfl (hk := rfl) (hu := Tryz.underlying91) (hz := Tryz.sizeOf33)) ?_
              refine OpsL.val rfl rfl (r_load_cells1 (j := 0) st68.sub hc73 rfl rfl rfl Tryz.isAgg33) ?_
              refine OpsL.val rfl rfl (r_len f76 rfl Tryz.underlying33) ?_
              refine OpsL.callF st68 rfl rfl rfl Tryz.call84 rfl (c_postilref01_within st68.sub _ _ _) ?_
              intro r77 w78 h79 le80 st81 q82
              obtain rfl := q82
              refine OpsL.val rfl rfl (r_not rfl) ?_
              refine OpsL.nil ?_
              refine Then.norm ?_
              refine W.cond rfl (fun c83 => ?_) (fun c83 => ?_)
              ·
                refine W.seq ?_
                refine W.region ?_
                refine OpsL.val rfl rfl (r_asB rfl) ?_
                refine OpsL.nil ?_
                refine Then.norm ?_
                refine W.ret ?_
                refine Then.ret ?_
                refine Blk.ret ?_
                refine Then.ret ?_
                refine Then.ret ?_
                refine Blk.ret ?_
                refine Blk.ret ?_
                refine Then.ret ?_
                refine Then.ret ?_
                refine Blk.ret ?_
                refine Then.ret ?_
                -- return r5
                refine Post.ret1 Tryz.results101 ?_
                refine ⟨h79, _, rfl, st81.done, ?_⟩
                refine bool_eq ?_
                have q1 : lineB ln = false := by simp_all [lineB]
                have q2 := not_all (p := lineB) hln q1
                have q0 : chapterB c = false := by simp [chapterB, q2]
                have q := not_all (p := chapterB) hc q0
                simp [textB, q]
              ·
                refine W.skip ?_
                refine Then.norm ?_
                refine W.seq ?_
                refine W.region ?_
                refine OpsL.val rfl rfl (r_asI rfl) ?_
                refine OpsL.nil ?_
                refine Then.norm ?_
                refine W.block ?_
                refine W.loopI [2, 7, 65, 66, 67, 68, 69, 70, 71, 72, 73, 74, 75, 76, 77, 78, 79, 80, 81, 82, 83, 84] (G := Nat × Heap) (fun ⟨k3, h84⟩ => [(7, .int .i64 (k3 : Int))]) (fun ⟨k3, h84⟩ w' => Le h79 h84 ∧ St h w h84 w' [[]] ∧ (k3 ≤ ln.length) ∧ ((ln.take k3).all wordB = true)) (fun ⟨k3, h84⟩ => ln.length - k3) ⟨0, h79⟩ ⟨rfl, trivial⟩ ⟨Le.refl _, st81, (by first | omega | simp | trivial), (by first | omega | simp | trivial)⟩ ?_
                rintro ⟨k3, h84⟩ _ w87 ⟨le85, st86, hk3, hw⟩
                refine W.seq ?_
                refine W.seq ?_
                refine W.region ?_
                refine OpsL.val rfl rfl (r_mvI rfl) ?_
                refine OpsL.val rfl rfl (r_field_addr rfl Tryz.underlying93 rfl Tryz.sizeOf91 rfl) ?_
                refine OpsL.val rfl rfl (r_load_cells1 (j := 1) st86.sub (hc33.up (((((le38.trans le46).trans le51).trans le67).trans le80).trans le85)) rfl rfl rfl Tryz.isAgg91) ?_
                refine OpsL.val rfl rfl (r_mvI rfl) ?_
                refine OpsL.val rfl rfl (r_index_el he74 rfl rfl (hk := rfl) (hu := Tryz.underlying91) (hz := Tryz.sizeOf33)) ?_
                refine OpsL.val rfl rfl (r_load_cells1 (j := 0) st86.sub (hc73.up (le80.trans le85)) rfl rfl rfl Tryz.isAgg33) ?_
                refine OpsL.val rfl rfl (r_len (f76.up (le80.trans le85)) rfl Tryz.underlying33) ?_
                refine OpsL.val rfl rfl (r_lss rfl rfl) ?_
                refine OpsL.nil ?_
                refine Then.norm ?_
                refine W.cond rfl (fun c88 => ?_) (fun c88 => ?_)
                ·
                  replace c88 := of_decide_eq_true c88
                  refine W.skip ?_
                  refine Then.norm ?_
                  refine W.seq ?_
                  refine W.block ?_
                  refine W.seq ?_
                  refine W.region ?_
                  refine OpsL.val rfl rfl (r_field_addr rfl Tryz.underlying93 rfl Tryz.sizeOf91 rfl) ?_
                  refine OpsL.val rfl rfl (r_load_cells1 (j := 1) st86.sub (hc33.up (((((le38.trans le46).trans le51).trans le67).trans le80).trans le85)) rfl rfl rfl Tryz.isAgg91) ?_
                  refine OpsL.val rfl rfl (r_mvI rfl) ?_
                  refine OpsL.val rfl rfl (r_index_el he74 rfl rfl (hk := rfl) (hu := Tryz.underlying91) (hz := Tryz.sizeOf33)) ?_
                  refine OpsL.val rfl rfl (r_load_cells1 (j := 0) st86.sub (hc73.up (le80.trans le85)) rfl rfl rfl Tryz.isAgg33) ?_
                  refine OpsL.val rfl rfl (r_mvI rfl) ?_
                  have hy89 : ∃ y, (ln)[k3]? = some y := ⟨_, List.getElem?_eq_getElem (by omega)⟩
                  obtain ⟨y89, hy89⟩ := hy89
                  obtain ⟨b90, o91, _, he93, hc92, hr_y89⟩ := Sl.elem (f76.up (le80.trans le85)) hy89
                  obtain ⟨rfl, ls94⟩ := hr_y89
                  simp only [big] at ls94
                  refine OpsL.val rfl rfl (r_index_el he93 rfl rfl (hk := rfl) (hu := Tryz.underlying33) (hz := Tryz.sizeOf9)) ?_
                  refine OpsL.val rfl rfl (r_load_cells1 (j := 0) st86.sub hc92 rfl rfl rfl Tryz.isAgg9) ?_
                  refine OpsL.callF st86 rfl rfl rfl Tryz.call43 rfl (c_postilref01_Word st86.sub _ (by first | assumption | (simp [big]; done) | (simp [big]; omega) | omega)) ?_
                  intro r95 w96 h97 le98 st99 q100
                  obtain rfl := q100
                  refine OpsL.val rfl rfl (r_not rfl) ?_
                  refine OpsL.nil ?_
                  refine Then.norm ?_
                  refine W.cond rfl (fun c101 => ?_) (fun c101 => ?_)
                  ·
                    refine W.seq ?_
                    refine W.region ?_
                    refine OpsL.val rfl rfl (r_asB rfl) ?_
                    refine OpsL.nil ?_
                    refine Then.norm ?_
                    refine W.ret ?_
                    refine Blk.ret ?_
                    refine Then.ret ?_
                    refine Then.ret ?_
                    refine Blk.ret ?_
                    refine Blk.ret ?_
                    refine Then.ret ?_
                    refine Then.ret ?_
                    refine Blk.ret ?_
                    refine Blk.ret ?_
                    refine Then.ret ?_
                    refine Then.ret ?_
                    refine Blk.ret ?_
                    refine Then.ret ?_
                    -- return r6
                    refine Post.ret1 Tryz.results101 ?_
                    refine ⟨h97, _, rfl, st99.done, ?_⟩
                    refine bool_eq ?_
                    have q3 := not_all (p := wordB) (by assumption) (by simpa using c101)
                    have q1 : lineB ln = false := by simp [lineB, q3]
                    have q2 := not_all (p := lineB) hln q1
                    have q0 : chapterB c = false := by simp [chapterB, q2]
                    have q := not_all (p := chapterB) hc q0
                    simp [textB, q]
                  ·
                    refine W.skip ?_
                    refine Blk.norm ?_
                    refine Then.norm ?_
                    refine W.region ?_
                    refine OpsL.val rfl rfl (r_mvI rfl) ?_
                    refine OpsL.val rfl rfl (r_add rfl rfl (by first | omega | (simp; omega))) ?_
                    refine OpsL.val rfl rfl (r_asI rfl) ?_
                    refine OpsL.nil ?_
                    refine Then.norm ?_
                    refine ⟨⟨k3 + 1, h97⟩, ⟨rfl, trivial⟩, ?_, ⟨(le85.trans le98), st99, ?_, ?_⟩, ?_⟩
                    · repeat (first | exact Agree.mix _ _ _ | exact Agree.refl _ _ | refine Agree.updO rfl ?_ | refine Agree.upd rfl ?_ | refine Agree.known rfl ?_ | refine Agree.sub rfl ?_)
                    · first | omega | (simp; omega)
                    · exact all_take_succ hw (by assumption) (by simp_all)
                    · show ln.length - ((k3 + 1)) < ln.length - k3
                      omega
                ·
                  replace c88 := of_decide_eq_false c88
                  refine W.exit ?_
                  refine Then.exit ?_
                  refine Then.exit ?_
                  refine Blk.hit ?_
                  refine Blk.norm ?_
                  refine Then.norm ?_
                  refine W.region ?_
                  refine OpsL.val rfl rfl (r_mvI rfl) ?_
                  refine OpsL.val rfl rfl (r_add rfl rfl (by first | omega | (simp; omega))) ?_
                  refine OpsL.val rfl rfl (r_asI rfl) ?_
                  refine OpsL.nil ?_
                  refine Then.norm ?_
                  refine ⟨⟨k2 + 1, h84⟩, ⟨rfl, trivial⟩, ?_, ⟨((le67.trans le80).trans le85), st86, ?_, ?_⟩, ?_⟩
                  · repeat (first | exact Agree.mix _ _ _ | exact Agree.refl _ _ | refine Agree.updO rfl ?_ | refine Agree.upd rfl ?_ | refine Agree.known rfl ?_ | refine Agree.sub rfl ?_)
                  · first | omega | (simp; omega)
                  · exact all_take_succ hl hln (by simp_all [lineB, all_of_take hw (by omega)])
                  · show c.lines.length - ((k2 + 1)) < c.lines.length - k2
                    omega
            ·
              replace c70 := of_decide_eq_false c70
              refine W.exit ?_
              refine Then.exit ?_
              refine Then.exit ?_
              refine Blk.hit ?_
              refine Blk.norm ?_
              refine Then.norm ?_
              refine W.region ?_
              refine OpsL.val rfl rfl (r_mvI rfl) ?_
              refine OpsL.val rfl rfl (r_add rfl rfl (by first | omega | (simp; omega))) ?_
              refine OpsL.val rfl rfl (r_asI rfl) ?_
              refine OpsL.nil ?_
              refine Then.norm ?_
              have HCH : chapterB c = true := by
                have q := all_of_take hl (by omega)
                simp_all [chapterB]
              refine ⟨⟨i + 1, h66⟩, ⟨rfl, trivial⟩, ?_, ⟨(((((le15.trans le31).trans le38).trans le46).trans le51).trans le67), st68.take 0, ?_, ?_, ?_⟩, ?_⟩
              · repeat (first | exact Agree.mix _ _ _ | exact Agree.refl _ _ | refine Agree.updO rfl ?_ | refine Agree.upd rfl ?_ | refine Agree.known rfl ?_ | refine Agree.sub rfl ?_)
              · first | omega | (simp; omega)
              · exact all_take_succ hA hc HCH
              · exact nodup_take_succ hN hc (by omega) (fun j c2 h1 h2 => hd j c2 (by omega) h2)
              · show t.chapters.length - ((i + 1)) < t.chapters.length - i
                omega
    ·
      replace c18 := of_decide_eq_false c18
      refine W.exit ?_
      refine Then.exit ?_
      refine Then.exit ?_
      refine Blk.hit ?_
      refine Then.norm ?_
      refine W.seq ?_
      refine W.region ?_
      refine OpsL.val rfl rfl (r_asB rfl) ?_
      refine OpsL.nil ?_
      refine Then.norm ?_
      refine W.ret ?_
      -- return r7
      refine Post.ret1 Tryz.results101 ?_
      refine ⟨h14, _, rfl, st16.done, ?_⟩
      refine bool_eq ?_
      have q := all_of_take hA (by omega)
      have q2 : t.chapters.take i = t.chapters := List.take_of_length_le (by omega)
      rw [q2] at hN
      simp_all [textB]
set_option maxRecDepth 4000 in
theorem c_postilref01_Check {h : Heap} {w : World} (hs : Sub h w) {t : Text} {t_v0 : Value} (t_f0 : Sl LChapter h t_v0 t.chapters) : Calls Tryz.prog 54 #[.agg #[t_v0]] w (Rets h w (fun _ _ res_ => res_ = .int .i64 ((if textB t then 0 else 10)))) := by
  refine W.calls (n := 6) (args := [.agg #[t_v0]]) Tryz.func54 rfl rfl rfl ?_
  have st0 : St h w h w [] := St.start hs
  have t_f0_b := t_f0.le
  refine W.seq ?_
  refine W.region ?_
  refine OpsL.boxF st0 (cs := [t_v0]) rfl rfl rfl ?_
  intro b1 w2 h3 le4 hc5 st6
  refine OpsL.val rfl rfl (r_asI rfl) ?_
  refine OpsL.nil ?_
  refine Then.norm ?_
  refine W.seq ?_
  refine W.seq ?_
  refine W.region ?_
  refine OpsL.val rfl rfl (r_load_call st6.sub hc5 rfl Tryz.isAgg24 Tryz.sizeOf24 rfl) ?_
  refine OpsL.callF st6 rfl rfl rfl Tryz.call101 rfl (c_postilref01_Text st6.sub (t := t) (t_f0.up le4)) ?_
  intro r7 w8 h9 le10 st11 q12
  obtain rfl := q12
  refine OpsL.val rfl rfl (r_not rfl) ?_
  refine OpsL.nil ?_
  refine Then.norm ?_
  refine W.cond rfl (fun c13 => ?_) (fun c13 => ?_)
  ·
    refine W.seq ?_
    refine W.region ?_
    refine OpsL.val rfl rfl (r_asI rfl) ?_
    refine OpsL.nil ?_
    refine Then.norm ?_
    refine W.ret ?_
    refine Then.ret ?_
    -- return r1
    refine Post.ret1 Tryz.results54 ?_
    refine ⟨h9, _, rfl, st11.done, ?_⟩
    refine int_eq ?_
    simp_all
  ·
    refine W.skip ?_
    refine Then.norm ?_
    refine W.seq ?_
    refine W.region ?_
    refine OpsL.val rfl rfl (r_asI rfl) ?_
    refine OpsL.nil ?_
    refine Then.norm ?_
    refine W.ret ?_
    -- return r2
    refine Post.ret1 Tryz.results54 ?_
    refine ⟨h9, _, rfl, st11.done, ?_⟩
    refine int_eq ?_
    simp_all
set_option maxRecDepth 4000 in
theorem c_postilref01_line {h : Heap} {w : World} (hs : Sub h w) {t : Text} {t_v0 : Value} (t_f0 : Sl LChapter h t_v0 t.chapters) {p : Place} : Calls Tryz.prog 108 #[.agg #[t_v0], .agg #[.int .i64 p.chapter, .int .i64 p.line, .int .i64 p.word]] w (Rets h w (fun h' _ res_ => ∃ u0, res_ = .tuple #[u0, .bool ((lineAt t p).isSome)] ∧ Sl LStr h' u0 ((lineAt t p).getD []))) := by
  refine W.calls (n := 40) (args := [.agg #[t_v0], .agg #[.int .i64 p.chapter, .int .i64 p.line, .int .i64 p.word]]) Tryz.func108 rfl rfl rfl ?_
  have st0 : St h w h w [] := St.start hs
  have t_f0_b := t_f0.le
  refine W.seq ?_
  refine W.region ?_
  refine OpsL.boxF st0 (cs := [t_v0]) rfl rfl rfl ?_
  intro b1 w2 h3 le4 hc5 st6
  refine OpsL.boxF st6 (cs := [.int .i64 (p.chapter), .int .i64 (p.line), .int .i64 (p.word)]) rfl rfl rfl ?_
  intro b7 w8 h9 le10 hc11 st12
  refine OpsL.val rfl rfl (r_asL rfl) ?_
  refine OpsL.val rfl rfl (r_asB rfl) ?_
  refine OpsL.nil ?_
  refine Then.norm ?_
  refine W.seq ?_
  refine W.seq ?_
  refine W.regionQ Tryz.mixed (by kernel_rfl) (Cls h9 _) (Cls.drew st12) ?_
  refine OpsQ.val rfl rfl (fun _ _ => (r_field_addr rfl Tryz.underlying52 rfl Tryz.sizeOf3 rfl)) ?_
  refine OpsQ.val rfl rfl (fun _ hC => (r_load_cells1 (j := 0) hC.sub hc11 rfl rfl rfl Tryz.isAgg3)) ?_
  refine OpsQ.val rfl rfl (fun _ _ => (r_field_addr rfl Tryz.underlying24 rfl Tryz.sizeOf22 rfl)) ?_
  refine OpsQ.val rfl rfl (fun _ hC => (r_load_cells1 (j := 0) hC.sub (hc5.up le10) rfl rfl rfl Tryz.isAgg22)) ?_
  refine OpsQ.val rfl rfl (fun _ _ => (r_len (t_f0.up (le4.trans le10)) rfl Tryz.underlying22)) ?_
  refine OpsQ.val rfl rfl (fun _ _ => (r_sub rfl rfl (by first | omega | (simp; omega)))) ?_
  refine OpsQ.calls rfl rfl (fun _ => run_call rfl Tryz.call84 rfl) (fun _ hC => Rets.quiet hC (c_postilref01_within hC.sub _ _ _)) ?_
  refine OpsQ.val rfl rfl (fun _ _ => (r_not rfl)) ?_
  refine OpsQ.val rfl rfl (fun _ _ => (r_mvB rfl)) ?_
  refine OpsQ.split (d := 14) rfl (fun g13 => ?_) (fun g13 => ?_)
  ·
    refine OpsQ.skipped rfl rfl (d := 14) rfl rfl rfl ?_
    refine OpsQ.skipped rfl rfl (d := 14) rfl rfl rfl ?_
    refine OpsQ.skipped rfl rfl (d := 14) rfl rfl rfl ?_
    refine OpsQ.skipped rfl rfl (d := 14) rfl rfl rfl ?_
    refine OpsQ.skipped rfl rfl (d := 14) rfl rfl rfl ?_
    refine OpsQ.skipped rfl rfl (d := 14) rfl rfl rfl ?_
    refine OpsQ.skipped rfl rfl (d := 14) rfl rfl rfl ?_
    refine OpsQ.skipped rfl rfl (d := 14) rfl rfl rfl ?_
    refine OpsQ.skipped rfl rfl (d := 14) rfl rfl rfl ?_
    refine OpsQ.skipped rfl rfl (d := 14) rfl rfl rfl ?_
    refine OpsQ.skipped rfl rfl (d := 14) rfl rfl rfl ?_
    refine OpsQ.skipped rfl rfl (d := 14) rfl rfl rfl ?_
    refine OpsQ.skipped rfl rfl (d := 14) rfl rfl rfl ?_
    refine OpsQ.val rfl rfl (fun _ _ => (r_pickT (v := (.bool _)) rfl rfl)) ?_
    refine OpsQ.nil ?_
    rintro w14 ⟨h15, s16⟩
    have st17 := st12.call0 s16
    refine Then.norm ?_
    refine W.cond rfl (fun c18 => ?_) (fun c18 => ?_)
    ·
      refine W.seq ?_
      refine W.region ?_
      refine OpsL.val rfl rfl (r_asL rfl) ?_
      refine OpsL.val rfl rfl (r_asB rfl) ?_
      refine OpsL.nil ?_
      refine Then.norm ?_
      refine W.ret ?_
      refine Then.ret ?_
      -- return r1
      refine Post.ret2 Tryz.results108 ?_
      refine ⟨h15, _, rfl, st17.done, ?_⟩
      refine ⟨_, tup2 rfl (bool_eq ?_), Sl.to (Sl.nil _ _) ?_⟩
      all_goals have q := g13
      all_goals simp [inB] at q
      · have q2 : lineAt t p = none := line_none1 (by omega)
        simp [q2]
      · have q2 : lineAt t p = none := line_none1 (by omega)
        simp [q2]
    ·
      cases c18
  ·
    refine OpsQ.guarded rfl rfl (d := 14) rfl ?_
    refine OpsQ.val rfl rfl (fun _ _ => (r_field_addr rfl Tryz.underlying52 rfl Tryz.sizeOf3 rfl)) ?_
    refine OpsQ.guarded rfl rfl (d := 14) rfl ?_
    refine OpsQ.val rfl rfl (fun _ hC => (r_load_cells1 (j := 1) hC.sub hc11 rfl rfl rfl Tryz.isAgg3)) ?_
    refine OpsQ.guarded rfl rfl (d := 14) rfl ?_
    refine OpsQ.val rfl rfl (fun _ _ => (r_field_addr rfl Tryz.underlying24 rfl Tryz.sizeOf22 rfl)) ?_
    refine OpsQ.guarded rfl rfl (d := 14) rfl ?_
    refine OpsQ.val rfl rfl (fun _ hC => (r_load_cells1 (j := 0) hC.sub (hc5.up le10) rfl rfl rfl Tryz.isAgg22)) ?_
    refine OpsQ.guarded rfl rfl (d := 14) rfl ?_
    refine OpsQ.val rfl rfl (fun _ _ => (r_field_addr rfl Tryz.underlying52 rfl Tryz.sizeOf3 rfl)) ?_
    refine OpsQ.guarded rfl rfl (d := 14) rfl ?_
    refine OpsQ.val rfl rfl (fun _ hC => (r_load_cells1 (j := 0) hC.sub hc11 rfl rfl rfl Tryz.isAgg3)) ?_
    refine OpsQ.guarded rfl rfl (d := 14) rfl ?_
    have q1 : 0 ≤ p.chapter ∧ p.chapter < t.chapters.length := by
      have q := g13
      simp [inB] at q
      omega
    have hc : ∃ y, (t.chapters)[p.chapter.toNat]? = some y := ⟨_, List.getElem?_eq_getElem (by omega)⟩
    obtain ⟨c, hc⟩ := hc
    obtain ⟨b19, o20, _, he22, hc21, hr_c⟩ := Sl.elem (t_f0.up (le4.trans le10)) hc
    obtain ⟨v23, rfl, f24⟩ := hr_c
    have f24_b := f24.le
    refine OpsQ.val rfl rfl (fun _ _ => (r_index_el he22 rfl rfl (hk := (show _ = ((p.chapter.toNat : Nat) : Int) by omega)) (hu := Tryz.underlying22) (hz := Tryz.sizeOf93))) ?_
    refine OpsQ.guarded rfl rfl (d := 14) rfl ?_
    refine OpsQ.val rfl rfl (fun _ _ => (r_field_addr rfl Tryz.underlying93 rfl Tryz.sizeOf91 rfl)) ?_
    refine OpsQ.guarded rfl rfl (d := 14) rfl ?_
    refine OpsQ.val rfl rfl (fun _ hC => (r_load_cells1 (j := 1) hC.sub hc21 rfl rfl rfl Tryz.isAgg91)) ?_
    refine OpsQ.guarded rfl rfl (d := 14) rfl ?_
    refine OpsQ.val rfl rfl (fun _ _ => (r_len f24 rfl Tryz.underlying91)) ?_
    refine OpsQ.guarded rfl rfl (d := 14) rfl ?_
    refine OpsQ.val rfl rfl (fun _ _ => (r_sub rfl rfl (by first | omega | (simp; omega)))) ?_
    refine OpsQ.guarded rfl rfl (d := 14) rfl ?_
    refine OpsQ.calls rfl rfl (fun _ => run_call rfl Tryz.call84 rfl) (fun _ hC => Rets.quiet hC (c_postilref01_within hC.sub _ _ _)) ?_
    refine OpsQ.guarded rfl rfl (d := 14) rfl ?_
    refine OpsQ.val rfl rfl (fun _ _ => (r_not rfl)) ?_
    refine OpsQ.val rfl rfl (fun _ _ => (r_pickF (v := (.bool _)) rfl rfl)) ?_
    refine OpsQ.nil ?_
    rintro w25 ⟨h26, s27⟩
    have st28 := st12.call0 s27
    refine Then.norm ?_
    refine W.cond rfl (fun c29 => ?_) (fun c29 => ?_)
    ·
      refine W.seq ?_
      refine W.region ?_
      refine OpsL.val rfl rfl (r_asL rfl) ?_
      refine OpsL.val rfl rfl (r_asB rfl) ?_
      refine OpsL.nil ?_
      refine Then.norm ?_
      refine W.ret ?_
      refine Then.ret ?_
      -- return r2
      refine Post.ret2 Tryz.results108 ?_
      refine ⟨h26, _, rfl, st28.done, ?_⟩
      refine ⟨_, tup2 rfl (bool_eq ?_), Sl.to (Sl.nil _ _) ?_⟩
      all_goals have q := c29
      all_goals simp [inB] at q
      · have q2 : lineAt t p = none := line_none2 hc (by omega)
        simp [q2]
      · have q2 : lineAt t p = none := line_none2 hc (by omega)
        simp [q2]
    ·
      refine W.skip ?_
      refine Then.norm ?_
      refine W.seq ?_
      have q2 : 0 ≤ p.line ∧ p.line < c.lines.length := by
        have q := c29
        simp [inB] at q
        omega
      refine W.regionQ Tryz.mixed (by kernel_rfl) (Cls h26 _) (Cls.drew st28) ?_
      refine OpsQ.val rfl rfl (fun _ _ => (r_field_addr rfl Tryz.underlying24 rfl Tryz.sizeOf22 rfl)) ?_
      refine OpsQ.val rfl rfl (fun _ hC => (r_load_cells1 (j := 0) hC.sub (hc5.up (le10.trans s27.le)) rfl rfl rfl Tryz.isAgg22)) ?_
      refine OpsQ.val rfl rfl (fun _ _ => (r_field_addr rfl Tryz.underlying52 rfl Tryz.sizeOf3 rfl)) ?_
      refine OpsQ.val rfl rfl (fun _ hC => (r_load_cells1 (j := 0) hC.sub (hc11.up s27.le) rfl rfl rfl Tryz.isAgg3)) ?_
      refine OpsQ.val rfl rfl (fun _ _ => (r_index_el he22 rfl rfl (hk := (show _ = ((p.chapter.toNat : Nat) : Int) by omega)) (hu := Tryz.underlying22) (hz := Tryz.sizeOf93))) ?_
      refine OpsQ.val rfl rfl (fun _ _ => (r_field_addr rfl Tryz.underlying93 rfl Tryz.sizeOf91 rfl)) ?_
      refine OpsQ.val rfl rfl (fun _ hC => (r_load_cells1 (j := 1) hC.sub (hc21.up s27.le) rfl rfl rfl Tryz.isAgg91)) ?_
      refine OpsQ.val rfl rfl (fun _ _ => (r_field_addr rfl Tryz.underlying52 rfl Tryz.sizeOf3 rfl)) ?_
      refine OpsQ.val rfl rfl (fun _ hC => (r_load_cells1 (j := 1) hC.sub (hc11.up s27.le) rfl rfl rfl Tryz.isAgg3)) ?_
      have hln : ∃ y, (c.lines)[p.line.toNat]? = some y := ⟨_, List.getElem?_eq_getElem (by omega)⟩
      obtain ⟨ln, hln⟩ := hln
      obtain ⟨b30, o31, _, he33, hc32, hr_ln⟩ := Sl.elem (f24.up s27.le) hln
      obtain ⟨v34, rfl, f35⟩ := hr_ln
      have f35_b := f35.le
      refine OpsQ.val rfl rfl (fun _ _ => (r_index_el he33 rfl rfl (hk := (show _ = ((p.line.toNat : Nat) : Int) by omega)) (hu := Tryz.underlying91) (hz := Tryz.sizeOf33))) ?_
      refine OpsQ.val rfl rfl (fun _ hC => (r_load_cells1 (j := 0) hC.sub hc32 rfl rfl rfl Tryz.isAgg33)) ?_
      refine OpsQ.val rfl rfl (fun _ _ => (r_assign (v := v34) rfl)) ?_
      refine OpsQ.val rfl rfl (fun _ _ => (r_asB rfl)) ?_
      refine OpsQ.nil ?_
      rintro w36 ⟨h37, s38⟩
      have st39 := st28.call0 s38
      refine Then.norm ?_
      refine W.ret ?_
      -- return r3
      refine Post.ret2 Tryz.results108 ?_
      refine ⟨h37, _, rfl, st39.done, ?_⟩
      refine ⟨_, tup2 rfl (bool_eq ?_), Sl.to (f35.up s38.le) ?_⟩
      · simp [line_some hc q1.1 hln q2.1]
      · simp [line_some hc q1.1 hln q2.1]
set_option maxRecDepth 4000 in
theorem c_postilref01_Place {h : Heap} {w : World} (hs : Sub h w) {t : Text} {t_v0 : Value} (t_f0 : Sl LChapter h t_v0 t.chapters) {p : Place} : Calls Tryz.prog 72 #[.agg #[t_v0], .agg #[.int .i64 p.chapter, .int .i64 p.line, .int .i64 p.word]] w (Rets h w (fun _ _ res_ => res_ = .bool (placeB t p))) := by
  refine W.calls (n := 22) (args := [.agg #[t_v0], .agg #[.int .i64 p.chapter, .int .i64 p.line, .int .i64 p.word]]) Tryz.func72 rfl rfl rfl ?_
  have st0 : St h w h w [] := St.start hs
  have t_f0_b := t_f0.le
  refine W.seq ?_
  refine W.region ?_
  refine OpsL.boxF st0 (cs := [t_v0]) rfl rfl rfl ?_
  intro b1 w2 h3 le4 hc5 st6
  refine OpsL.boxF st6 (cs := [.int .i64 (p.chapter), .int .i64 (p.line), .int .i64 (p.word)]) rfl rfl rfl ?_
  intro b7 w8 h9 le10 hc11 st12
  refine OpsL.val rfl rfl (r_asB rfl) ?_
  refine OpsL.nil ?_
  refine Then.norm ?_
  refine W.seq ?_
  refine W.region ?_
  refine OpsL.val rfl rfl (r_load_call st12.sub (hc5.up le10) rfl Tryz.isAgg24 Tryz.sizeOf24 rfl) ?_
  refine OpsL.val rfl rfl (r_load_call st12.sub hc11 rfl Tryz.isAgg52 Tryz.sizeOf52 rfl) ?_
  refine OpsL.callF st12 rfl rfl rfl Tryz.call108 rfl (c_postilref01_line st12.sub (t := t) (t_f0.up (le4.trans le10)) (p := p)) ?_
  intro r13 w14 h15 le16 st17 q18
  obtain ⟨v19, rfl, f20⟩ := q18
  have f20_b := f20.le
  refine OpsL.val rfl rfl (r_mvT rfl) ?_
  refine OpsL.val rfl rfl (r_extract (v := v19) rfl rfl) ?_
  refine OpsL.val rfl rfl (r_extract (v := (.bool _)) rfl rfl) ?_
  refine OpsL.val rfl rfl (r_assign (v := v19) rfl) ?_
  refine OpsL.val rfl rfl (r_asB rfl) ?_
  refine OpsL.nil ?_
  refine Then.norm ?_
  refine W.seq ?_
  refine W.region ?_
  refine OpsL.val rfl rfl (r_mvB rfl) ?_
  refine OpsL.val rfl rfl (r_mvB rfl) ?_
  refine OpsL.split (d := 14) rfl (fun g21 => ?_) (fun g21 => ?_)
  ·
    refine OpsL.guarded rfl rfl (d := 14) rfl ?_
    refine OpsL.val rfl rfl (r_field_addr rfl Tryz.underlying52 rfl Tryz.sizeOf3 rfl) ?_
    refine OpsL.guarded rfl rfl (d := 14) rfl ?_
    refine OpsL.val rfl rfl (r_load_cells1 (j := 2) st17.sub (hc11.up le16) rfl rfl rfl Tryz.isAgg3) ?_
    refine OpsL.guarded rfl rfl (d := 14) rfl ?_
    refine OpsL.val rfl rfl (r_move (v := v19) rfl) ?_
    refine OpsL.guarded rfl rfl (d := 14) rfl ?_
    refine OpsL.val rfl rfl (r_len f20 rfl Tryz.underlying33) ?_
    refine OpsL.guarded rfl rfl (d := 14) rfl ?_
    refine OpsL.val rfl rfl (r_sub rfl rfl (by first | omega | (simp; omega))) ?_
    refine OpsL.guarded rfl rfl (d := 14) rfl ?_
    refine OpsL.callF st17 rfl rfl rfl Tryz.call84 rfl (c_postilref01_within st17.sub _ _ _) ?_
    intro r22 w23 h24 le25 st26 q27
    obtain rfl := q27
    refine OpsL.val rfl rfl (r_pickT (v := (.bool _)) rfl rfl) ?_
    refine OpsL.val rfl rfl (r_asB rfl) ?_
    refine OpsL.nil ?_
    refine Then.norm ?_
    refine W.ret ?_
    -- return r1
    refine Post.ret1 Tryz.results72 ?_
    refine ⟨h24, _, rfl, st26.done, ?_⟩
    refine bool_eq ?_
    simp_all [place_eq]
  ·
    refine OpsL.skipped rfl rfl (d := 14) rfl rfl rfl ?_
    refine OpsL.skipped rfl rfl (d := 14) rfl rfl rfl ?_
    refine OpsL.skipped rfl rfl (d := 14) rfl rfl rfl ?_
    refine OpsL.skipped rfl rfl (d := 14) rfl rfl rfl ?_
    refine OpsL.skipped rfl rfl (d := 14) rfl rfl rfl ?_
    refine OpsL.skipped rfl rfl (d := 14) rfl rfl rfl ?_
    refine OpsL.val rfl rfl (r_pickF (v := (.bool _)) rfl rfl) ?_
    refine OpsL.val rfl rfl (r_asB rfl) ?_
    refine OpsL.nil ?_
    refine Then.norm ?_
    refine W.ret ?_
    -- return r2
    refine Post.ret1 Tryz.results72 ?_
    refine ⟨h15, _, rfl, st17.done, ?_⟩
    refine bool_eq ?_
    simp_all [place_eq]
set_option maxRecDepth 4000 in
theorem c_postilref04_Decision {h : Heap} {w : World} (hs : Sub h w) {t : Text} {t_v0 : Value} (t_f0 : Sl LChapter h t_v0 t.chapters) {d : Decision} (d_l2 : 0 ≤ d.kind ∧ d.kind ≤ 255) (d_l3 : d.form.length ≤ 281474976710656) (d_l7 : d.to.stem.length ≤ 281474976710656) (d_l8 : 0 ≤ d.to.mark ∧ d.to.mark ≤ 255) : Calls Tryz.prog 103 #[.agg #[t_v0], .agg #[.int .i64 d.number, .int .u8 d.kind, strV d.form, .int .i64 d.at_.chapter, .int .i64 d.at_.line, .int .i64 d.at_.word, strV d.to.stem, .int .u8 d.to.mark, .int .i64 d.of_]] w (Rets h w (fun _ _ res_ => res_ = .bool (decisionB t d))) := by
  refine W.calls (n := 102) (args := [.agg #[t_v0], .agg #[.int .i64 d.number, .int .u8 d.kind, strV d.form, .int .i64 d.at_.chapter, .int .i64 d.at_.line, .int .i64 d.at_.word, strV d.to.stem, .int .u8 d.to.mark, .int .i64 d.of_]]) Tryz.func103 rfl rfl rfl ?_
  have st0 : St h w h w [] := St.start hs
  have t_f0_b := t_f0.le
  refine W.seq ?_
  refine W.region ?_
  refine OpsL.boxF st0 (cs := [t_v0]) rfl rfl rfl ?_
  intro b1 w2 h3 le4 hc5 st6
  refine OpsL.boxF st6 (cs := [.int .i64 (d.number), .int .u8 (d.kind), strV (d.form), .int .i64 (d.at_.chapter), .int .i64 (d.at_.line), .int .i64 (d.at_.word), strV (d.to.stem), .int .u8 (d.to.mark), .int .i64 (d.of_)]) rfl rfl rfl ?_
  intro b7 w8 h9 le10 hc11 st12
  refine OpsL.val rfl rfl (r_asB rfl) ?_
  refine OpsL.nil ?_
  refine Then.norm ?_
  refine W.seq ?_
  refine W.seq ?_
  refine W.region ?_
  refine OpsL.val rfl rfl (r_field_addr rfl Tryz.underlying56 rfl Tryz.sizeOf3 rfl) ?_
  refine OpsL.val rfl rfl (r_load_cells1 (j := 0) st12.sub hc11 rfl rfl rfl Tryz.isAgg3) ?_
  refine OpsL.callF st12 rfl rfl rfl Tryz.call115 rfl (c_postilref04_within st12.sub _ _ _) ?_
  intro r13 w14 h15 le16 st17 q18
  obtain rfl := q18
  refine OpsL.val rfl rfl (r_not rfl) ?_
  refine OpsL.nil ?_
  refine Then.norm ?_
  refine W.cond rfl (fun c19 => ?_) (fun c19 => ?_)
  ·
    refine W.seq ?_
    refine W.region ?_
    refine OpsL.val rfl rfl (r_asB rfl) ?_
    refine OpsL.nil ?_
    refine Then.norm ?_
    refine W.ret ?_
    refine Then.ret ?_
    -- return r1
    refine Post.ret1 Tryz.results103 ?_
    refine ⟨h15, _, rfl, st17.done, ?_⟩
    refine bool_eq ?_
    simp_all [decisionB]
  ·
    have qn : 1 ≤ d.number ∧ d.number ≤ 999 := by
      have q := c19
      simp [inB] at q
      omega
    refine W.skip ?_
    refine Then.norm ?_
    refine W.seq ?_
    refine W.region ?_
    refine OpsL.val rfl rfl (r_build (cs := [.int .i64 0, .int .i64 0, .int .i64 0]) (by kernel_rfl)) ?_
    refine OpsL.val rfl rfl (r_build (cs := [strV [], .int .u8 0]) (by kernel_rfl)) ?_
    refine OpsL.val rfl rfl (r_load_call st17.sub (hc5.up (le10.trans le16)) rfl Tryz.isAgg24 Tryz.sizeOf24 rfl) ?_
    refine OpsL.val rfl rfl (r_field_addr rfl Tryz.underlying56 rfl Tryz.sizeOf52 rfl) ?_
    refine OpsL.val rfl rfl (r_load_cellsN (j := 3) st17.sub (hc11.up le16) (us := [.int .i64 (d.at_.chapter), .int .i64 (d.at_.line), .int .i64 (d.at_.word)]) rfl rfl Tryz.isAgg52 Tryz.sizeOf52 rfl rfl) ?_
    refine OpsL.callF st17 rfl rfl rfl Tryz.call72 rfl (c_postilref01_Place st17.sub (t := t) (t_f0.up ((le4.trans le10).trans le16)) (p := d.at_)) ?_
    intro r20 w21 h22 le23 st24 q25
    obtain rfl := q25
    refine OpsL.allocO st24 Tryz.zeroValue52 rfl rfl ?_
    intro b26 w27 st28
    refine OpsL.allocO st28 Tryz.zeroValue54 rfl rfl ?_
    intro b29 w30 st31
    refine OpsL.storeN st31 (k := 0) rfl rfl rfl (one_cons rfl (one_cons rfl (one_cons rfl one_nil))) Tryz.sizeOf52 rfl rfl rfl ?_
    intro w32 st33
    obtain ⟨h34, le35, hb36, st38⟩ := st33.freeze (k := 0) rfl
    have hc37 := Cells.of hb36
    refine OpsL.storeN st38 (k := 1) rfl rfl rfl (one_cons rfl (one_cons rfl one_nil)) Tryz.sizeOf54 rfl rfl rfl ?_
    intro w39 st40
    obtain ⟨h41, le42, hb43, st45⟩ := st40.freeze (k := 1) rfl
    have hc44 := Cells.of hb43
    refine OpsL.val rfl rfl (r_asB rfl) ?_
    refine OpsL.nil ?_
    refine Then.norm ?_
    refine W.seq ?_
    refine W.seq ?_
    refine W.region ?_
    refine OpsL.val rfl rfl (r_field_addr rfl Tryz.underlying56 rfl Tryz.sizeOf5 rfl) ?_
    refine OpsL.val rfl rfl (r_load_cells1 (j := 1) st45.sub (hc11.up (((le16.trans le23).trans le35).trans le42)) rfl rfl rfl Tryz.isAgg5) ?_
    refine OpsL.nil ?_
    refine Then.norm ?_
    refine W.block ?_
    refine W.seq ?_
    refine W.region ?_
    refine OpsL.val rfl rfl (r_eql rfl rfl) ?_
    refine OpsL.val rfl rfl (r_asB rfl) ?_
    refine OpsL.nil ?_
    refine Then.norm ?_
    refine W.cond rfl (fun c46 => ?_) (fun c46 => ?_)
    ·
      replace c46 := of_decide_eq_true c46
      refine W.seq ?_
      refine W.region ?_
      refine OpsL.val rfl rfl (r_field_addr rfl Tryz.underlying56 rfl Tryz.sizeOf9 rfl) ?_
      refine OpsL.val rfl rfl (r_load_cells1 (j := 2) st45.sub (hc11.up (((le16.trans le23).trans le35).trans le42)) rfl rfl rfl Tryz.isAgg9) ?_
      refine OpsL.callF st45 rfl rfl rfl Tryz.call43 rfl (c_postilref01_Word st45.sub _ (by first | assumption | (simp [big]; done) | (simp [big]; omega) | omega)) ?_
      intro r47 w48 h49 le50 st51 q52
      obtain rfl := q52
      refine OpsL.val rfl rfl (r_mvB rfl) ?_
      refine OpsL.split (d := 25) rfl (fun g53 => ?_) (fun g53 => ?_)
      ·
        refine OpsL.guarded rfl rfl (d := 25) rfl ?_
        refine OpsL.val rfl rfl (r_field_addr rfl Tryz.underlying56 rfl Tryz.sizeOf52 rfl) ?_
        refine OpsL.guarded rfl rfl (d := 25) rfl ?_
        refine OpsL.val rfl rfl (r_load_cellsN (j := 3) st51.sub (hc11.up ((((le16.trans le23).trans le35).trans le42).trans le50)) (us := [.int .i64 (d.at_.chapter), .int .i64 (d.at_.line), .int .i64 (d.at_.word)]) rfl rfl Tryz.isAgg52 Tryz.sizeOf52 rfl rfl) ?_
        refine OpsL.guarded rfl rfl (d := 25) rfl ?_
        refine OpsL.val rfl rfl (r_load_call st51.sub (hc37.up (le42.trans le50)) rfl Tryz.isAgg52 Tryz.sizeOf52 rfl) ?_
        refine OpsL.guarded rfl rfl (d := 25) rfl ?_
        refine OpsL.val rfl rfl (r_steql rfl rfl Tryz.eqGuardType52 (Tryz.eq_Place d.at_ zPlace)) ?_
        refine OpsL.val rfl rfl (r_pickT (v := (.bool _)) rfl rfl) ?_
        refine OpsL.val rfl rfl (r_mvB rfl) ?_
        refine OpsL.split (d := 31) rfl (fun g54 => ?_) (fun g54 => ?_)
        ·
          replace g54 := of_decide_eq_true g54
          refine OpsL.guarded rfl rfl (d := 31) rfl ?_
          refine OpsL.val rfl rfl (r_field_addr rfl Tryz.underlying56 rfl Tryz.sizeOf54 rfl) ?_
          refine OpsL.guarded rfl rfl (d := 31) rfl ?_
          refine OpsL.val rfl rfl (r_load_cellsN (j := 6) st51.sub (hc11.up ((((le16.trans le23).trans le35).trans le42).trans le50)) (us := [strV (d.to.stem), .int .u8 (d.to.mark)]) rfl rfl Tryz.isAgg54 Tryz.sizeOf54 rfl rfl) ?_
          refine OpsL.guarded rfl rfl (d := 31) rfl ?_
          refine OpsL.callF st51 rfl rfl rfl Tryz.call80 rfl (c_postilref04_Head st51.sub (hd := d.to) (by first | assumption | (simp [big]; done) | (simp [big]; omega) | omega) (by first | assumption | decide | omega)) ?_
          intro r55 w56 h57 le58 st59 q60
          obtain rfl := q60
          refine OpsL.val rfl rfl (r_pickT (v := (.bool _)) rfl rfl) ?_
          refine OpsL.val rfl rfl (r_mvB rfl) ?_
          refine OpsL.split (d := 36) rfl (fun g61 => ?_) (fun g61 => ?_)
          ·
            refine OpsL.guarded rfl rfl (d := 36) rfl ?_
            refine OpsL.val rfl rfl (r_field_addr rfl Tryz.underlying56 rfl Tryz.sizeOf3 rfl) ?_
            refine OpsL.guarded rfl rfl (d := 36) rfl ?_
            refine OpsL.val rfl rfl (r_load_cells1 (j := 8) st59.sub (hc11.up (((((le16.trans le23).trans le35).trans le42).trans le50).trans le58)) rfl rfl rfl Tryz.isAgg3) ?_
            refine OpsL.guarded rfl rfl (d := 36) rfl ?_
            refine OpsL.val rfl rfl (r_eql rfl rfl) ?_
            refine OpsL.val rfl rfl (r_pickT (v := (.bool _)) rfl rfl) ?_
            refine OpsL.val rfl rfl (r_asB rfl) ?_
            refine OpsL.nil ?_
            refine Then.norm ?_
            refine W.ret ?_
            refine Blk.ret ?_
            refine Then.ret ?_
            -- return r2
            refine Post.ret1 Tryz.results103 ?_
            refine ⟨h57, _, rfl, st59.done, ?_⟩
            refine bool_eq ?_
            simp_all [decisionB]
          ·
            refine OpsL.skipped rfl rfl (d := 36) rfl rfl rfl ?_
            refine OpsL.skipped rfl rfl (d := 36) rfl rfl rfl ?_
            refine OpsL.skipped rfl rfl (d := 36) rfl rfl rfl ?_
            refine OpsL.val rfl rfl (r_pickF (v := (.bool _)) rfl rfl) ?_
            refine OpsL.val rfl rfl (r_asB rfl) ?_
            refine OpsL.nil ?_
            refine Then.norm ?_
            refine W.ret ?_
            refine Blk.ret ?_
            refine Then.ret ?_
            -- return r3
            refine Post.ret1 Tryz.results103 ?_
            refine ⟨h57, _, rfl, st59.done, ?_⟩
            refine bool_eq ?_
            simp_all [decisionB]
        ·
          replace g54 := of_decide_eq_false g54
          refine OpsL.skipped rfl rfl (d := 31) rfl rfl rfl ?_
          refine OpsL.skipped rfl rfl (d := 31) rfl rfl rfl ?_
          refine OpsL.skipped rfl rfl (d := 31) rfl rfl rfl ?_
          refine OpsL.val rfl rfl (r_pickF (v := (.bool _)) rfl rfl) ?_
          refine OpsL.val rfl rfl (r_mvB rfl) ?_
          refine OpsL.skipped rfl rfl (d := 36) rfl rfl rfl ?_
          refine OpsL.skipped rfl rfl (d := 36) rfl rfl rfl ?_
          refine OpsL.skipped rfl rfl (d := 36) rfl rfl rfl ?_
          refine OpsL.val rfl rfl (r_pickF (v := (.bool _)) rfl rfl) ?_
          refine OpsL.val rfl rfl (r_asB rfl) ?_
          refine OpsL.nil ?_
          refine Then.norm ?_
          refine W.ret ?_
          refine Blk.ret ?_
          refine Then.ret ?_
          -- return r4
          refine Post.ret1 Tryz.results103 ?_
          refine ⟨h49, _, rfl, st51.done, ?_⟩
          refine bool_eq ?_
          simp_all [decisionB]
      ·
        refine OpsL.skipped rfl rfl (d := 25) rfl rfl rfl ?_
        refine OpsL.skipped rfl rfl (d := 25) rfl rfl rfl ?_
        refine OpsL.skipped rfl rfl (d := 25) rfl rfl rfl ?_
        refine OpsL.skipped rfl rfl (d := 25) rfl rfl rfl ?_
        refine OpsL.val rfl rfl (r_pickF (v := (.bool _)) rfl rfl) ?_
        refine OpsL.val rfl rfl (r_mvB rfl) ?_
        refine OpsL.skipped rfl rfl (d := 31) rfl rfl rfl ?_
        refine OpsL.skipped rfl rfl (d := 31) rfl rfl rfl ?_
        refine OpsL.skipped rfl rfl (d := 31) rfl rfl rfl ?_
        refine OpsL.val rfl rfl (r_pickF (v := (.bool _)) rfl rfl) ?_
        refine OpsL.val rfl rfl (r_mvB rfl) ?_
        refine OpsL.skipped rfl rfl (d := 36) rfl rfl rfl ?_
        refine OpsL.skipped rfl rfl (d := 36) rfl rfl rfl ?_
        refine OpsL.skipped rfl rfl (d := 36) rfl rfl rfl ?_
        refine OpsL.val rfl rfl (r_pickF (v := (.bool _)) rfl rfl) ?_
        refine OpsL.val rfl rfl (r_asB rfl) ?_
        refine OpsL.nil ?_
        refine Then.norm ?_
        refine W.ret ?_
        refine Blk.ret ?_
        refine Then.ret ?_
        -- return r5
        refine Post.ret1 Tryz.results103 ?_
        refine ⟨h49, _, rfl, st51.done, ?_⟩
        refine bool_eq ?_
        simp_all [decisionB]
    ·
      replace c46 := of_decide_eq_false c46
      refine W.seq ?_
      refine W.region ?_
      refine OpsL.val rfl rfl (r_eql rfl rfl) ?_
      refine OpsL.val rfl rfl (r_asB rfl) ?_
      refine OpsL.nil ?_
      refine Then.norm ?_
      refine W.cond rfl (fun c62 => ?_) (fun c62 => ?_)
      ·
        replace c62 := of_decide_eq_true c62
        refine W.seq ?_
        refine W.region ?_
        refine OpsL.val rfl rfl (r_field_addr rfl Tryz.underlying56 rfl Tryz.sizeOf9 rfl) ?_
        refine OpsL.val rfl rfl (r_load_cells1 (j := 2) st45.sub (hc11.up (((le16.trans le23).trans le35).trans le42)) rfl rfl rfl Tryz.isAgg9) ?_
        refine OpsL.callF st45 rfl rfl rfl Tryz.call43 rfl (c_postilref01_Word st45.sub _ (by first | assumption | (simp [big]; done) | (simp [big]; omega) | omega)) ?_
        intro r63 w64 h65 le66 st67 q68
        obtain rfl := q68
        refine OpsL.val rfl rfl (r_mvB rfl) ?_
        refine OpsL.split (d := 46) rfl (fun g69 => ?_) (fun g69 => ?_)
        ·
          refine OpsL.guarded rfl rfl (d := 46) rfl ?_
          refine OpsL.val rfl rfl (r_mvB rfl) ?_
          refine OpsL.val rfl rfl (r_pickT (v := (.bool _)) rfl rfl) ?_
          refine OpsL.val rfl rfl (r_mvB rfl) ?_
          refine OpsL.split (d := 49) rfl (fun g70 => ?_) (fun g70 => ?_)
          ·
            refine OpsL.guarded rfl rfl (d := 49) rfl ?_
            refine OpsL.val rfl rfl (r_field_addr rfl Tryz.underlying56 rfl Tryz.sizeOf54 rfl) ?_
            refine OpsL.guarded rfl rfl (d := 49) rfl ?_
            refine OpsL.val rfl rfl (r_load_cellsN (j := 6) st67.sub (hc11.up ((((le16.trans le23).trans le35).trans le42).trans le66)) (us := [strV (d.to.stem), .int .u8 (d.to.mark)]) rfl rfl Tryz.isAgg54 Tryz.sizeOf54 rfl rfl) ?_
            refine OpsL.guarded rfl rfl (d := 49) rfl ?_
            refine OpsL.callF st67 rfl rfl rfl Tryz.call80 rfl (c_postilref04_Head st67.sub (hd := d.to) (by first | assumption | (simp [big]; done) | (simp [big]; omega) | omega) (by first | assumption | decide | omega)) ?_
            intro r71 w72 h73 le74 st75 q76
            obtain rfl := q76
            refine OpsL.val rfl rfl (r_pickT (v := (.bool _)) rfl rfl) ?_
            refine OpsL.val rfl rfl (r_mvB rfl) ?_
            refine OpsL.split (d := 54) rfl (fun g77 => ?_) (fun g77 => ?_)
            ·
              refine OpsL.guarded rfl rfl (d := 54) rfl ?_
              refine OpsL.val rfl rfl (r_field_addr rfl Tryz.underlying56 rfl Tryz.sizeOf3 rfl) ?_
              refine OpsL.guarded rfl rfl (d := 54) rfl ?_
              refine OpsL.val rfl rfl (r_load_cells1 (j := 8) st75.sub (hc11.up (((((le16.trans le23).trans le35).trans le42).trans le66).trans le74)) rfl rfl rfl Tryz.isAgg3) ?_
              refine OpsL.guarded rfl rfl (d := 54) rfl ?_
              refine OpsL.val rfl rfl (r_eql rfl rfl) ?_
              refine OpsL.val rfl rfl (r_pickT (v := (.bool _)) rfl rfl) ?_
              refine OpsL.val rfl rfl (r_asB rfl) ?_
              refine OpsL.nil ?_
              refine Then.norm ?_
              refine W.ret ?_
              refine Blk.ret ?_
              refine Then.ret ?_
              -- return r6
              refine Post.ret1 Tryz.results103 ?_
              refine ⟨h73, _, rfl, st75.done, ?_⟩
              refine bool_eq ?_
              simp_all [decisionB]
            ·
              refine OpsL.skipped rfl rfl (d := 54) rfl rfl rfl ?_
              refine OpsL.skipped rfl rfl (d := 54) rfl rfl rfl ?_
              refine OpsL.skipped rfl rfl (d := 54) rfl rfl rfl ?_
              refine OpsL.val rfl rfl (r_pickF (v := (.bool _)) rfl rfl) ?_
              refine OpsL.val rfl rfl (r_asB rfl) ?_
              refine OpsL.nil ?_
              refine Then.norm ?_
              refine W.ret ?_
              refine Blk.ret ?_
              refine Then.ret ?_
              -- return r7
              refine Post.ret1 Tryz.results103 ?_
              refine ⟨h73, _, rfl, st75.done, ?_⟩
              refine bool_eq ?_
              simp_all [decisionB]
          ·
            refine OpsL.skipped rfl rfl (d := 49) rfl rfl rfl ?_
            refine OpsL.skipped rfl rfl (d := 49) rfl rfl rfl ?_
            refine OpsL.skipped rfl rfl (d := 49) rfl rfl rfl ?_
            refine OpsL.val rfl rfl (r_pickF (v := (.bool _)) rfl rfl) ?_
            refine OpsL.val rfl rfl (r_mvB rfl) ?_
            refine OpsL.skipped rfl rfl (d := 54) rfl rfl rfl ?_
            refine OpsL.skipped rfl rfl (d := 54) rfl rfl rfl ?_
            refine OpsL.skipped rfl rfl (d := 54) rfl rfl rfl ?_
            refine OpsL.val rfl rfl (r_pickF (v := (.bool _)) rfl rfl) ?_
            refine OpsL.val rfl rfl (r_asB rfl) ?_
            refine OpsL.nil ?_
            refine Then.norm ?_
            refine W.ret ?_
            refine Blk.ret ?_
            refine Then.ret ?_
            -- return r8
            refine Post.ret1 Tryz.results103 ?_
            refine ⟨h65, _, rfl, st67.done, ?_⟩
            refine bool_eq ?_
            simp_all [decisionB]
        ·
          refine OpsL.skipped rfl rfl (d := 46) rfl rfl rfl ?_
          refine OpsL.val rfl rfl (r_pickF (v := (.bool _)) rfl rfl) ?_
          refine OpsL.val rfl rfl (r_mvB rfl) ?_
          refine OpsL.skipped rfl rfl (d := 49) rfl rfl rfl ?_
          refine OpsL.skipped rfl rfl (d := 49) rfl rfl rfl ?_
          refine OpsL.skipped rfl rfl (d := 49) rfl rfl rfl ?_
          refine OpsL.val rfl rfl (r_pickF (v := (.bool _)) rfl rfl) ?_
          refine OpsL.val rfl rfl (r_mvB rfl) ?_
          refine OpsL.skipped rfl rfl (d := 54) rfl rfl rfl ?_
          refine OpsL.skipped rfl rfl (d := 54) rfl rfl rfl ?_
          refine OpsL.skipped rfl rfl (d := 54) rfl rfl rfl ?_
          refine OpsL.val rfl rfl (r_pickF (v := (.bool _)) rfl rfl) ?_
          refine OpsL.val rfl rfl (r_asB rfl) ?_
          refine OpsL.nil ?_
          refine Then.norm ?_
          refine W.ret ?_
          refine Blk.ret ?_
          refine Then.ret ?_
          -- return r9
          refine Post.ret1 Tryz.results103 ?_
          refine ⟨h65, _, rfl, st67.done, ?_⟩
          refine bool_eq ?_
          simp_all [decisionB]
      ·
        replace c62 := of_decide_eq_false c62
        refine W.seq ?_
        refine W.region ?_
        refine OpsL.val rfl rfl (r_eql rfl rfl) ?_
        refine OpsL.val rfl rfl (r_asB rfl) ?_
        refine OpsL.nil ?_
        refine Then.norm ?_
        refine W.cond rfl (fun c78 => ?_) (fun c78 => ?_)
        ·
          replace c78 := of_decide_eq_true c78
          refine W.seq ?_
          refine W.region ?_
          refine OpsL.val rfl rfl (r_field_addr rfl Tryz.underlying56 rfl Tryz.sizeOf9 rfl) ?_
          refine OpsL.val rfl rfl (r_load_cells1 (j := 2) st45.sub (hc11.up (((le16.trans le23).trans le35).trans le42)) rfl rfl rfl Tryz.isAgg9) ?_
          refine OpsL.val rfl rfl (r_seql rfl rfl) ?_
          refine OpsL.val rfl rfl (r_mvB rfl) ?_
          refine OpsL.split (d := 64) rfl (fun g79 => ?_) (fun g79 => ?_)
          ·
            replace g79 := of_decide_eq_true g79
            refine OpsL.guarded rfl rfl (d := 64) rfl ?_
            refine OpsL.val rfl rfl (r_mvB rfl) ?_
            refine OpsL.val rfl rfl (r_pickT (v := (.bool _)) rfl rfl) ?_
            refine OpsL.val rfl rfl (r_mvB rfl) ?_
            refine OpsL.split (d := 67) rfl (fun g80 => ?_) (fun g80 => ?_)
            ·
              refine OpsL.guarded rfl rfl (d := 67) rfl ?_
              refine OpsL.val rfl rfl (r_field_addr rfl Tryz.underlying56 rfl Tryz.sizeOf54 rfl) ?_
              refine OpsL.guarded rfl rfl (d := 67) rfl ?_
              refine OpsL.val rfl rfl (r_load_cellsN (j := 6) st45.sub (hc11.up (((le16.trans le23).trans le35).trans le42)) (us := [strV (d.to.stem), .int .u8 (d.to.mark)]) rfl rfl Tryz.isAgg54 Tryz.sizeOf54 rfl rfl) ?_
              refine OpsL.guarded rfl rfl (d := 67) rfl ?_
              refine OpsL.callF st45 rfl rfl rfl Tryz.call80 rfl (c_postilref04_Head st45.sub (hd := d.to) (by first | assumption | (simp [big]; done) | (simp [big]; omega) | omega) (by first | assumption | decide | omega)) ?_
              intro r81 w82 h83 le84 st85 q86
              obtain rfl := q86
              refine OpsL.val rfl rfl (r_pickT (v := (.bool _)) rfl rfl) ?_
              refine OpsL.val rfl rfl (r_mvB rfl) ?_
              refine OpsL.split (d := 72) rfl (fun g87 => ?_) (fun g87 => ?_)
              ·
                refine OpsL.guarded rfl rfl (d := 72) rfl ?_
                refine OpsL.val rfl rfl (r_field_addr rfl Tryz.underlying56 rfl Tryz.sizeOf3 rfl) ?_
                refine OpsL.guarded rfl rfl (d := 72) rfl ?_
                refine OpsL.val rfl rfl (r_load_cells1 (j := 8) st85.sub (hc11.up ((((le16.trans le23).trans le35).trans le42).trans le84)) rfl rfl rfl Tryz.isAgg3) ?_
                refine OpsL.guarded rfl rfl (d := 72) rfl ?_
                refine OpsL.val rfl rfl (r_eql rfl rfl) ?_
                refine OpsL.val rfl rfl (r_pickT (v := (.bool _)) rfl rfl) ?_
                refine OpsL.val rfl rfl (r_asB rfl) ?_
                refine OpsL.nil ?_
                refine Then.norm ?_
                refine W.ret ?_
                refine Blk.ret ?_
                refine Then.ret ?_
                -- return r10
                refine Post.ret1 Tryz.results103 ?_
                refine ⟨h83, _, rfl, st85.done, ?_⟩
                refine bool_eq ?_
                simp_all [decisionB]
              ·
                refine OpsL.skipped rfl rfl (d := 72) rfl rfl rfl ?_
                refine OpsL.skipped rfl rfl (d := 72) rfl rfl rfl ?_
                refine OpsL.skipped rfl rfl (d := 72) rfl rfl rfl ?_
                refine OpsL.val rfl rfl (r_pickF (v := (.bool _)) rfl rfl) ?_
                refine OpsL.val rfl rfl (r_asB rfl) ?_
                refine OpsL.nil ?_
                refine Then.norm ?_
                refine W.ret ?_
                refine Blk.ret ?_
                refine Then.ret ?_
                -- return r11
                refine Post.ret1 Tryz.results103 ?_
                refine ⟨h83, _, rfl, st85.done, ?_⟩
                refine bool_eq ?_
                simp_all [decisionB]
            ·
              refine OpsL.skipped rfl rfl (d := 67) rfl rfl rfl ?_
              refine OpsL.skipped rfl rfl (d := 67) rfl rfl rfl ?_
              refine OpsL.skipped rfl rfl (d := 67) rfl rfl rfl ?_
              refine OpsL.val rfl rfl (r_pickF (v := (.bool _)) rfl rfl) ?_
              refine OpsL.val rfl rfl (r_mvB rfl) ?_
              refine OpsL.skipped rfl rfl (d := 72) rfl rfl rfl ?_
              refine OpsL.skipped rfl rfl (d := 72) rfl rfl rfl ?_
              refine OpsL.skipped rfl rfl (d := 72) rfl rfl rfl ?_
              refine OpsL.val rfl rfl (r_pickF (v := (.bool _)) rfl rfl) ?_
              refine OpsL.val rfl rfl (r_asB rfl) ?_
              refine OpsL.nil ?_
              refine Then.norm ?_
              refine W.ret ?_
              refine Blk.ret ?_
              refine Then.ret ?_
              -- return r12
              refine Post.ret1 Tryz.results103 ?_
              refine ⟨h41, _, rfl, st45.done, ?_⟩
              refine bool_eq ?_
              simp_all [decisionB]
          ·
            replace g79 := of_decide_eq_false g79
            refine OpsL.skipped rfl rfl (d := 64) rfl rfl rfl ?_
            refine OpsL.val rfl rfl (r_pickF (v := (.bool _)) rfl rfl) ?_
            refine OpsL.val rfl rfl (r_mvB rfl) ?_
            refine OpsL.skipped rfl rfl (d := 67) rfl rfl rfl ?_
            refine OpsL.skipped rfl rfl (d := 67) rfl rfl rfl ?_
            refine OpsL.skipped rfl rfl (d := 67) rfl rfl rfl ?_
            refine OpsL.val rfl rfl (r_pickF (v := (.bool _)) rfl rfl) ?_
            refine OpsL.val rfl rfl (r_mvB rfl) ?_
            refine OpsL.skipped rfl rfl (d := 72) rfl rfl rfl ?_
            refine OpsL.skipped rfl rfl (d := 72) rfl rfl rfl ?_
            refine OpsL.skipped rfl rfl (d := 72) rfl rfl rfl ?_
            refine OpsL.val rfl rfl (r_pickF (v := (.bool _)) rfl rfl) ?_
            refine OpsL.val rfl rfl (r_asB rfl) ?_
            refine OpsL.nil ?_
            refine Then.norm ?_
            refine W.ret ?_
            refine Blk.ret ?_
            refine Then.ret ?_
            -- return r13
            refine Post.ret1 Tryz.results103 ?_
            refine ⟨h41, _, rfl, st45.done, ?_⟩
            refine bool_eq ?_
            simp_all [decisionB]
        ·
          replace c78 := of_decide_eq_false c78
          refine W.seq ?_
          refine W.region ?_
          refine OpsL.val rfl rfl (r_eql rfl rfl) ?_
          refine OpsL.val rfl rfl (r_asB rfl) ?_
          refine OpsL.nil ?_
          refine Then.norm ?_
          refine W.cond rfl (fun c88 => ?_) (fun c88 => ?_)
          ·
            replace c88 := of_decide_eq_true c88
            refine W.seq ?_
            refine W.region ?_
            refine OpsL.val rfl rfl (r_field_addr rfl Tryz.underlying56 rfl Tryz.sizeOf9 rfl) ?_
            refine OpsL.val rfl rfl (r_load_cells1 (j := 2) st45.sub (hc11.up (((le16.trans le23).trans le35).trans le42)) rfl rfl rfl Tryz.isAgg9) ?_
            refine OpsL.val rfl rfl (r_seql rfl rfl) ?_
            refine OpsL.val rfl rfl (r_mvB rfl) ?_
            refine OpsL.split (d := 82) rfl (fun g89 => ?_) (fun g89 => ?_)
            ·
              replace g89 := of_decide_eq_true g89
              refine OpsL.guarded rfl rfl (d := 82) rfl ?_
              refine OpsL.val rfl rfl (r_field_addr rfl Tryz.underlying56 rfl Tryz.sizeOf52 rfl) ?_
              refine OpsL.guarded rfl rfl (d := 82) rfl ?_
              refine OpsL.val rfl rfl (r_load_cellsN (j := 3) st45.sub (hc11.up (((le16.trans le23).trans le35).trans le42)) (us := [.int .i64 (d.at_.chapter), .int .i64 (d.at_.line), .int .i64 (d.at_.word)]) rfl rfl Tryz.isAgg52 Tryz.sizeOf52 rfl rfl) ?_
              refine OpsL.guarded rfl rfl (d := 82) rfl ?_
              refine OpsL.val rfl rfl (r_load_call st45.sub (hc37.up le42) rfl Tryz.isAgg52 Tryz.sizeOf52 rfl) ?_
              refine OpsL.guarded rfl rfl (d := 82) rfl ?_
              refine OpsL.val rfl rfl (r_steql rfl rfl Tryz.eqGuardType52 (Tryz.eq_Place d.at_ zPlace)) ?_
              refine OpsL.val rfl rfl (r_pickT (v := (.bool _)) rfl rfl) ?_
              refine OpsL.val rfl rfl (r_mvB rfl) ?_
              refine OpsL.split (d := 88) rfl (fun g90 => ?_) (fun g90 => ?_)
              ·
                replace g90 := of_decide_eq_true g90
                refine OpsL.guarded rfl rfl (d := 88) rfl ?_
                refine OpsL.val rfl rfl (r_field_addr rfl Tryz.underlying56 rfl Tryz.sizeOf54 rfl) ?_
                refine OpsL.guarded rfl rfl (d := 88) rfl ?_
                refine OpsL.val rfl rfl (r_load_cellsN (j := 6) st45.sub (hc11.up (((le16.trans le23).trans le35).trans le42)) (us := [strV (d.to.stem), .int .u8 (d.to.mark)]) rfl rfl Tryz.isAgg54 Tryz.sizeOf54 rfl rfl) ?_
                refine OpsL.guarded rfl rfl (d := 88) rfl ?_
                refine OpsL.val rfl rfl (r_load_call st45.sub hc44 rfl Tryz.isAgg54 Tryz.sizeOf54 rfl) ?_
                refine OpsL.guarded rfl rfl (d := 88) rfl ?_
                refine OpsL.val rfl rfl (r_steql rfl rfl Tryz.eqGuardType54 (Tryz.eq_Head d.to zHead)) ?_
                refine OpsL.val rfl rfl (r_pickT (v := (.bool _)) rfl rfl) ?_
                refine OpsL.val rfl rfl (r_mvB rfl) ?_
                refine OpsL.split (d := 94) rfl (fun g91 => ?_) (fun g91 => ?_)
                ·
                  replace g91 := of_decide_eq_true g91
                  refine OpsL.guarded rfl rfl (d := 94) rfl ?_
                  refine OpsL.val rfl rfl (r_field_addr rfl Tryz.underlying56 rfl Tryz.sizeOf3 rfl) ?_
                  refine OpsL.guarded rfl rfl (d := 94) rfl ?_
                  refine OpsL.val rfl rfl (r_load_cells1 (j := 8) st45.sub (hc11.up (((le16.trans le23).trans le35).trans le42)) rfl rfl rfl Tryz.isAgg3) ?_
                  refine OpsL.guarded rfl rfl (d := 94) rfl ?_
                  refine OpsL.val rfl rfl (r_field_addr rfl Tryz.underlying56 rfl Tryz.sizeOf3 rfl) ?_
                  refine OpsL.guarded rfl rfl (d := 94) rfl ?_
                  refine OpsL.val rfl rfl (r_load_cells1 (j := 0) st45.sub (hc11.up (((le16.trans le23).trans le35).trans le42)) rfl rfl rfl Tryz.isAgg3) ?_
                  refine OpsL.guarded rfl rfl (d := 94) rfl ?_
                  refine OpsL.val rfl rfl (r_sub rfl rfl (by first | omega | (simp; omega))) ?_
                  refine OpsL.guarded rfl rfl (d := 94) rfl ?_
                  refine OpsL.callF st45 rfl rfl rfl Tryz.call115 rfl (c_postilref04_within st45.sub _ _ _) ?_
                  intro r92 w93 h94 le95 st96 q97
                  obtain rfl := q97
                  refine OpsL.val rfl rfl (r_pickT (v := (.bool _)) rfl rfl) ?_
                  refine OpsL.val rfl rfl (r_asB rfl) ?_
                  refine OpsL.nil ?_
                  refine Then.norm ?_
                  refine W.ret ?_
                  refine Blk.ret ?_
                  refine Then.ret ?_
                  -- return r14
                  refine Post.ret1 Tryz.results103 ?_
                  refine ⟨h94, _, rfl, st96.done, ?_⟩
                  refine bool_eq ?_
                  simp_all [decisionB]
                ·
                  replace g91 := of_decide_eq_false g91
                  refine OpsL.skipped rfl rfl (d := 94) rfl rfl rfl ?_
                  refine OpsL.skipped rfl rfl (d := 94) rfl rfl rfl ?_
                  refine OpsL.skipped rfl rfl (d := 94) rfl rfl rfl ?_
                  refine OpsL.skipped rfl rfl (d := 94) rfl rfl rfl ?_
                  refine OpsL.skipped rfl rfl (d := 94) rfl rfl rfl ?_
                  refine OpsL.skipped rfl rfl (d := 94) rfl rfl rfl ?_
                  refine OpsL.val rfl rfl (r_pickF (v := (.bool _)) rfl rfl) ?_
                  refine OpsL.val rfl rfl (r_asB rfl) ?_
                  refine OpsL.nil ?_
                  refine Then.norm ?_
                  refine W.ret ?_
                  refine Blk.ret ?_
                  refine Then.ret ?_
                  -- return r15
                  refine Post.ret1 Tryz.results103 ?_
                  refine ⟨h41, _, rfl, st45.done, ?_⟩
                  refine bool_eq ?_
                  simp_all [decisionB]
              ·
                replace g90 := of_decide_eq_false g90
                refine OpsL.skipped rfl rfl (d := 88) rfl rfl rfl ?_
                refine OpsL.skipped rfl rfl (d := 88) rfl rfl rfl ?_
                refine OpsL.skipped rfl rfl (d := 88) rfl rfl rfl ?_
                refine OpsL.skipped rfl rfl (d := 88) rfl rfl rfl ?_
                refine OpsL.val rfl rfl (r_pickF (v := (.bool _)) rfl rfl) ?_
                refine OpsL.val rfl rfl (r_mvB rfl) ?_
                refine OpsL.skipped rfl rfl (d := 94) rfl rfl rfl ?_
                refine OpsL.skipped rfl rfl (d := 94) rfl rfl rfl ?_
                refine OpsL.skipped rfl rfl (d := 94) rfl rfl rfl ?_
                refine OpsL.skipped rfl rfl (d := 94) rfl rfl rfl ?_
                refine OpsL.skipped rfl rfl (d := 94) rfl rfl rfl ?_
                refine OpsL.skipped rfl rfl (d := 94) rfl rfl rfl ?_
                refine OpsL.val rfl rfl (r_pickF (v := (.bool _)) rfl rfl) ?_
                refine OpsL.val rfl rfl (r_asB rfl) ?_
                refine OpsL.nil ?_
                refine Then.norm ?_
                refine W.ret ?_
                refine Blk.ret ?_
                refine Then.ret ?_
                -- return r16
                refine Post.ret1 Tryz.results103 ?_
                refine ⟨h41, _, rfl, st45.done, ?_⟩
                refine bool_eq ?_
                simp_all [decisionB]
            ·
              replace g89 := of_decide_eq_false g89
              refine OpsL.skipped rfl rfl (d := 82) rfl rfl rfl ?_
              refine OpsL.skipped rfl rfl (d := 82) rfl rfl rfl ?_
              refine OpsL.skipped rfl rfl (d := 82) rfl rfl rfl ?_
              refine OpsL.skipped rfl rfl (d := 82) rfl rfl rfl ?_
              refine OpsL.val rfl rfl (r_pickF (v := (.bool _)) rfl rfl) ?_
              refine OpsL.val rfl rfl (r_mvB rfl) ?_
              refine OpsL.skipped rfl rfl (d := 88) rfl rfl rfl ?_
              refine OpsL.skipped rfl rfl (d := 88) rfl rfl rfl ?_
              refine OpsL.skipped rfl rfl (d := 88) rfl rfl rfl ?_
              refine OpsL.skipped rfl rfl (d := 88) rfl rfl rfl ?_
              refine OpsL.val rfl rfl (r_pickF (v := (.bool _)) rfl rfl) ?_
              refine OpsL.val rfl rfl (r_mvB rfl) ?_
              refine OpsL.skipped rfl rfl (d := 94) rfl rfl rfl ?_
              refine OpsL.skipped rfl rfl (d := 94) rfl rfl rfl ?_
              refine OpsL.skipped rfl rfl (d := 94) rfl rfl rfl ?_
              refine OpsL.skipped rfl rfl (d := 94) rfl rfl rfl ?_
              refine OpsL.skipped rfl rfl (d := 94) rfl rfl rfl ?_
              refine OpsL.skipped rfl rfl (d := 94) rfl rfl rfl ?_
              refine OpsL.val rfl rfl (r_pickF (v := (.bool _)) rfl rfl) ?_
              refine OpsL.val rfl rfl (r_asB rfl) ?_
              refine OpsL.nil ?_
              refine Then.norm ?_
              refine W.ret ?_
              refine Blk.ret ?_
              refine Then.ret ?_
              -- return r17
              refine Post.ret1 Tryz.results103 ?_
              refine ⟨h41, _, rfl, st45.done, ?_⟩
              refine bool_eq ?_
              simp_all [decisionB]
          ·
            replace c88 := of_decide_eq_false c88
            refine W.skip ?_
            refine Blk.norm ?_
            refine Then.norm ?_
            refine W.seq ?_
            refine W.region ?_
            refine OpsL.val rfl rfl (r_asB rfl) ?_
            refine OpsL.nil ?_
            refine Then.norm ?_
            refine W.ret ?_
            -- return r18
            refine Post.ret1 Tryz.results103 ?_
            refine ⟨h41, _, rfl, st45.done, ?_⟩
            refine bool_eq ?_
            simp_all [decisionB]
set_option maxRecDepth 4000 in
theorem c_postilref04_Lexicon {h : Heap} {w : World} (hs : Sub h w) {t : Text} {t_v0 : Value} (t_f0 : Sl LChapter h t_v0 t.chapters) {x : Lexicon} {x_v0 : Value} (x_f0 : Sl LRule h x_v0 x.rules) {x_v1 : Value} (x_f1 : Sl LDecision h x_v1 x.decisions) : Calls Tryz.prog 55 #[.agg #[t_v0], .agg #[x_v0, x_v1]] w (Rets h w (fun _ _ res_ => res_ = .bool (lexiconB t x))) := by
  refine W.calls (n := 65) (args := [.agg #[t_v0], .agg #[x_v0, x_v1]]) Tryz.func55 rfl rfl rfl ?_
  have st0 : St h w h w [] := St.start hs
  have t_f0_b := t_f0.le
  have x_f0_b := x_f0.le
  have x_f1_b := x_f1.le
  refine W.seq ?_
  refine W.region ?_
  refine OpsL.boxF st0 (cs := [t_v0]) rfl rfl rfl ?_
  intro b1 w2 h3 le4 hc5 st6
  refine OpsL.boxF st6 (cs := [x_v0, x_v1]) rfl rfl rfl ?_
  intro b7 w8 h9 le10 hc11 st12
  refine OpsL.val rfl rfl (r_asB rfl) ?_
  refine OpsL.nil ?_
  refine Then.norm ?_
  refine W.seq ?_
  refine W.seq ?_
  refine W.region ?_
  refine OpsL.val rfl rfl (r_field_addr rfl Tryz.underlying28 rfl Tryz.sizeOf25 rfl) ?_
  refine OpsL.val rfl rfl (r_load_cells1 (j := 0) st12.sub hc11 rfl rfl rfl Tryz.isAgg25) ?_
  refine OpsL.val rfl rfl (r_len (x_f0.up (le4.trans le10)) rfl Tryz.underlying25) ?_
  refine OpsL.val rfl rfl (r_gtr rfl rfl) ?_
  refine OpsL.val rfl rfl (r_mvB rfl) ?_
  refine OpsL.split (d := 12) rfl (fun g13 => ?_) (fun g13 => ?_)
  ·
    replace g13 := of_decide_eq_true g13
    refine OpsL.skipped rfl rfl (d := 12) rfl rfl rfl ?_
    refine OpsL.skipped rfl rfl (d := 12) rfl rfl rfl ?_
    refine OpsL.skipped rfl rfl (d := 12) rfl rfl rfl ?_
    refine OpsL.skipped rfl rfl (d := 12) rfl rfl rfl ?_
    refine OpsL.val rfl rfl (r_pickT (v := (.bool _)) rfl rfl) ?_
    refine OpsL.nil ?_
    refine Then.norm ?_
    refine W.cond rfl (fun c14 => ?_) (fun c14 => ?_)
    ·
      refine W.seq ?_
      refine W.region ?_
      refine OpsL.val rfl rfl (r_asB rfl) ?_
      refine OpsL.nil ?_
      refine Then.norm ?_
      refine W.ret ?_
      refine Then.ret ?_
      -- return r1
      refine Post.ret1 Tryz.results55 ?_
      refine ⟨h9, _, rfl, st12.done, ?_⟩
      refine bool_eq ?_
      have q := g13
      simp [lexiconB]
      intros
      omega
    ·
      cases c14
  ·
    replace g13 := of_decide_eq_false g13
    refine OpsL.guarded rfl rfl (d := 12) rfl ?_
    refine OpsL.val rfl rfl (r_field_addr rfl Tryz.underlying28 rfl Tryz.sizeOf26 rfl) ?_
    refine OpsL.guarded rfl rfl (d := 12) rfl ?_
    refine OpsL.val rfl rfl (r_load_cells1 (j := 1) st12.sub hc11 rfl rfl rfl Tryz.isAgg26) ?_
    refine OpsL.guarded rfl rfl (d := 12) rfl ?_
    refine OpsL.val rfl rfl (r_len (x_f1.up (le4.trans le10)) rfl Tryz.underlying26) ?_
    refine OpsL.guarded rfl rfl (d := 12) rfl ?_
    refine OpsL.val rfl rfl (r_gtr rfl rfl) ?_
    refine OpsL.val rfl rfl (r_pickF (v := (.bool _)) rfl rfl) ?_
    refine OpsL.nil ?_
    refine Then.norm ?_
    refine W.cond rfl (fun c15 => ?_) (fun c15 => ?_)
    ·
      replace c15 := of_decide_eq_true c15
      refine W.seq ?_
      refine W.region ?_
      refine OpsL.val rfl rfl (r_asB rfl) ?_
      refine OpsL.nil ?_
      refine Then.norm ?_
      refine W.ret ?_
      refine Then.ret ?_
      -- return r2
      refine Post.ret1 Tryz.results55 ?_
      refine ⟨h9, _, rfl, st12.done, ?_⟩
      refine bool_eq ?_
      have q := c15
      simp [lexiconB]
      intros
      omega
    ·
      replace c15 := of_decide_eq_false c15
      refine W.skip ?_
      refine Then.norm ?_
      refine W.seq ?_
      refine W.seq ?_
      refine W.region ?_
      refine OpsL.val rfl rfl (r_asI rfl) ?_
      refine OpsL.nil ?_
      refine Then.norm ?_
      refine W.block ?_
      refine W.loopI [4, 5, 18, 19, 20, 21, 22, 23, 24, 25, 26, 27, 28, 29, 30, 31] (G := Nat × Heap) (fun ⟨i, h16⟩ => [(5, .int .i64 (i : Int))]) (fun ⟨i, h16⟩ w' => Le h9 h16 ∧ St h w h16 w' [] ∧ (i ≤ x.rules.length) ∧ ((x.rules.take i).all ruleB = true)) (fun ⟨i, h16⟩ => x.rules.length - i) ⟨0, h9⟩ ⟨rfl, trivial⟩ ⟨Le.refl _, st12, (by first | omega | simp | trivial), (by first | omega | simp | trivial)⟩ ?_
      rintro ⟨i, h16⟩ _ w19 ⟨le17, st18, hi, hR⟩
      refine W.seq ?_
      refine W.seq ?_
      refine W.region ?_
      refine OpsL.val rfl rfl (r_mvI rfl) ?_
      refine OpsL.val rfl rfl (r_field_addr rfl Tryz.underlying28 rfl Tryz.sizeOf25 rfl) ?_
      refine OpsL.val rfl rfl (r_load_cells1 (j := 0) st18.sub (hc11.up le17) rfl rfl rfl Tryz.isAgg25) ?_
      refine OpsL.val rfl rfl (r_len (x_f0.up ((le4.trans le10).trans le17)) rfl Tryz.underlying25) ?_
      refine OpsL.val rfl rfl (r_lss rfl rfl) ?_
      refine OpsL.nil ?_
      refine Then.norm ?_
      refine W.cond rfl (fun c20 => ?_) (fun c20 => ?_)
      ·
        replace c20 := of_decide_eq_true c20
        refine W.skip ?_
        refine Then.norm ?_
        refine W.seq ?_
        refine W.block ?_
        refine W.seq ?_
        refine W.region ?_
        refine OpsL.val rfl rfl (r_field_addr rfl Tryz.underlying28 rfl Tryz.sizeOf25 rfl) ?_
        refine OpsL.val rfl rfl (r_load_cells1 (j := 0) st18.sub (hc11.up le17) rfl rfl rfl Tryz.isAgg25) ?_
        refine OpsL.val rfl rfl (r_mvI rfl) ?_
        have hr : ∃ y, (x.rules)[i]? = some y := ⟨_, List.getElem?_eq_getElem (by omega)⟩
        obtain ⟨r, hr⟩ := hr
        obtain ⟨b21, o22, _, he24, hc23, hr_r⟩ := Sl.elem (x_f0.up ((le4.trans le10).trans le17)) hr
        obtain ⟨rfl, ls25, ls26⟩ := hr_r
        simp only [big] at ls25
        simp only [big] at ls26
        refine OpsL.val rfl rfl (r_index_el he24 rfl rfl (hk := rfl) (hu := Tryz.underlying25) (hz := Tryz.sizeOf70)) ?_
        refine OpsL.val rfl rfl (r_load_call st18.sub hc23 rfl Tryz.isAgg70 Tryz.sizeOf70 rfl) ?_
        refine OpsL.callF st18 rfl rfl rfl Tryz.call102 rfl (c_postilref04_Rule st18.sub (r := r) (by first | assumption | (simp [big]; done) | (simp [big]; omega) | omega) (by first | assumption | (simp [big]; done) | (simp [big]; omega) | omega)) ?_
        intro r27 w28 h29 le30 st31 q32
        obtain rfl := q32
        refine OpsL.val rfl rfl (r_not rfl) ?_
        refine OpsL.nil ?_
        refine Then.norm ?_
        refine W.cond rfl (fun c33 => ?_) (fun c33 => ?_)
        ·
          refine W.seq ?_
          refine W.region ?_
          refine OpsL.val rfl rfl (r_asB rfl) ?_
          refine OpsL.nil ?_
          refine Then.norm ?_
          refine W.ret ?_
          refine Blk.ret ?_
          refine Then.ret ?_
          refine Then.ret ?_
          refine Blk.ret ?_
          refine Then.ret ?_
          -- return r3
          refine Post.ret1 Tryz.results55 ?_
          refine ⟨h29, _, rfl, st31.done, ?_⟩
          refine bool_eq ?_
          have q := not_all (p := ruleB) hr (by simpa using c33)
          simp [lexiconB, q]
        ·
          refine W.skip ?_
          refine Blk.norm ?_
          refine Then.norm ?_
          refine W.region ?_
          refine OpsL.val rfl rfl (r_mvI rfl) ?_
          refine OpsL.val rfl rfl (r_add rfl rfl (by first | omega | (simp; omega))) ?_
          refine OpsL.val rfl rfl (r_asI rfl) ?_
          refine OpsL.nil ?_
          refine Then.norm ?_
          refine ⟨⟨i + 1, h29⟩, ⟨rfl, trivial⟩, ?_, ⟨(le17.trans le30), st31, ?_, ?_⟩, ?_⟩
          · repeat (first | exact Agree.mix _ _ _ | exact Agree.refl _ _ | refine Agree.updO rfl ?_ | refine Agree.upd rfl ?_ | refine Agree.known rfl ?_ | refine Agree.sub rfl ?_)
          · first | omega | (simp; omega)
          · exact all_take_succ hR hr (by simpa using c33)
          · show x.rules.length - ((i + 1)) < x.rules.length - i
            omega
      ·
        replace c20 := of_decide_eq_false c20
        refine W.exit ?_
        refine Then.exit ?_
        refine Then.exit ?_
        refine Blk.hit ?_
        refine Then.norm ?_
        refine W.seq ?_
        refine W.seq ?_
        refine W.region ?_
        refine OpsL.val rfl rfl (r_asI rfl) ?_
        refine OpsL.nil ?_
        refine Then.norm ?_
        refine W.block ?_
        refine W.loopI [4, 6, 7, 32, 33, 34, 35, 36, 37, 38, 39, 40, 41, 42, 43, 44, 45, 46, 47, 48, 49, 50, 51, 52, 53, 54, 55, 56, 57, 58, 59, 60, 61, 62, 63, 64] (G := Nat × Heap) (fun ⟨i, h34⟩ => [(6, .int .i64 (i : Int))]) (fun ⟨i, h34⟩ w' => Le h16 h34 ∧ St h w h34 w' [] ∧ (i ≤ x.decisions.length) ∧ ((x.decisions.take i).all (decisionB t) = true) ∧ (((x.decisions.take i).map (·.number)).Nodup)) (fun ⟨i, h34⟩ => x.decisions.length - i) ⟨0, h16⟩ ⟨rfl, trivial⟩ ⟨Le.refl _, st18, (by first | omega | simp | trivial), (by first | omega | simp | trivial), (by first | omega | simp | trivial)⟩ ?_
        rintro ⟨i, h34⟩ _ w37 ⟨le35, st36, hi, hD, hN⟩
        refine W.seq ?_
        refine W.seq ?_
        refine W.region ?_
        refine OpsL.val rfl rfl (r_mvI rfl) ?_
        refine OpsL.val rfl rfl (r_field_addr rfl Tryz.underlying28 rfl Tryz.sizeOf26 rfl) ?_
        refine OpsL.val rfl rfl (r_load_cells1 (j := 1) st36.sub (hc11.up (le17.trans le35)) rfl rfl rfl Tryz.isAgg26) ?_
        refine OpsL.val rfl rfl (r_len (x_f1.up (((le4.trans le10).trans le17).trans le35)) rfl Tryz.underlying26) ?_
        refine OpsL.val rfl rfl (r_lss rfl rfl) ?_
        refine OpsL.nil ?_
        refine Then.norm ?_
        refine W.cond rfl (fun c38 => ?_) (fun c38 => ?_)
        ·
          replace c38 := of_decide_eq_true c38
          refine W.skip ?_
          refine Then.norm ?_
          refine W.seq ?_
          refine W.block ?_
          refine W.seq ?_
          refine W.seq ?_
          refine W.regionQ Tryz.mixed (by kernel_rfl) (Cls h34 _) (Cls.drew st36) ?_
          refine OpsQ.val rfl rfl (fun _ hC => (r_load_call hC.sub (hc5.up ((le10.trans le17).trans le35)) rfl Tryz.isAgg24 Tryz.sizeOf24 rfl)) ?_
          refine OpsQ.val rfl rfl (fun _ _ => (r_field_addr rfl Tryz.underlying28 rfl Tryz.sizeOf26 rfl)) ?_
          refine OpsQ.val rfl rfl (fun _ hC => (r_load_cells1 (j := 1) hC.sub (hc11.up (le17.trans le35)) rfl rfl rfl Tryz.isAgg26)) ?_
          refine OpsQ.val rfl rfl (fun _ _ => (r_mvI rfl)) ?_
          have hd : ∃ y, (x.decisions)[i]? = some y := ⟨_, List.getElem?_eq_getElem (by omega)⟩
          obtain ⟨d, hd⟩ := hd
          obtain ⟨b39, o40, _, he42, hc41, hr_d⟩ := Sl.elem (x_f1.up (((le4.trans le10).trans le17).trans le35)) hd
          obtain ⟨rfl, lu43, ls44, ls45, lu46⟩ := hr_d
          simp only [big] at ls44
          simp only [big] at ls45
          refine OpsQ.val rfl rfl (fun _ _ => (r_index_el he42 rfl rfl (hk := rfl) (hu := Tryz.underlying26) (hz := Tryz.sizeOf56))) ?_
          refine OpsQ.val rfl rfl (fun _ hC => (r_load_call hC.sub hc41 rfl Tryz.isAgg56 Tryz.sizeOf56 rfl)) ?_
          refine OpsQ.calls rfl rfl (fun _ => run_call rfl Tryz.call103 rfl) (fun _ hC => Rets.quiet hC (c_postilref04_Decision hC.sub (t := t) (t_f0.up (((le4.trans le10).trans le17).trans le35)) (d := d) (by first | assumption | decide | omega) (by first | assumption | (simp [big]; done) | (simp [big]; omega) | omega) (by first | assumption | (simp [big]; done) | (simp [big]; omega) | omega) (by first | assumption | decide | omega))) ?_
          refine OpsQ.val rfl rfl (fun _ _ => (r_not rfl)) ?_
          refine OpsQ.nil ?_
          rintro w47 ⟨h48, s49⟩
          have st50 := st36.call0 s49
          refine Then.norm ?_
          refine W.cond rfl (fun c51 => ?_) (fun c51 => ?_)
          ·
            refine W.seq ?_
            refine W.region ?_
            refine OpsL.val rfl rfl (r_asB rfl) ?_
            refine OpsL.nil ?_
            refine Then.norm ?_
            refine W.ret ?_
            refine Then.ret ?_
            refine Blk.ret ?_
            refine Then.ret ?_
            refine Then.ret ?_
            refine Blk.ret ?_
            refine Then.ret ?_
            -- return r4
            refine Post.ret1 Tryz.results55 ?_
            refine ⟨h48, _, rfl, st50.done, ?_⟩
            refine bool_eq ?_
            have q := not_all (p := decisionB t) hd (by simpa using c51)
            simp [lexiconB, q]
          ·
            refine W.skip ?_
            refine Then.norm ?_
            refine W.seq ?_
            refine W.region ?_
            refine OpsL.val rfl rfl (r_asI rfl) ?_
            refine OpsL.nil ?_
            refine Then.norm ?_
            refine W.block ?_
            refine W.loopI [4, 7, 47, 48, 49, 50, 51, 52, 53, 54, 55, 56, 57, 58, 59, 60, 61, 62, 63, 64] (G := Nat × Heap) (fun ⟨k, h52⟩ => [(7, .int .i64 (k : Int))]) (fun ⟨k, h52⟩ w' => Le h48 h52 ∧ St h w h52 w' [] ∧ (k ≤ i) ∧ (∀ j c2, j < k → x.decisions[j]? = some c2 → c2.number ≠ d.number)) (fun ⟨k, h52⟩ => i - k) ⟨0, h48⟩ ⟨rfl, trivial⟩ ⟨Le.refl _, st50, (by first | omega | simp | trivial), (by intro j _ hj; omega)⟩ ?_
            rintro ⟨k, h52⟩ _ w55 ⟨le53, st54, hk, hq⟩
            refine W.seq ?_
            refine W.seq ?_
            refine W.region ?_
            refine OpsL.val rfl rfl (r_mvI rfl) ?_
            refine OpsL.val rfl rfl (r_mvI rfl) ?_
            refine OpsL.val rfl rfl (r_lss rfl rfl) ?_
            refine OpsL.nil ?_
            refine Then.norm ?_
            refine W.cond rfl (fun c56 => ?_) (fun c56 => ?_)
            ·
              replace c56 := of_decide_eq_true c56
              refine W.skip ?_
              refine Then.norm ?_
              refine W.seq ?_
              refine W.block ?_
              refine W.seq ?_
              refine W.regionQ Tryz.mixed (by kernel_rfl) (Cls h52 _) (Cls.drew st54) ?_
              refine OpsQ.val rfl rfl (fun _ _ => (r_field_addr rfl Tryz.underlying28 rfl Tryz.sizeOf26 rfl)) ?_
              refine OpsQ.val rfl rfl (fun _ hC => (r_load_cells1 (j := 1) hC.sub (hc11.up (((le17.trans le35).trans s49.le).trans le53)) rfl rfl rfl Tryz.isAgg26)) ?_
              refine OpsQ.val rfl rfl (fun _ _ => (r_mvI rfl)) ?_
              have he : ∃ y, (x.decisions)[k]? = some y := ⟨_, List.getElem?_eq_getElem (by omega)⟩
              obtain ⟨e, he⟩ := he
              obtain ⟨b57, o58, _, he60, hc59, hr_e⟩ := Sl.elem (x_f1.up (((((le4.trans le10).trans le17).trans le35).trans s49.le).trans le53)) he
              obtain ⟨rfl, lu61, ls62, ls63, lu64⟩ := hr_e
              simp only [big] at ls62
              simp only [big] at ls63
              refine OpsQ.val rfl rfl (fun _ _ => (r_index_el he60 rfl rfl (hk := rfl) (hu := Tryz.underlying26) (hz := Tryz.sizeOf56))) ?_
              refine OpsQ.val rfl rfl (fun _ _ => (r_field_addr rfl Tryz.underlying56 rfl Tryz.sizeOf3 rfl)) ?_
              refine OpsQ.val rfl rfl (fun _ hC => (r_load_cells1 (j := 0) hC.sub hc59 rfl rfl rfl Tryz.isAgg3)) ?_
              refine OpsQ.val rfl rfl (fun _ _ => (r_field_addr rfl Tryz.underlying28 rfl Tryz.sizeOf26 rfl)) ?_
              refine OpsQ.val rfl rfl (fun _ hC => (r_load_cells1 (j := 1) hC.sub (hc11.up (((le17.trans le35).trans s49.le).trans le53)) rfl rfl rfl Tryz.isAgg26)) ?_
              refine OpsQ.val rfl rfl (fun _ _ => (r_mvI rfl)) ?_
              refine OpsQ.val rfl rfl (fun _ _ => (r_index_el he42 rfl rfl (hk := rfl) (hu := Tryz.underlying26) (hz := Tryz.sizeOf56))) ?_
              refine OpsQ.val rfl rfl (fun _ _ => (r_field_addr rfl Tryz.underlying56 rfl Tryz.sizeOf3 rfl)) ?_
              refine OpsQ.val rfl rfl (fun _ hC => (r_load_cells1 (j := 0) hC.sub (hc41.up (s49.le.trans le53)) rfl rfl rfl Tryz.isAgg3)) ?_
              refine OpsQ.val rfl rfl (fun _ _ => (r_eql rfl rfl)) ?_
              refine OpsQ.nil ?_
              rintro w65 ⟨h66, s67⟩
              have st68 := st54.call0 s67
              refine Then.norm ?_
              refine W.cond rfl (fun c69 => ?_) (fun c69 => ?_)
              ·
                replace c69 := of_decide_eq_true c69
                refine W.seq ?_
                refine W.region ?_
                refine OpsL.val rfl rfl (r_asB rfl) ?_
                refine OpsL.nil ?_
                refine Then.norm ?_
                refine W.ret ?_
                refine Blk.ret ?_
                refine Then.ret ?_
                refine Then.ret ?_
                refine Blk.ret ?_
                refine Blk.ret ?_
                refine Then.ret ?_
                refine Then.ret ?_
                refine Blk.ret ?_
                refine Then.ret ?_
                -- return r5
                refine Post.ret1 Tryz.results55 ?_
                refine ⟨h66, _, rfl, st68.done, ?_⟩
                refine bool_eq ?_
                have q := not_nodup (f := (·.number)) he hd (by omega) (by assumption)
                simp [lexiconB, q]
              ·
                replace c69 := of_decide_eq_false c69
                refine W.skip ?_
                refine Blk.norm ?_
                refine Then.norm ?_
                refine W.region ?_
                refine OpsL.val rfl rfl (r_mvI rfl) ?_
                refine OpsL.val rfl rfl (r_add rfl rfl (by first | omega | (simp; omega))) ?_
                refine OpsL.val rfl rfl (r_asI rfl) ?_
                refine OpsL.nil ?_
                refine Then.norm ?_
                refine ⟨⟨k + 1, h66⟩, ⟨rfl, trivial⟩, ?_, ⟨(le53.trans s67.le), st68, ?_, ?_⟩, ?_⟩
                · repeat (first | exact Agree.mix _ _ _ | exact Agree.refl _ _ | refine Agree.updO rfl ?_ | refine Agree.upd rfl ?_ | refine Agree.known rfl ?_ | refine Agree.sub rfl ?_)
                · first | omega | (simp; omega)
                · intro j c2 h1 h2
                  rcases Nat.lt_or_ge j k with h3 | h3
                  · exact hq j c2 h3 h2
                  · obtain rfl : j = k := by omega
                    rw [h2] at he; cases he; assumption
                · show i - ((k + 1)) < i - k
                  omega
            ·
              replace c56 := of_decide_eq_false c56
              refine W.exit ?_
              refine Then.exit ?_
              refine Then.exit ?_
              refine Blk.hit ?_
              refine Blk.norm ?_
              refine Then.norm ?_
              refine W.region ?_
              refine OpsL.val rfl rfl (r_mvI rfl) ?_
              refine OpsL.val rfl rfl (r_add rfl rfl (by first | omega | (simp; omega))) ?_
              refine OpsL.val rfl rfl (r_asI rfl) ?_
              refine OpsL.nil ?_
              refine Then.norm ?_
              have HD : decisionB t d = true := by simpa using c51
              refine ⟨⟨i + 1, h52⟩, ⟨rfl, trivial⟩, ?_, ⟨((le35.trans s49.le).trans le53), st54, ?_, ?_, ?_⟩, ?_⟩
              · repeat (first | exact Agree.mix _ _ _ | exact Agree.refl _ _ | refine Agree.updO rfl ?_ | refine Agree.upd rfl ?_ | refine Agree.known rfl ?_ | refine Agree.sub rfl ?_)
              · first | omega | (simp; omega)
              · exact all_take_succ hD hd HD
              · exact nodup_take_succ hN hd (by omega) (fun j c2 h1 h2 => hq j c2 (by omega) h2)
              · show x.decisions.length - ((i + 1)) < x.decisions.length - i
                omega
        ·
          replace c38 := of_decide_eq_false c38
          refine W.exit ?_
          refine Then.exit ?_
          refine Then.exit ?_
          refine Blk.hit ?_
          refine Then.norm ?_
          refine W.seq ?_
          refine W.region ?_
          refine OpsL.val rfl rfl (r_asB rfl) ?_
          refine OpsL.nil ?_
          refine Then.norm ?_
          refine W.ret ?_
          -- return r6
          refine Post.ret1 Tryz.results55 ?_
          refine ⟨h34, _, rfl, st36.done, ?_⟩
          refine bool_eq ?_
          have q1 := all_of_take hR (by omega)
          have q2 := all_of_take hD (by omega)
          have q3 : x.decisions.take i = x.decisions := List.take_of_length_le (by omega)
          rw [q3] at hN
          simp [lexiconB, q1, q2, hN]
          omega
set_option maxRecDepth 4000 in
theorem c_postilref04_Check {h : Heap} {w : World} (hs : Sub h w) {t : Text} {t_v0 : Value} (t_f0 : Sl LChapter h t_v0 t.chapters) {x : Lexicon} {x_v0 : Value} (x_f0 : Sl LRule h x_v0 x.rules) {x_v1 : Value} (x_f1 : Sl LDecision h x_v1 x.decisions) : Calls Tryz.prog 15 #[.agg #[t_v0], .agg #[x_v0, x_v1]] w (Rets h w (fun _ _ res_ => res_ = .int .i64 (checkN t x))) := by
  refine W.calls (n := 15) (args := [.agg #[t_v0], .agg #[x_v0, x_v1]]) Tryz.func15 rfl rfl rfl ?_
  have st0 : St h w h w [] := St.start hs
  have t_f0_b := t_f0.le
  have x_f0_b := x_f0.le
  have x_f1_b := x_f1.le
  refine W.seq ?_
  refine W.region ?_
  refine OpsL.boxF st0 (cs := [t_v0]) rfl rfl rfl ?_
  intro b1 w2 h3 le4 hc5 st6
  refine OpsL.boxF st6 (cs := [x_v0, x_v1]) rfl rfl rfl ?_
  intro b7 w8 h9 le10 hc11 st12
  refine OpsL.val rfl rfl (r_asI rfl) ?_
  refine OpsL.nil ?_
  refine Then.norm ?_
  refine W.seq ?_
  refine W.seq ?_
  refine W.region ?_
  refine OpsL.val rfl rfl (r_load_call st12.sub (hc5.up le10) rfl Tryz.isAgg24 Tryz.sizeOf24 rfl) ?_
  refine OpsL.callF st12 rfl rfl rfl Tryz.call54 rfl (c_postilref01_Check st12.sub (t := t) (t_f0.up (le4.trans le10))) ?_
  intro r13 w14 h15 le16 st17 q18
  obtain rfl := q18
  refine OpsL.val rfl rfl (r_asI rfl) ?_
  refine OpsL.nil ?_
  refine Then.norm ?_
  refine W.seq ?_
  refine W.region ?_
  refine OpsL.val rfl rfl (r_mvI rfl) ?_
  refine OpsL.val rfl rfl (r_neq rfl rfl) ?_
  refine OpsL.nil ?_
  refine Then.norm ?_
  refine W.cond rfl (fun c19 => ?_) (fun c19 => ?_)
  ·
    replace c19 := of_decide_eq_true c19
    refine W.seq ?_
    refine W.region ?_
    refine OpsL.val rfl rfl (r_mvI rfl) ?_
    refine OpsL.val rfl rfl (r_asI rfl) ?_
    refine OpsL.nil ?_
    refine Then.norm ?_
    refine W.ret ?_
    refine Then.ret ?_
    -- return r1
    refine Post.ret1 Tryz.results15 ?_
    refine ⟨h15, _, rfl, st17.done, ?_⟩
    refine int_eq ?_
    simp_all [checkN]
  ·
    replace c19 := of_decide_eq_false c19
    refine W.skip ?_
    refine Then.norm ?_
    refine W.seq ?_
    refine W.seq ?_
    refine W.region ?_
    refine OpsL.val rfl rfl (r_load_call st17.sub (hc5.up (le10.trans le16)) rfl Tryz.isAgg24 Tryz.sizeOf24 rfl) ?_
    refine OpsL.val rfl rfl (r_load_call st17.sub (hc11.up le16) rfl Tryz.isAgg28 Tryz.sizeOf28 rfl) ?_
    refine OpsL.callF st17 rfl rfl rfl Tryz.call55 rfl (c_postilref04_Lexicon st17.sub (t := t) (t_f0.up ((le4.trans le10).trans le16)) (x := x) (x_f0.up ((le4.trans le10).trans le16)) (x_f1.up ((le4.trans le10).trans le16))) ?_
    intro r20 w21 h22 le23 st24 q25
    obtain rfl := q25
    refine OpsL.val rfl rfl (r_not rfl) ?_
    refine OpsL.nil ?_
    refine Then.norm ?_
    refine W.cond rfl (fun c26 => ?_) (fun c26 => ?_)
    ·
      refine W.seq ?_
      refine W.region ?_
      refine OpsL.val rfl rfl (r_asI rfl) ?_
      refine OpsL.nil ?_
      refine Then.norm ?_
      refine W.ret ?_
      refine Then.ret ?_
      -- return r2
      refine Post.ret1 Tryz.results15 ?_
      refine ⟨h22, _, rfl, st24.done, ?_⟩
      refine int_eq ?_
      simp_all [checkN]
    ·
      refine W.skip ?_
      refine Then.norm ?_
      refine W.seq ?_
      refine W.region ?_
      refine OpsL.val rfl rfl (r_asI rfl) ?_
      refine OpsL.nil ?_
      refine Then.norm ?_
      refine W.ret ?_
      -- return r3
      refine Post.ret1 Tryz.results15 ?_
      refine ⟨h22, _, rfl, st24.done, ?_⟩
      refine int_eq ?_
      simp_all [checkN]
end Go.Pk
