/- A PART OF THE PROOF (printed by a program of the author's own): contracts of functions, each walked once. -/
import Derived.Test.YtngmpkoobdkeiaaGreatDoorA04
namespace Go.Pk
open Go Go.RowKit Go.Proofs
set_option maxRecDepth 4000 in
theorem c_postilref01_SameWords {h : Heap} {w : World} (hs : Sub h w) {a_v : Value} {a : (List Str)} (a_f : Sl LStr h a_v a) {b_v : Value} {b : (List Str)} (b_f : Sl LStr h b_v b) : Calls Tryz.prog 16 #[a_v, b_v] w (Rets h w (fun _ _ res_ => res_ = .bool (decide (a = b)))) := by
  refine W.calls (n := 26) (args := [a_v, b_v]) Tryz.func16 rfl rfl rfl ?_
  have st0 : St h w h w [] := St.start hs
  have a_f_b := a_f.le
  have b_f_b := b_f.le
  refine W.seq ?_
  refine W.region ?_
  refine OpsL.val rfl rfl (r_asB rfl) ?_
  refine OpsL.nil ?_
  refine Then.norm ?_
  refine W.seq ?_
  refine W.seq ?_
  refine W.region ?_
  refine OpsL.val rfl rfl (r_move (v := a_v) rfl) ?_
  refine OpsL.val rfl rfl (r_len a_f rfl Tryz.underlying33) ?_
  refine OpsL.val rfl rfl (r_move (v := b_v) rfl) ?_
  refine OpsL.val rfl rfl (r_len b_f rfl Tryz.underlying33) ?_
  refine OpsL.val rfl rfl (r_neq rfl rfl) ?_
  refine OpsL.nil ?_
  refine Then.norm ?_
  refine W.cond rfl (fun c1 => ?_) (fun c1 => ?_)
  ·
    replace c1 := of_decide_eq_true c1
    refine W.seq ?_
    refine W.region ?_
    refine OpsL.val rfl rfl (r_asB rfl) ?_
    refine OpsL.nil ?_
    refine Then.norm ?_
    refine W.ret ?_
    refine Then.ret ?_
    -- return r1
    refine Post.ret1 Tryz.results16 ?_
    refine ⟨h, _, rfl, st0.done, ?_⟩
    refine bool_eq ?_
    have q : a ≠ b := by
      rintro rfl
      simp_all
    simp [q]
  ·
    replace c1 := of_decide_eq_false c1
    refine W.skip ?_
    refine Then.norm ?_
    refine W.seq ?_
    refine W.seq ?_
    refine W.region ?_
    refine OpsL.val rfl rfl (r_asI rfl) ?_
    refine OpsL.nil ?_
    refine Then.norm ?_
    refine W.block ?_
    refine W.loopI [4, 5, 11, 12, 13, 14, 15, 16, 17, 18, 19, 20, 21, 22, 23, 24, 25] (G := Nat × Heap) (fun ⟨k, h2⟩ => [(5, .int .i64 (k : Int))]) (fun ⟨k, h2⟩ w' => Le h h2 ∧ St h w h2 w' [] ∧ (k ≤ a.length) ∧ (a.take k = b.take k)) (fun ⟨k, h2⟩ => a.length - k) ⟨0, h⟩ ⟨rfl, trivial⟩ ⟨Le.refl _, st0, (by first | omega | simp | trivial), (by first | omega | simp | trivial)⟩ ?_
    rintro ⟨k, h2⟩ _ w5 ⟨le3, st4, hk, he⟩
    refine W.seq ?_
    refine W.seq ?_
    refine W.region ?_
    refine OpsL.val rfl rfl (r_mvI rfl) ?_
    refine OpsL.val rfl rfl (r_move (v := a_v) rfl) ?_
    refine OpsL.val rfl rfl (r_len (a_f.up le3) rfl Tryz.underlying33) ?_
    refine OpsL.val rfl rfl (r_lss rfl rfl) ?_
    refine OpsL.nil ?_
    refine Then.norm ?_
    refine W.cond rfl (fun c6 => ?_) (fun c6 => ?_)
    ·
      replace c6 := of_decide_eq_true c6
      refine W.skip ?_
      refine Then.norm ?_
      refine W.seq ?_
      refine W.block ?_
      refine W.seq ?_
      refine W.regionQ Tryz.mixed (by kernel_rfl) (Cls h2 _) (Cls.drew st4) ?_
      refine OpsQ.val rfl rfl (fun _ _ => (r_move (v := a_v) rfl)) ?_
      refine OpsQ.val rfl rfl (fun _ _ => (r_mvI rfl)) ?_
      have hx : ∃ y, (a)[k]? = some y := ⟨_, List.getElem?_eq_getElem (by omega)⟩
      obtain ⟨x, hx⟩ := hx
      obtain ⟨b7, o8, _, he10, hc9, hr_x⟩ := Sl.elem (a_f.up le3) hx
      obtain ⟨rfl, ls11⟩ := hr_x
      simp only [big] at ls11
      refine OpsQ.val rfl rfl (fun _ _ => (r_index_el he10 rfl rfl (hk := rfl) (hu := Tryz.underlying33) (hz := Tryz.sizeOf9))) ?_
      refine OpsQ.val rfl rfl (fun _ hC => (r_load_cells1 (j := 0) hC.sub hc9 rfl rfl rfl Tryz.isAgg9)) ?_
      refine OpsQ.val rfl rfl (fun _ _ => (r_move (v := b_v) rfl)) ?_
      refine OpsQ.val rfl rfl (fun _ _ => (r_mvI rfl)) ?_
      have hy : ∃ y, (b)[k]? = some y := ⟨_, List.getElem?_eq_getElem (by omega)⟩
      obtain ⟨y, hy⟩ := hy
      obtain ⟨b12, o13, _, he15, hc14, hr_y⟩ := Sl.elem (b_f.up le3) hy
      obtain ⟨rfl, ls16⟩ := hr_y
      simp only [big] at ls16
      refine OpsQ.val rfl rfl (fun _ _ => (r_index_el he15 rfl rfl (hk := rfl) (hu := Tryz.underlying33) (hz := Tryz.sizeOf9))) ?_
      refine OpsQ.val rfl rfl (fun _ hC => (r_load_cells1 (j := 0) hC.sub hc14 rfl rfl rfl Tryz.isAgg9)) ?_
      refine OpsQ.val rfl rfl (fun _ _ => (r_sneq rfl rfl)) ?_
      refine OpsQ.nil ?_
      rintro w17 ⟨h18, s19⟩
      have st20 := st4.call0 s19
      refine Then.norm ?_
      refine W.cond rfl (fun c21 => ?_) (fun c21 => ?_)
      ·
        replace c21 := of_decide_eq_true c21
        refine W.seq ?_
        refine W.region ?_
        refine OpsL.val rfl rfl (r_asB rfl) ?_
        refine OpsL.nil ?_
        refine Then.norm ?_
        refine W.ret ?_
        refine Blk.ret ?_
        refine Then.ret ?_
        refine Then.ret ?_
        refine Blk.ret ?_
        refine Then.ret ?_
        -- return r2
        refine Post.ret1 Tryz.results16 ?_
        refine ⟨h18, _, rfl, st20.done, ?_⟩
        refine bool_eq ?_
        have q := ne_of_get hx hy (by simpa using c21)
        simp [q]
      ·
        replace c21 := of_decide_eq_false c21
        refine W.skip ?_
        refine Blk.norm ?_
        refine Then.norm ?_
        refine W.region ?_
        refine OpsL.val rfl rfl (r_mvI rfl) ?_
        refine OpsL.val rfl rfl (r_add rfl rfl (by first | omega | (simp; omega))) ?_
        refine OpsL.val rfl rfl (r_asI rfl) ?_
        refine OpsL.nil ?_
        refine Then.norm ?_
        refine ⟨⟨k + 1, h18⟩, ⟨rfl, trivial⟩, ?_, ⟨(le3.trans s19.le), st20, ?_, ?_⟩, ?_⟩
        · repeat (first | exact Agree.mix _ _ _ | exact Agree.refl _ _ | refine Agree.updO rfl ?_ | refine Agree.upd rfl ?_ | refine Agree.known rfl ?_ | refine Agree.sub rfl ?_)
        · first | omega | (simp; omega)
        · exact eq_take_succ he hx hy (by simpa using c21)
        · show a.length - ((k + 1)) < a.length - k
          omega
    ·
      replace c6 := of_decide_eq_false c6
      refine W.exit ?_
      refine Then.exit ?_
      refine Then.exit ?_
      refine Blk.hit ?_
      refine Then.norm ?_
      refine W.seq ?_
      refine W.region ?_
      refine OpsL.val rfl rfl (r_asB rfl) ?_
      refine OpsL.nil ?_
      refine Then.norm ?_
      refine W.ret ?_
      -- return r3
      refine Post.ret1 Tryz.results16 ?_
      refine ⟨h2, _, rfl, st4.done, ?_⟩
      refine bool_eq ?_
      have q := eq_of_take he (by omega) (by omega)
      simp [q]
set_option maxRecDepth 4000 in
theorem c_postilref01_Same {h : Heap} {w : World} (hs : Sub h w) {a : Text} {a_v0 : Value} (a_f0 : Sl LChapter h a_v0 a.chapters) {b : Text} {b_v0 : Value} (b_f0 : Sl LChapter h b_v0 b.chapters) : Calls Tryz.prog 18 #[.agg #[a_v0], .agg #[b_v0]] w (Rets h w (fun _ _ res_ => res_ = .bool (decide (a = b)))) := by
  refine W.calls (n := 66) (args := [.agg #[a_v0], .agg #[b_v0]]) Tryz.func18 rfl rfl rfl ?_
  have st0 : St h w h w [] := St.start hs
  have a_f0_b := a_f0.le
  have b_f0_b := b_f0.le
  refine W.seq ?_
  refine W.region ?_
  refine OpsL.boxF st0 (cs := [a_v0]) rfl rfl rfl ?_
  intro b1 w2 h3 le4 hc5 st6
  refine OpsL.boxF st6 (cs := [b_v0]) rfl rfl rfl ?_
  intro b7 w8 h9 le10 hc11 st12
  refine OpsL.val rfl rfl (r_asB rfl) ?_
  refine OpsL.nil ?_
  refine Then.norm ?_
  refine W.seq ?_
  refine W.seq ?_
  refine W.region ?_
  refine OpsL.val rfl rfl (r_field_addr rfl Tryz.underlying24 rfl Tryz.sizeOf22 rfl) ?_
  refine OpsL.val rfl rfl (r_load_cells1 (j := 0) st12.sub (hc5.up le10) rfl rfl rfl Tryz.isAgg22) ?_
  refine OpsL.val rfl rfl (r_len (a_f0.up (le4.trans le10)) rfl Tryz.underlying22) ?_
  refine OpsL.val rfl rfl (r_field_addr rfl Tryz.underlying24 rfl Tryz.sizeOf22 rfl) ?_
  refine OpsL.val rfl rfl (r_load_cells1 (j := 0) st12.sub hc11 rfl rfl rfl Tryz.isAgg22) ?_
  refine OpsL.val rfl rfl (r_len (b_f0.up (le4.trans le10)) rfl Tryz.underlying22) ?_
  refine OpsL.val rfl rfl (r_neq rfl rfl) ?_
  refine OpsL.nil ?_
  refine Then.norm ?_
  refine W.cond rfl (fun c13 => ?_) (fun c13 => ?_)
  ·
    replace c13 := of_decide_eq_true c13
    refine W.seq ?_
    refine W.region ?_
    refine OpsL.val rfl rfl (r_asB rfl) ?_
    refine OpsL.nil ?_
    refine Then.norm ?_
    refine W.ret ?_
    refine Then.ret ?_
    -- return r1
    refine Post.ret1 Tryz.results18 ?_
    refine ⟨h9, _, rfl, st12.done, ?_⟩
    refine bool_eq ?_
    have q : a ≠ b := by
      rintro rfl
      simp_all
    simp [q]
  ·
    replace c13 := of_decide_eq_false c13
    refine W.skip ?_
    refine Then.norm ?_
    refine W.seq ?_
    refine W.seq ?_
    refine W.region ?_
    refine OpsL.val rfl rfl (r_asI rfl) ?_
    refine OpsL.nil ?_
    refine Then.norm ?_
    refine W.block ?_
    refine W.loopI [4, 5, 6, 7, 8, 16, 17, 18, 19, 20, 21, 22, 23, 24, 25, 26, 27, 28, 29, 30, 31, 32, 33, 34, 35, 36, 37, 38, 39, 40, 41, 42, 43, 44, 45, 46, 47, 48, 49, 50, 51, 52, 53, 54, 55, 56, 57, 58, 59, 60, 61, 62, 63, 64, 65] (G := Nat × Heap) (fun ⟨i, h14⟩ => [(5, .int .i64 (i : Int))]) (fun ⟨i, h14⟩ w' => Le h9 h14 ∧ St h w h14 w' [] ∧ (i ≤ a.chapters.length) ∧ (a.chapters.take i = b.chapters.take i)) (fun ⟨i, h14⟩ => a.chapters.length - i) ⟨0, h9⟩ ⟨rfl, trivial⟩ ⟨Le.refl _, st12, (by first | omega | simp | trivial), (by first | omega | simp | trivial)⟩ ?_
    rintro ⟨i, h14⟩ _ w17 ⟨le15, st16, hi, he⟩
    refine W.seq ?_
    refine W.seq ?_
    refine W.region ?_
    refine OpsL.val rfl rfl (r_mvI rfl) ?_
    refine OpsL.val rfl rfl (r_field_addr rfl Tryz.underlying24 rfl Tryz.sizeOf22 rfl) ?_
    refine OpsL.val rfl rfl (r_load_cells1 (j := 0) st16.sub (hc5.up (le10.trans le15)) rfl rfl rfl Tryz.isAgg22) ?_
    refine OpsL.val rfl rfl (r_len (a_f0.up ((le4.trans le10).trans le15)) rfl Tryz.underlying22) ?_
    refine OpsL.val rfl rfl (r_lss rfl rfl) ?_
    refine OpsL.nil ?_
    refine Then.norm ?_
    refine W.cond rfl (fun c18 => ?_) (fun c18 => ?_)
    ·
      replace c18 := of_decide_eq_true c18
      refine W.skip ?_
      refine Then.norm ?_
      refine W.seq ?_
      refine W.block ?_
      refine W.seq ?_
      have hc : ∃ y, (a.chapters)[i]? = some y := ⟨_, List.getElem?_eq_getElem (by omega)⟩
      obtain ⟨c, hc⟩ := hc
      obtain ⟨b19, o20, _, he22, hc21, hr_c⟩ := Sl.elem (a_f0.up ((le4.trans le10).trans le15)) hc
      obtain ⟨v23, rfl, f24⟩ := hr_c
      have f24_b := f24.le
      have hd : ∃ y, (b.chapters)[i]? = some y := ⟨_, List.getElem?_eq_getElem (by omega)⟩
      obtain ⟨d, hd⟩ := hd
      obtain ⟨b25, o26, _, he28, hc27, hr_d⟩ := Sl.elem (b_f0.up ((le4.trans le10).trans le15)) hd
      obtain ⟨v29, rfl, f30⟩ := hr_d
      have f30_b := f30.le
      refine W.regionR (er := []) (dsts := [23, 24, 25, 26, 27, 28, 29, 30, 31, 32, 6, 7]) st16 Tryz.mixed ?_
      refine Drw.det' 0 [] rfl (by kernel_rfl) (by kernel_rfl) rfl rfl (fun hD wD τD hL hS hO  => (r_field_addr rfl Tryz.underlying24 rfl Tryz.sizeOf22 rfl)) ?_
      refine Drw.det' 1 [0] rfl (by kernel_rfl) (by kernel_rfl) rfl rfl (fun hD wD τD hL hS hO _ _ => (r_load_cells1 (j := 0) (hL.sub hS) (hc5.up (le10.trans le15)) rfl rfl rfl Tryz.isAgg22)) ?_
      refine Drw.det' 2 [] rfl (by kernel_rfl) (by kernel_rfl) rfl rfl (fun hD wD τD hL hS hO  => (r_mvI rfl)) ?_
      refine Drw.det' 3 [1, 0] rfl (by kernel_rfl) (by kernel_rfl) rfl rfl (fun hD wD τD hL hS hO _ _ _ _ => (r_index_el he22 rfl rfl (hk := rfl) (hu := Tryz.underlying22) (hz := Tryz.sizeOf93))) ?_
      refine Drw.det' 4 [0] rfl (by kernel_rfl) (by kernel_rfl) rfl rfl (fun hD wD τD hL hS hO _ _ => (r_load_call (hL.sub hS) hc21 rfl Tryz.isAgg93 Tryz.sizeOf93 rfl)) ?_
      refine Drw.det' 5 [] rfl (by kernel_rfl) (by kernel_rfl) rfl rfl (fun hD wD τD hL hS hO  => (r_field_addr rfl Tryz.underlying24 rfl Tryz.sizeOf22 rfl)) ?_
      refine Drw.det' 6 [0] rfl (by kernel_rfl) (by kernel_rfl) rfl rfl (fun hD wD τD hL hS hO _ _ => (r_load_cells1 (j := 0) (hL.sub hS) (hc11.up le15) rfl rfl rfl Tryz.isAgg22)) ?_
      refine Drw.det' 7 [] rfl (by kernel_rfl) (by kernel_rfl) rfl rfl (fun hD wD τD hL hS hO  => (r_mvI rfl)) ?_
      refine Drw.det' 8 [1, 0] rfl (by kernel_rfl) (by kernel_rfl) rfl rfl (fun hD wD τD hL hS hO _ _ _ _ => (r_index_el he28 rfl rfl (hk := rfl) (hu := Tryz.underlying22) (hz := Tryz.sizeOf93))) ?_
      refine Drw.det' 9 [0] rfl (by kernel_rfl) (by kernel_rfl) rfl rfl (fun hD wD τD hL hS hO _ _ => (r_load_call (hL.sub hS) hc27 rfl Tryz.isAgg93 Tryz.sizeOf93 rfl)) ?_
      refine Drw.al Tryz.zeroValue93 rfl ?_
      refine Drw.al Tryz.zeroValue93 rfl ?_
      refine Drw.ch ?_
      refine Drw.ch ?_
      refine Drw.nil rfl rfl rfl ⟨by kernel_rfl, rfl, by kernel_rfl, rfl, by kernel_rfl, rfl, (cx_cons rfl (cx_cons rfl cx_nil))⟩ ?_
      intro b31
      intro b32
      intro hE34 w35 _ le36 st37 _ _ _ _ _ _ _ _ _ _
      refine OpsL.storeN st37 (k := 0) rfl rfl rfl (one_cons rfl (one_cons f24.one one_nil)) Tryz.sizeOf93 rfl rfl rfl ?_
      intro w38 st39
      obtain ⟨h40, le41, hb42, st44⟩ := st39.freeze (k := 0) rfl
      have hc43 := Cells.of hb42
      refine OpsL.nil ⟨undef, rfl, _, _, le41, st44, ?_⟩
      intro hE46 w47 _ le48 st49 _ _ _ _ _ _ _ _ _ _ _ _ _ _ _ _ _ _ _ _
      refine OpsL.storeN st49 (k := 1) rfl rfl rfl (one_cons rfl (one_cons f30.one one_nil)) Tryz.sizeOf93 rfl rfl rfl ?_
      intro w50 st51
      obtain ⟨h52, le53, hb54, st56⟩ := st51.freeze (k := 1) rfl
      have hc55 := Cells.of hb54
      refine OpsL.nil ⟨undef, rfl, _, _, le53, st56, ?_⟩
      intro hE57 w58 _ le59 st60 _ _ _ _ _ _ _ _ _ _ _ _ _ _ _ _ _ _ _ _
      refine AllDeps.fin rfl ?_
      refine Then.norm ?_
      refine W.seq ?_
      refine W.seq ?_
      refine W.region ?_
      refine OpsL.val rfl rfl (r_field_addr rfl Tryz.underlying93 rfl Tryz.sizeOf3 rfl) ?_
      refine OpsL.val rfl rfl (r_load_cells1 (j := 0) st60.sub (hc43.up ((le48.trans le53).trans le59)) rfl rfl rfl Tryz.isAgg3) ?_
      refine OpsL.val rfl rfl (r_field_addr rfl Tryz.underlying93 rfl Tryz.sizeOf3 rfl) ?_
      refine OpsL.val rfl rfl (r_load_cells1 (j := 0) st60.sub (hc55.up le59) rfl rfl rfl Tryz.isAgg3) ?_
      refine OpsL.val rfl rfl (r_neq rfl rfl) ?_
      refine OpsL.val rfl rfl (r_mvB rfl) ?_
      refine OpsL.split (d := 38) rfl (fun g62 => ?_) (fun g62 => ?_)
      ·
        replace g62 := of_decide_eq_true g62
        refine OpsL.skipped rfl rfl (d := 38) rfl rfl rfl ?_
        refine OpsL.skipped rfl rfl (d := 38) rfl rfl rfl ?_
        refine OpsL.skipped rfl rfl (d := 38) rfl rfl rfl ?_
        refine OpsL.skipped rfl rfl (d := 38) rfl rfl rfl ?_
        refine OpsL.skipped rfl rfl (d := 38) rfl rfl rfl ?_
        refine OpsL.skipped rfl rfl (d := 38) rfl rfl rfl ?_
        refine OpsL.skipped rfl rfl (d := 38) rfl rfl rfl ?_
        refine OpsL.val rfl rfl (r_pickT (v := (.bool _)) rfl rfl) ?_
        refine OpsL.nil ?_
        refine Then.norm ?_
        refine W.cond rfl (fun c63 => ?_) (fun c63 => ?_)
        ·
          refine W.seq ?_
          refine W.region ?_
          refine OpsL.val rfl rfl (r_asB rfl) ?_
          refine OpsL.nil ?_
          refine Then.norm ?_
          refine W.ret ?_
          refine Then.ret ?_
          refine Blk.ret ?_
          refine Then.ret ?_
          refine Then.ret ?_
          refine Blk.ret ?_
          refine Then.ret ?_
          -- return r2
          refine Post.ret1 Tryz.results18 ?_
          refine ⟨hE57, _, rfl, st60.done, ?_⟩
          refine bool_eq ?_
          have q : c ≠ d := by
            rintro rfl
            simp_all
          have q2 : a ≠ b := fun e => ne_of_get hc hd q (by rw [e])
          simp [q2]
        ·
          cases c63
      ·
        replace g62 := of_decide_eq_false g62
        refine OpsL.guarded rfl rfl (d := 38) rfl ?_
        refine OpsL.val rfl rfl (r_field_addr rfl Tryz.underlying93 rfl Tryz.sizeOf91 rfl) ?_
        refine OpsL.guarded rfl rfl (d := 38) rfl ?_
        refine OpsL.val rfl rfl (r_load_cells1 (j := 1) st60.sub (hc43.up ((le48.trans le53).trans le59)) rfl rfl rfl Tryz.isAgg91) ?_
        refine OpsL.guarded rfl rfl (d := 38) rfl ?_
        refine OpsL.val rfl rfl (r_len (f24.up ((((le36.trans le41).trans le48).trans le53).trans le59)) rfl Tryz.underlying91) ?_
        refine OpsL.guarded rfl rfl (d := 38) rfl ?_
        refine OpsL.val rfl rfl (r_field_addr rfl Tryz.underlying93 rfl Tryz.sizeOf91 rfl) ?_
        refine OpsL.guarded rfl rfl (d := 38) rfl ?_
        refine OpsL.val rfl rfl (r_load_cells1 (j := 1) st60.sub (hc55.up le59) rfl rfl rfl Tryz.isAgg91) ?_
        refine OpsL.guarded rfl rfl (d := 38) rfl ?_
        refine OpsL.val rfl rfl (r_len (f30.up ((((le36.trans le41).trans le48).trans le53).trans le59)) rfl Tryz.underlying91) ?_
        refine OpsL.guarded rfl rfl (d := 38) rfl ?_
        refine OpsL.val rfl rfl (r_neq rfl rfl) ?_
        refine OpsL.val rfl rfl (r_pickF (v := (.bool _)) rfl rfl) ?_
        refine OpsL.nil ?_
        refine Then.norm ?_
        refine W.cond rfl (fun c64 => ?_) (fun c64 => ?_)
        ·
          replace c64 := of_decide_eq_true c64
          refine W.seq ?_
          refine W.region ?_
          refine OpsL.val rfl rfl (r_asB rfl) ?_
          refine OpsL.nil ?_
          refine Then.norm ?_
          refine W.ret ?_
          refine Then.ret ?_
          refine Blk.ret ?_
          refine Then.ret ?_
          refine Then.ret ?_
          refine Blk.ret ?_
          refine Then.ret ?_
          -- return r3
          refine Post.ret1 Tryz.results18 ?_
          refine ⟨hE57, _, rfl, st60.done, ?_⟩
          refine bool_eq ?_
          have q : c ≠ d := by
            rintro rfl
            simp_all
          have q2 : a ≠ b := fun e => ne_of_get hc hd q (by rw [e])
          simp [q2]
        ·
          replace c64 := of_decide_eq_false c64
          refine W.skip ?_
          refine Then.norm ?_
          refine W.seq ?_
          refine W.region ?_
          refine OpsL.val rfl rfl (r_asI rfl) ?_
          refine OpsL.nil ?_
          refine Then.norm ?_
          refine W.block ?_
          refine W.loopI [4, 8, 47, 48, 49, 50, 51, 52, 53, 54, 55, 56, 57, 58, 59, 60, 61, 62, 63, 64, 65] (G := Nat × Heap) (fun ⟨k, h65⟩ => [(8, .int .i64 (k : Int))]) (fun ⟨k, h65⟩ w' => Le hE57 h65 ∧ St h w h65 w' [[], []] ∧ (k ≤ c.lines.length) ∧ (c.lines.take k = d.lines.take k)) (fun ⟨k, h65⟩ => c.lines.length - k) ⟨0, hE57⟩ ⟨rfl, trivial⟩ ⟨Le.refl _, st60, (by first | omega | simp | trivial), (by first | omega | simp | trivial)⟩ ?_
          rintro ⟨k, h65⟩ _ w68 ⟨le66, st67, hk, hk2⟩
          refine W.seq ?_
          refine W.seq ?_
          refine W.region ?_
          refine OpsL.val rfl rfl (r_mvI rfl) ?_
          refine OpsL.val rfl rfl (r_field_addr rfl Tryz.underlying93 rfl Tryz.sizeOf91 rfl) ?_
          refine OpsL.val rfl rfl (r_load_cells1 (j := 1) st67.sub (hc43.up (((le48.trans le53).trans le59).trans le66)) rfl rfl rfl Tryz.isAgg91) ?_
          refine OpsL.val rfl rfl (r_len (f24.up (((((le36.trans le41).trans le48).trans le53).trans le59).trans le66)) rfl Tryz.underlying91) ?_
          refine OpsL.val rfl rfl (r_lss rfl rfl) ?_
          refine OpsL.nil ?_
          refine Then.norm ?_
          refine W.cond rfl (fun c69 => ?_) (fun c69 => ?_)
          ·
            replace c69 := of_decide_eq_true c69
            refine W.skip ?_
            refine Then.norm ?_
            refine W.seq ?_
            refine W.block ?_
            refine W.seq ?_
            refine W.regionQ Tryz.mixed (by kernel_rfl) (Cls h65 _) (Cls.drew st67) ?_
            refine OpsQ.val rfl rfl (fun _ _ => (r_field_addr rfl Tryz.underlying93 rfl Tryz.sizeOf91 rfl)) ?_
            refine OpsQ.val rfl rfl (fun _ hC => (r_load_cells1 (j := 1) hC.sub (hc43.up (((le48.trans le53).trans le59).trans le66)) rfl rfl rfl Tryz.isAgg91)) ?_
            refine OpsQ.val rfl rfl (fun _ _ => (r_mvI rfl)) ?_
            have hx : ∃ y, (c.lines)[k]? = some y := ⟨_, List.getElem?_eq_getElem (by omega)⟩
            obtain ⟨x, hx⟩ := hx
            obtain ⟨b70, o71, _, he73, hc72, hr_x⟩ := Sl.elem (f24.up (((((le36.trans le41).trans le48).trans le53).trans le59).trans le66)) hx
            obtain ⟨v74, rfl, f75⟩ := hr_x
            have f75_b := f75.le
            refine OpsQ.val rfl rfl (fun _ _ => (r_index_el he73 rfl rfl (hk := rfl) (hu := Tryz.underlying91) (hz := Tryz.sizeOf33))) ?_
            refine OpsQ.val rfl rfl (fun _ hC => (r_load_cells1 (j := 0) hC.sub hc72 rfl rfl rfl Tryz.isAgg33)) ?_
            refine OpsQ.val rfl rfl (fun _ _ => (r_field_addr rfl Tryz.underlying93 rfl Tryz.sizeOf91 rfl)) ?_
            refine OpsQ.val rfl rfl (fun _ hC => (r_load_cells1 (j := 1) hC.sub (hc55.up (le59.trans le66)) rfl rfl rfl Tryz.isAgg91)) ?_
            refine OpsQ.val rfl rfl (fun _ _ => (r_mvI rfl)) ?_
            have hy : ∃ y, (d.lines)[k]? = some y := ⟨_, List.getElem?_eq_getElem (by omega)⟩
            obtain ⟨y, hy⟩ := hy
            obtain ⟨b76, o77, _, he79, hc78, hr_y⟩ := Sl.elem (f30.up (((((le36.trans le41).trans le48).trans le53).trans le59).trans le66)) hy
            obtain ⟨v80, rfl, f81⟩ := hr_y
            have f81_b := f81.le
            refine OpsQ.val rfl rfl (fun _ _ => (r_index_el he79 rfl rfl (hk := rfl) (hu := Tryz.underlying91) (hz := Tryz.sizeOf33))) ?_
            refine OpsQ.val rfl rfl (fun _ hC => (r_load_cells1 (j := 0) hC.sub hc78 rfl rfl rfl Tryz.isAgg33)) ?_
            refine OpsQ.calls rfl rfl (fun _ => run_call rfl Tryz.call16 rfl) (fun _ hC => Rets.quiet hC (c_postilref01_SameWords hC.sub f75 f81)) ?_
            refine OpsQ.val rfl rfl (fun _ _ => (r_not rfl)) ?_
            refine OpsQ.nil ?_
            rintro w82 ⟨h83, s84⟩
            have st85 := st67.call0 s84
            refine Then.norm ?_
            refine W.cond rfl (fun c86 => ?_) (fun c86 => ?_)
            ·
              refine W.seq ?_
              refine W.region ?_
              refine OpsL.val rfl rfl (r_asB rfl) ?_
              refine OpsL.nil ?_
              refine Then.norm ?_
              refine W.ret ?_
              refine Blk.ret ?_
              refine Then.ret ?_
              refine Then.ret ?_
              refine Blk.ret ?_
              refine Blk.ret ?_
              refine Then.ret ?_
              refine Then.ret ?_
              refine Blk.ret ?_
              refine Then.ret ?_
              -- return r4
              refine Post.ret1 Tryz.results18 ?_
              refine ⟨h83, _, rfl, st85.done, ?_⟩
              refine bool_eq ?_
              have q1 : c.lines ≠ d.lines := ne_of_get hx hy (by simpa using c86)
              have q : c ≠ d := fun e => q1 (by rw [e])
              have q2 : a ≠ b := fun e => ne_of_get hc hd q (by rw [e])
              simp [q2]
            ·
              refine W.skip ?_
              refine Blk.norm ?_
              refine Then.norm ?_
              refine W.region ?_
              refine OpsL.val rfl rfl (r_mvI rfl) ?_
              refine OpsL.val rfl rfl (r_add rfl rfl (by first | omega | (simp; omega))) ?_
              refine OpsL.val rfl rfl (r_asI rfl) ?_
              refine OpsL.nil ?_
              refine Then.norm ?_
              refine ⟨⟨k + 1, h83⟩, ⟨rfl, trivial⟩, ?_, ⟨(le66.trans s84.le), st85, ?_, ?_⟩, ?_⟩
              · repeat (first | exact Agree.mix _ _ _ | exact Agree.refl _ _ | refine Agree.updO rfl ?_ | refine Agree.upd rfl ?_ | refine Agree.known rfl ?_ | refine Agree.sub rfl ?_)
              · first | omega | (simp; omega)
              · exact eq_take_succ hk2 hx hy (by simpa using c86)
              · show c.lines.length - ((k + 1)) < c.lines.length - k
                omega
          ·
            replace c69 := of_decide_eq_false c69
            refine W.exit ?_
            refine Then.exit ?_
            refine Then.exit ?_
            refine Blk.hit ?_
            refine Blk.norm ?_
            refine Then.norm ?_
            refine W.region ?_
            refine OpsL.val rfl rfl (r_mvI rfl) ?_
            refine OpsL.val rfl rfl (r_add rfl rfl (by first | omega | (simp; omega))) ?_
            refine OpsL.val rfl rfl (r_asI rfl) ?_
            refine OpsL.nil ?_
            refine Then.norm ?_
            have HCD : c = d := by
              have q := eq_of_take hk2 (by omega) (by omega)
              rcases c with ⟨c1, c2⟩; rcases d with ⟨d1, d2⟩
              simp_all
            refine ⟨⟨i + 1, h65⟩, ⟨rfl, trivial⟩, ?_, ⟨((((((le15.trans le36).trans le41).trans le48).trans le53).trans le59).trans le66), st67.take 0, ?_, ?_⟩, ?_⟩
            · repeat (first | exact Agree.mix _ _ _ | exact Agree.refl _ _ | refine Agree.updO rfl ?_ | refine Agree.upd rfl ?_ | refine Agree.known rfl ?_ | refine Agree.sub rfl ?_)
            · first | omega | (simp; omega)
            · exact eq_take_succ he hc hd HCD
            · show a.chapters.length - ((i + 1)) < a.chapters.length - i
              omega
    ·
      replace c18 := of_decide_eq_false c18
      refine W.exit ?_
      refine Then.exit ?_
      refine Then.exit ?_
      refine Blk.hit ?_
      refine Then.norm ?_
      refine W.seq ?_
      refine W.region ?_
      refine OpsL.val rfl rfl (r_asB rfl) ?_
      refine OpsL.nil ?_
      refine Then.norm ?_
      refine W.ret ?_
      -- return r5
      refine Post.ret1 Tryz.results18 ?_
      refine ⟨h14, _, rfl, st16.done, ?_⟩
      refine bool_eq ?_
      have q := eq_of_take he (by omega) (by omega)
      rcases a with ⟨a1⟩; rcases b with ⟨b1⟩
      simp_all
set_option maxRecDepth 4000 in
theorem c_postilref04_Same {h : Heap} {w : World} (hs : Sub h w) {a : Lexicon} {a_v0 : Value} (a_f0 : Sl LRule h a_v0 a.rules) {a_v1 : Value} (a_f1 : Sl LDecision h a_v1 a.decisions) {b : Lexicon} {b_v0 : Value} (b_f0 : Sl LRule h b_v0 b.rules) {b_v1 : Value} (b_f1 : Sl LDecision h b_v1 b.decisions) : Calls Tryz.prog 19 #[.agg #[a_v0, a_v1], .agg #[b_v0, b_v1]] w (Rets h w (fun _ _ res_ => res_ = .bool (decide (a = b)))) := by
  refine W.calls (n := 59) (args := [.agg #[a_v0, a_v1], .agg #[b_v0, b_v1]]) Tryz.func19 rfl rfl rfl ?_
  have st0 : St h w h w [] := St.start hs
  have a_f0_b := a_f0.le
  have a_f1_b := a_f1.le
  have b_f0_b := b_f0.le
  have b_f1_b := b_f1.le
  refine W.seq ?_
  refine W.region ?_
  refine OpsL.boxF st0 (cs := [a_v0, a_v1]) rfl rfl rfl ?_
  intro b1 w2 h3 le4 hc5 st6
  refine OpsL.boxF st6 (cs := [b_v0, b_v1]) rfl rfl rfl ?_
  intro b7 w8 h9 le10 hc11 st12
  refine OpsL.val rfl rfl (r_asB rfl) ?_
  refine OpsL.nil ?_
  refine Then.norm ?_
  refine W.seq ?_
  refine W.seq ?_
  refine W.region ?_
  refine OpsL.val rfl rfl (r_field_addr rfl Tryz.underlying28 rfl Tryz.sizeOf25 rfl) ?_
  refine OpsL.val rfl rfl (r_load_cells1 (j := 0) st12.sub (hc5.up le10) rfl rfl rfl Tryz.isAgg25) ?_
  refine OpsL.val rfl rfl (r_len (a_f0.up (le4.trans le10)) rfl Tryz.underlying25) ?_
  refine OpsL.val rfl rfl (r_field_addr rfl Tryz.underlying28 rfl Tryz.sizeOf25 rfl) ?_
  refine OpsL.val rfl rfl (r_load_cells1 (j := 0) st12.sub hc11 rfl rfl rfl Tryz.isAgg25) ?_
  refine OpsL.val rfl rfl (r_len (b_f0.up (le4.trans le10)) rfl Tryz.underlying25) ?_
  refine OpsL.val rfl rfl (r_neq rfl rfl) ?_
  refine OpsL.val rfl rfl (r_mvB rfl) ?_
  refine OpsL.split (d := 14) rfl (fun g13 => ?_) (fun g13 => ?_)
  ·
    replace g13 := of_decide_eq_true g13
    refine OpsL.skipped rfl rfl (d := 14) rfl rfl rfl ?_
    refine OpsL.skipped rfl rfl (d := 14) rfl rfl rfl ?_
    refine OpsL.skipped rfl rfl (d := 14) rfl rfl rfl ?_
    refine OpsL.skipped rfl rfl (d := 14) rfl rfl rfl ?_
    refine OpsL.skipped rfl rfl (d := 14) rfl rfl rfl ?_
    refine OpsL.skipped rfl rfl (d := 14) rfl rfl rfl ?_
    refine OpsL.skipped rfl rfl (d := 14) rfl rfl rfl ?_
    refine OpsL.val rfl rfl (r_pickT (v := (.bool _)) rfl rfl) ?_
    refine OpsL.nil ?_
    refine Then.norm ?_
    refine W.cond rfl (fun c14 => ?_) (fun c14 => ?_)
    ·
      refine W.seq ?_
      refine W.region ?_
      refine OpsL.val rfl rfl (r_asB rfl) ?_
      refine OpsL.nil ?_
      refine Then.norm ?_
      refine W.ret ?_
      refine Then.ret ?_
      -- return r1
      refine Post.ret1 Tryz.results19 ?_
      refine ⟨h9, _, rfl, st12.done, ?_⟩
      refine bool_eq ?_
      have q : a ≠ b := by
        rintro rfl
        simp_all
      simp [q]
    ·
      cases c14
  ·
    replace g13 := of_decide_eq_false g13
    refine OpsL.guarded rfl rfl (d := 14) rfl ?_
    refine OpsL.val rfl rfl (r_field_addr rfl Tryz.underlying28 rfl Tryz.sizeOf26 rfl) ?_
    refine OpsL.guarded rfl rfl (d := 14) rfl ?_
    refine OpsL.val rfl rfl (r_load_cells1 (j := 1) st12.sub (hc5.up le10) rfl rfl rfl Tryz.isAgg26) ?_
    refine OpsL.guarded rfl rfl (d := 14) rfl ?_
    refine OpsL.val rfl rfl (r_len (a_f1.up (le4.trans le10)) rfl Tryz.underlying26) ?_
    refine OpsL.guarded rfl rfl (d := 14) rfl ?_
    refine OpsL.val rfl rfl (r_field_addr rfl Tryz.underlying28 rfl Tryz.sizeOf26 rfl) ?_
    refine OpsL.guarded rfl rfl (d := 14) rfl ?_
    refine OpsL.val rfl rfl (r_load_cells1 (j := 1) st12.sub hc11 rfl rfl rfl Tryz.isAgg26) ?_
    refine OpsL.guarded rfl rfl (d := 14) rfl ?_
    refine OpsL.val rfl rfl (r_len (b_f1.up (le4.trans le10)) rfl Tryz.underlying26) ?_
    refine OpsL.guarded rfl rfl (d := 14) rfl ?_
    refine OpsL.val rfl rfl (r_neq rfl rfl) ?_
    refine OpsL.val rfl rfl (r_pickF (v := (.bool _)) rfl rfl) ?_
    refine OpsL.nil ?_
    refine Then.norm ?_
    refine W.cond rfl (fun c15 => ?_) (fun c15 => ?_)
    ·
      replace c15 := of_decide_eq_true c15
      refine W.seq ?_
      refine W.region ?_
      refine OpsL.val rfl rfl (r_asB rfl) ?_
      refine OpsL.nil ?_
      refine Then.norm ?_
      refine W.ret ?_
      refine Then.ret ?_
      -- return r2
      refine Post.ret1 Tryz.results19 ?_
      refine ⟨h9, _, rfl, st12.done, ?_⟩
      refine bool_eq ?_
      have q : a ≠ b := by
        rintro rfl
        simp_all
      simp [q]
    ·
      replace c15 := of_decide_eq_false c15
      refine W.skip ?_
      refine Then.norm ?_
      refine W.seq ?_
      refine W.seq ?_
      refine W.region ?_
      refine OpsL.val rfl rfl (r_asI rfl) ?_
      refine OpsL.nil ?_
      refine Then.norm ?_
      refine W.block ?_
      refine W.loopI [4, 5, 23, 24, 25, 26, 27, 28, 29, 30, 31, 32, 33, 34, 35, 36, 37, 38, 39, 40] (G := Nat × Heap) (fun ⟨i, h16⟩ => [(5, .int .i64 (i : Int))]) (fun ⟨i, h16⟩ w' => Le h9 h16 ∧ St h w h16 w' [] ∧ (i ≤ a.rules.length) ∧ (a.rules.take i = b.rules.take i)) (fun ⟨i, h16⟩ => a.rules.length - i) ⟨0, h9⟩ ⟨rfl, trivial⟩ ⟨Le.refl _, st12, (by first | omega | simp | trivial), (by first | omega | simp | trivial)⟩ ?_
      rintro ⟨i, h16⟩ _ w19 ⟨le17, st18, hi, he⟩
      refine W.seq ?_
      refine W.seq ?_
      refine W.region ?_
      refine OpsL.val rfl rfl (r_mvI rfl) ?_
      refine OpsL.val rfl rfl (r_field_addr rfl Tryz.underlying28 rfl Tryz.sizeOf25 rfl) ?_
      refine OpsL.val rfl rfl (r_load_cells1 (j := 0) st18.sub (hc5.up (le10.trans le17)) rfl rfl rfl Tryz.isAgg25) ?_
      refine OpsL.val rfl rfl (r_len (a_f0.up ((le4.trans le10).trans le17)) rfl Tryz.underlying25) ?_
      refine OpsL.val rfl rfl (r_lss rfl rfl) ?_
      refine OpsL.nil ?_
      refine Then.norm ?_
      refine W.cond rfl (fun c20 => ?_) (fun c20 => ?_)
      ·
        replace c20 := of_decide_eq_true c20
        refine W.skip ?_
        refine Then.norm ?_
        refine W.seq ?_
        refine W.block ?_
        refine W.seq ?_
        refine W.regionQ Tryz.mixed (by kernel_rfl) (Cls h16 _) (Cls.drew st18) ?_
        refine OpsQ.val rfl rfl (fun _ _ => (r_field_addr rfl Tryz.underlying28 rfl Tryz.sizeOf25 rfl)) ?_
        refine OpsQ.val rfl rfl (fun _ hC => (r_load_cells1 (j := 0) hC.sub (hc5.up (le10.trans le17)) rfl rfl rfl Tryz.isAgg25)) ?_
        refine OpsQ.val rfl rfl (fun _ _ => (r_mvI rfl)) ?_
        have hr : ∃ y, (a.rules)[i]? = some y := ⟨_, List.getElem?_eq_getElem (by omega)⟩
        obtain ⟨r, hr⟩ := hr
        obtain ⟨b21, o22, _, he24, hc23, hr_r⟩ := Sl.elem (a_f0.up ((le4.trans le10).trans le17)) hr
        obtain ⟨rfl, ls25, ls26⟩ := hr_r
        simp only [big] at ls25
        simp only [big] at ls26
        refine OpsQ.val rfl rfl (fun _ _ => (r_index_el he24 rfl rfl (hk := rfl) (hu := Tryz.underlying25) (hz := Tryz.sizeOf70))) ?_
        refine OpsQ.val rfl rfl (fun _ hC => (r_load_call hC.sub hc23 rfl Tryz.isAgg70 Tryz.sizeOf70 rfl)) ?_
        refine OpsQ.val rfl rfl (fun _ _ => (r_field_addr rfl Tryz.underlying28 rfl Tryz.sizeOf25 rfl)) ?_
        refine OpsQ.val rfl rfl (fun _ hC => (r_load_cells1 (j := 0) hC.sub (hc11.up le17) rfl rfl rfl Tryz.isAgg25)) ?_
        refine OpsQ.val rfl rfl (fun _ _ => (r_mvI rfl)) ?_
        have hr2 : ∃ y, (b.rules)[i]? = some y := ⟨_, List.getElem?_eq_getElem (by omega)⟩
        obtain ⟨r2, hr2⟩ := hr2
        obtain ⟨b27, o28, _, he30, hc29, hr_r2⟩ := Sl.elem (b_f0.up ((le4.trans le10).trans le17)) hr2
        obtain ⟨rfl, ls31, ls32⟩ := hr_r2
        simp only [big] at ls31
        simp only [big] at ls32
        refine OpsQ.val rfl rfl (fun _ _ => (r_index_el he30 rfl rfl (hk := rfl) (hu := Tryz.underlying25) (hz := Tryz.sizeOf70))) ?_
        refine OpsQ.val rfl rfl (fun _ hC => (r_load_call hC.sub hc29 rfl Tryz.isAgg70 Tryz.sizeOf70 rfl)) ?_
        refine OpsQ.val rfl rfl (fun _ _ => (r_stneq rfl rfl Tryz.eqGuardType70 (Tryz.eq_Rule r r2))) ?_
        refine OpsQ.nil ?_
        rintro w33 ⟨h34, s35⟩
        have st36 := st18.call0 s35
        refine Then.norm ?_
        refine W.cond rfl (fun c37 => ?_) (fun c37 => ?_)
        ·
          replace c37 := of_decide_eq_true c37
          refine W.seq ?_
          refine W.region ?_
          refine OpsL.val rfl rfl (r_asB rfl) ?_
          refine OpsL.nil ?_
          refine Then.norm ?_
          refine W.ret ?_
          refine Blk.ret ?_
          refine Then.ret ?_
          refine Then.ret ?_
          refine Blk.ret ?_
          refine Then.ret ?_
          -- return r3
          refine Post.ret1 Tryz.results19 ?_
          refine ⟨h34, _, rfl, st36.done, ?_⟩
          refine bool_eq ?_
          have q : a ≠ b := fun e => ne_of_get hr hr2 (by simpa using c37) (by rw [e])
          simp [q]
        ·
          replace c37 := of_decide_eq_false c37
          refine W.skip ?_
          refine Blk.norm ?_
          refine Then.norm ?_
          refine W.region ?_
          refine OpsL.val rfl rfl (r_mvI rfl) ?_
          refine OpsL.val rfl rfl (r_add rfl rfl (by first | omega | (simp; omega))) ?_
          refine OpsL.val rfl rfl (r_asI rfl) ?_
          refine OpsL.nil ?_
          refine Then.norm ?_
          refine ⟨⟨i + 1, h34⟩, ⟨rfl, trivial⟩, ?_, ⟨(le17.trans s35.le), st36, ?_, ?_⟩, ?_⟩
          · repeat (first | exact Agree.mix _ _ _ | exact Agree.refl _ _ | refine Agree.updO rfl ?_ | refine Agree.upd rfl ?_ | refine Agree.known rfl ?_ | refine Agree.sub rfl ?_)
          · first | omega | (simp; omega)
          · exact eq_take_succ he hr hr2 (by simpa using c37)
          · show a.rules.length - ((i + 1)) < a.rules.length - i
            omega
      ·
        replace c20 := of_decide_eq_false c20
        refine W.exit ?_
        refine Then.exit ?_
        refine Then.exit ?_
        refine Blk.hit ?_
        refine Then.norm ?_
        refine W.seq ?_
        refine W.seq ?_
        refine W.region ?_
        refine OpsL.val rfl rfl (r_asI rfl) ?_
        refine OpsL.nil ?_
        refine Then.norm ?_
        refine W.block ?_
        refine W.loopI [4, 6, 41, 42, 43, 44, 45, 46, 47, 48, 49, 50, 51, 52, 53, 54, 55, 56, 57, 58] (G := Nat × Heap) (fun ⟨k, h38⟩ => [(6, .int .i64 (k : Int))]) (fun ⟨k, h38⟩ w' => Le h16 h38 ∧ St h w h38 w' [] ∧ (k ≤ a.decisions.length) ∧ (a.decisions.take k = b.decisions.take k)) (fun ⟨k, h38⟩ => a.decisions.length - k) ⟨0, h16⟩ ⟨rfl, trivial⟩ ⟨Le.refl _, st18, (by first | omega | simp | trivial), (by first | omega | simp | trivial)⟩ ?_
        rintro ⟨k, h38⟩ _ w41 ⟨le39, st40, hk, hf⟩
        refine W.seq ?_
        refine W.seq ?_
        refine W.region ?_
        refine OpsL.val rfl rfl (r_mvI rfl) ?_
        refine OpsL.val rfl rfl (r_field_addr rfl Tryz.underlying28 rfl Tryz.sizeOf26 rfl) ?_
        refine OpsL.val rfl rfl (r_load_cells1 (j := 1) st40.sub (hc5.up ((le10.trans le17).trans le39)) rfl rfl rfl Tryz.isAgg26) ?_
        refine OpsL.val rfl rfl (r_len (a_f1.up (((le4.trans le10).trans le17).trans le39)) rfl Tryz.underlying26) ?_
        refine OpsL.val rfl rfl (r_lss rfl rfl) ?_
        refine OpsL.nil ?_
        refine Then.norm ?_
        refine W.cond rfl (fun c42 => ?_) (fun c42 => ?_)
        ·
          replace c42 := of_decide_eq_true c42
          refine W.skip ?_
          refine Then.norm ?_
          refine W.seq ?_
          refine W.block ?_
          refine W.seq ?_
          refine W.regionQ Tryz.mixed (by kernel_rfl) (Cls h38 _) (Cls.drew st40) ?_
          refine OpsQ.val rfl rfl (fun _ _ => (r_field_addr rfl Tryz.underlying28 rfl Tryz.sizeOf26 rfl)) ?_
          refine OpsQ.val rfl rfl (fun _ hC => (r_load_cells1 (j := 1) hC.sub (hc5.up ((le10.trans le17).trans le39)) rfl rfl rfl Tryz.isAgg26)) ?_
          refine OpsQ.val rfl rfl (fun _ _ => (r_mvI rfl)) ?_
          have hd : ∃ y, (a.decisions)[k]? = some y := ⟨_, List.getElem?_eq_getElem (by omega)⟩
          obtain ⟨d, hd⟩ := hd
          obtain ⟨b43, o44, _, he46, hc45, hr_d⟩ := Sl.elem (a_f1.up (((le4.trans le10).trans le17).trans le39)) hd
          obtain ⟨rfl, lu47, ls48, ls49, lu50⟩ := hr_d
          simp only [big] at ls48
          simp only [big] at ls49
          refine OpsQ.val rfl rfl (fun _ _ => (r_index_el he46 rfl rfl (hk := rfl) (hu := Tryz.underlying26) (hz := Tryz.sizeOf56))) ?_
          refine OpsQ.val rfl rfl (fun _ hC => (r_load_call hC.sub hc45 rfl Tryz.isAgg56 Tryz.sizeOf56 rfl)) ?_
          refine OpsQ.val rfl rfl (fun _ _ => (r_field_addr rfl Tryz.underlying28 rfl Tryz.sizeOf26 rfl)) ?_
          refine OpsQ.val rfl rfl (fun _ hC => (r_load_cells1 (j := 1) hC.sub (hc11.up (le17.trans le39)) rfl rfl rfl Tryz.isAgg26)) ?_
          refine OpsQ.val rfl rfl (fun _ _ => (r_mvI rfl)) ?_
          have hd2 : ∃ y, (b.decisions)[k]? = some y := ⟨_, List.getElem?_eq_getElem (by omega)⟩
          obtain ⟨d2, hd2⟩ := hd2
          obtain ⟨b51, o52, _, he54, hc53, hr_d2⟩ := Sl.elem (b_f1.up (((le4.trans le10).trans le17).trans le39)) hd2
          obtain ⟨rfl, lu55, ls56, ls57, lu58⟩ := hr_d2
          simp only [big] at ls56
          simp only [big] at ls57
          refine OpsQ.val rfl rfl (fun _ _ => (r_index_el he54 rfl rfl (hk := rfl) (hu := Tryz.underlying26) (hz := Tryz.sizeOf56))) ?_
          refine OpsQ.val rfl rfl (fun _ hC => (r_load_call hC.sub hc53 rfl Tryz.isAgg56 Tryz.sizeOf56 rfl)) ?_
          refine OpsQ.val rfl rfl (fun _ _ => (r_stneq rfl rfl Tryz.eqGuardType56 (Tryz.eq_Decision d d2))) ?_
          refine OpsQ.nil ?_
          rintro w59 ⟨h60, s61⟩
          have st62 := st40.call0 s61
          refine Then.norm ?_
          refine W.cond rfl (fun c63 => ?_) (fun c63 => ?_)
          ·
            replace c63 := of_decide_eq_true c63
            refine W.seq ?_
            refine W.region ?_
            refine OpsL.val rfl rfl (r_asB rfl) ?_
            refine OpsL.nil ?_
            refine Then.norm ?_
            refine W.ret ?_
            refine Blk.ret ?_
            refine Then.ret ?_
            refine Then.ret ?_
            refine Blk.ret ?_
            refine Then.ret ?_
            -- return r4
            refine Post.ret1 Tryz.results19 ?_
            refine ⟨h60, _, rfl, st62.done, ?_⟩
            refine bool_eq ?_
            have q : a ≠ b := fun e => ne_of_get hd hd2 (by simpa using c63) (by rw [e])
            simp [q]
          ·
            replace c63 := of_decide_eq_false c63
            refine W.skip ?_
            refine Blk.norm ?_
            refine Then.norm ?_
            refine W.region ?_
            refine OpsL.val rfl rfl (r_mvI rfl) ?_
            refine OpsL.val rfl rfl (r_add rfl rfl (by first | omega | (simp; omega))) ?_
            refine OpsL.val rfl rfl (r_asI rfl) ?_
            refine OpsL.nil ?_
            refine Then.norm ?_
            refine ⟨⟨k + 1, h60⟩, ⟨rfl, trivial⟩, ?_, ⟨(le39.trans s61.le), st62, ?_, ?_⟩, ?_⟩
            · repeat (first | exact Agree.mix _ _ _ | exact Agree.refl _ _ | refine Agree.updO rfl ?_ | refine Agree.upd rfl ?_ | refine Agree.known rfl ?_ | refine Agree.sub rfl ?_)
            · first | omega | (simp; omega)
            · exact eq_take_succ hf hd hd2 (by simpa using c63)
            · show a.decisions.length - ((k + 1)) < a.decisions.length - k
              omega
        ·
          replace c42 := of_decide_eq_false c42
          refine W.exit ?_
          refine Then.exit ?_
          refine Then.exit ?_
          refine Blk.hit ?_
          refine Then.norm ?_
          refine W.seq ?_
          refine W.region ?_
          refine OpsL.val rfl rfl (r_asB rfl) ?_
          refine OpsL.nil ?_
          refine Then.norm ?_
          refine W.ret ?_
          -- return r5
          refine Post.ret1 Tryz.results19 ?_
          refine ⟨h38, _, rfl, st40.done, ?_⟩
          refine bool_eq ?_
          have q1 := eq_of_take he (by omega) (by omega)
          have q2 := eq_of_take hf (by omega) (by omega)
          rcases a with ⟨a1, a2⟩; rcases b with ⟨b1, b2⟩
          simp_all
set_option maxRecDepth 4000 in
theorem c_postillaw04_sameInts {h : Heap} {w : World} (hs : Sub h w) {a_v : Value} {a : (List Int)} (a_f : Sl LInt h a_v a) {b_v : Value} {b : (List Int)} (b_f : Sl LInt h b_v b) : Calls Tryz.prog 17 #[a_v, b_v] w (Rets h w (fun _ _ res_ => res_ = .bool (decide (a = b)))) := by
  refine W.calls (n := 26) (args := [a_v, b_v]) Tryz.func17 rfl rfl rfl ?_
  have st0 : St h w h w [] := St.start hs
  have a_f_b := a_f.le
  have b_f_b := b_f.le
  refine W.seq ?_
  refine W.region ?_
  refine OpsL.val rfl rfl (r_asB rfl) ?_
  refine OpsL.nil ?_
  refine Then.norm ?_
  refine W.seq ?_
  refine W.seq ?_
  refine W.region ?_
  refine OpsL.val rfl rfl (r_move (v := a_v) rfl) ?_
  refine OpsL.val rfl rfl (r_len a_f rfl Tryz.underlying39) ?_
  refine OpsL.val rfl rfl (r_move (v := b_v) rfl) ?_
  refine OpsL.val rfl rfl (r_len b_f rfl Tryz.underlying39) ?_
  refine OpsL.val rfl rfl (r_neq rfl rfl) ?_
  refine OpsL.nil ?_
  refine Then.norm ?_
  refine W.cond rfl (fun c1 => ?_) (fun c1 => ?_)
  ·
    replace c1 := of_decide_eq_true c1
    refine W.seq ?_
    refine W.region ?_
    refine OpsL.val rfl rfl (r_asB rfl) ?_
    refine OpsL.nil ?_
    refine Then.norm ?_
    refine W.ret ?_
    refine Then.ret ?_
    -- return r1
    refine Post.ret1 Tryz.results17 ?_
    refine ⟨h, _, rfl, st0.done, ?_⟩
    refine bool_eq ?_
    have q : a ≠ b := by
      rintro rfl
      simp_all
    simp [q]
  ·
    replace c1 := of_decide_eq_false c1
    refine W.skip ?_
    refine Then.norm ?_
    refine W.seq ?_
    refine W.seq ?_
    refine W.region ?_
    refine OpsL.val rfl rfl (r_move (v := a_v) rfl) ?_
    refine OpsL.val rfl rfl (r_len a_f rfl Tryz.underlying39) ?_
    refine OpsL.val rfl rfl (r_mvI rfl) ?_
    refine OpsL.nil ?_
    refine Then.norm ?_
    refine W.block ?_
    refine W.loopI [4, 5, 13, 14, 15, 16, 17, 18, 19, 20, 21, 22, 23, 24, 25] (G := Nat × Heap) (fun ⟨k, h2⟩ => [(13, .int .i64 (k : Int))]) (fun ⟨k, h2⟩ w' => Le h h2 ∧ St h w h2 w' [] ∧ (k ≤ a.length) ∧ (a.take k = b.take k)) (fun ⟨k, h2⟩ => a.length - k) ⟨0, h⟩ ⟨rfl, trivial⟩ ⟨Le.refl _, st0, (by first | omega | simp | trivial), (by first | omega | simp | trivial)⟩ ?_
    rintro ⟨k, h2⟩ _ w5 ⟨le3, st4, hk, he⟩
    refine W.seq ?_
    refine W.region ?_
    refine OpsL.val rfl rfl (r_lss rfl rfl) ?_
    refine OpsL.nil ?_
    refine Then.norm ?_
    refine W.seq ?_
    refine W.cond rfl (fun c6 => ?_) (fun c6 => ?_)
    ·
      replace c6 := of_decide_eq_true c6
      refine W.skip ?_
      refine Then.norm ?_
      refine W.seq ?_
      refine W.block ?_
      refine W.seq ?_
      refine W.region ?_
      refine OpsL.val rfl rfl (r_mvI rfl) ?_
      refine OpsL.val rfl rfl (r_asI rfl) ?_
      refine OpsL.nil ?_
      refine Then.norm ?_
      refine W.seq ?_
      refine W.regionQ Tryz.mixed (by kernel_rfl) (Cls h2 _) (Cls.drew st4) ?_
      refine OpsQ.val rfl rfl (fun _ _ => (r_move (v := a_v) rfl)) ?_
      refine OpsQ.val rfl rfl (fun _ _ => (r_mvI rfl)) ?_
      have hx : ∃ y, (a)[k]? = some y := ⟨_, List.getElem?_eq_getElem (by omega)⟩
      obtain ⟨x, hx⟩ := hx
      obtain ⟨b7, o8, _, he10, hc9, hr_x⟩ := Sl.elem (a_f.up le3) hx
      obtain rfl := hr_x
      refine OpsQ.val rfl rfl (fun _ _ => (r_index_el he10 rfl rfl (hk := rfl) (hu := Tryz.underlying39) (hz := Tryz.sizeOf3))) ?_
      refine OpsQ.val rfl rfl (fun _ hC => (r_load_cells1 (j := 0) hC.sub hc9 rfl rfl rfl Tryz.isAgg3)) ?_
      refine OpsQ.val rfl rfl (fun _ _ => (r_move (v := b_v) rfl)) ?_
      refine OpsQ.val rfl rfl (fun _ _ => (r_mvI rfl)) ?_
      have hy : ∃ y, (b)[k]? = some y := ⟨_, List.getElem?_eq_getElem (by omega)⟩
      obtain ⟨y, hy⟩ := hy
      obtain ⟨b11, o12, _, he14, hc13, hr_y⟩ := Sl.elem (b_f.up le3) hy
      obtain rfl := hr_y
      refine OpsQ.val rfl rfl (fun _ _ => (r_index_el he14 rfl rfl (hk := rfl) (hu := Tryz.underlying39) (hz := Tryz.sizeOf3))) ?_
      refine OpsQ.val rfl rfl (fun _ hC => (r_load_cells1 (j := 0) hC.sub hc13 rfl rfl rfl Tryz.isAgg3)) ?_
      refine OpsQ.val rfl rfl (fun _ _ => (r_neq rfl rfl)) ?_
      refine OpsQ.nil ?_
      rintro w15 ⟨h16, s17⟩
      have st18 := st4.call0 s17
      refine Then.norm ?_
      refine W.cond rfl (fun c19 => ?_) (fun c19 => ?_)
      ·
        replace c19 := of_decide_eq_true c19
        refine W.seq ?_
        refine W.region ?_
        refine OpsL.val rfl rfl (r_asB rfl) ?_
        refine OpsL.nil ?_
        refine Then.norm ?_
        refine W.ret ?_
        refine Blk.ret ?_
        refine Then.ret ?_
        refine Then.ret ?_
        refine Blk.ret ?_
        refine Then.ret ?_
        -- return r2
        refine Post.ret1 Tryz.results17 ?_
        refine ⟨h16, _, rfl, st18.done, ?_⟩
        refine bool_eq ?_
        have q := ne_of_get hx hy (by simpa using c19)
        simp [q]
      ·
        replace c19 := of_decide_eq_false c19
        refine W.skip ?_
        refine Blk.norm ?_
        refine Then.norm ?_
        refine W.region ?_
        refine OpsL.val rfl rfl (r_add rfl rfl (by first | omega | (simp; omega))) ?_
        refine OpsL.val rfl rfl (r_mvI rfl) ?_
        refine OpsL.nil ?_
        refine Then.norm ?_
        refine ⟨⟨k + 1, h16⟩, ⟨rfl, trivial⟩, ?_, ⟨(le3.trans s17.le), st18, ?_, ?_⟩, ?_⟩
        · repeat (first | exact Agree.mix _ _ _ | exact Agree.refl _ _ | refine Agree.updO rfl ?_ | refine Agree.upd rfl ?_ | refine Agree.known rfl ?_ | refine Agree.sub rfl ?_)
        · first | omega | (simp; omega)
        · exact eq_take_succ he hx hy (by simpa using c19)
        · show a.length - ((k + 1)) < a.length - k
          omega
    ·
      replace c6 := of_decide_eq_false c6
      refine W.exit ?_
      refine Then.exit ?_
      refine Then.exit ?_
      refine Blk.hit ?_
      refine Then.norm ?_
      refine W.seq ?_
      refine W.region ?_
      refine OpsL.val rfl rfl (r_asB rfl) ?_
      refine OpsL.nil ?_
      refine Then.norm ?_
      refine W.ret ?_
      -- return r3
      refine Post.ret1 Tryz.results17 ?_
      refine ⟨h2, _, rfl, st4.done, ?_⟩
      refine bool_eq ?_
      have q := eq_of_take he (by omega) (by omega)
      simp [q]
end Go.Pk
