/- A PART OF THE PROOF (printed by a program of the author's own): contracts of functions, each walked once. -/
import Derived.Test.YtngmpkoobdkeiaaGreatDoorA19
namespace Go.Pk
open Go Go.RowKit Go.Proofs
set_option maxRecDepth 4000 in
theorem c_postilref01_Twin {h : Heap} {w : World} (hs : Sub h w) {t : Text} {t_v0 : Value} (t_f0 : Sl LChapter h t_v0 t.chapters) (hsm : smallT t = true) : Calls Tryz.prog 8 #[.agg #[t_v0]] w (Rets h w (fun h' _ res_ => ∃ u0, res_ = .agg #[u0] ∧ Sl LChapter h' u0 (t).chapters)) := by
  refine W.calls (n := 55) (args := [.agg #[t_v0]]) Tryz.func8 rfl rfl rfl ?_
  have st0 : St h w h w [] := St.start hs
  have t_f0_b := t_f0.le
  refine W.seq ?_
  refine W.region ?_
  refine OpsL.boxF st0 (cs := [t_v0]) rfl rfl rfl ?_
  intro b1 w2 h3 le4 hc5 st6
  refine OpsL.allocO st6 Tryz.zeroValue24 rfl rfl ?_
  intro b7 w8 st9
  refine OpsL.nil ?_
  refine Then.norm ?_
  refine W.seq ?_
  refine W.region ?_
  refine OpsL.allocO st9 Tryz.zeroValue24 rfl rfl ?_
  intro b10 w11 st12
  refine OpsL.nil ?_
  refine Then.norm ?_
  refine W.seq ?_
  refine W.seq ?_
  refine W.region ?_
  refine OpsL.val rfl rfl (r_asI rfl) ?_
  refine OpsL.nil ?_
  refine Then.norm ?_
  refine W.block ?_
  have st16 := st12.snoc
  have f17 := OSl.nil LChapter 93 h3
  refine W.loopI [4, 5, 6, 7, 8, 9, 10, 11, 12, 13, 14, 15, 16, 17, 18, 19, 20, 21, 22, 23, 24, 25, 26, 27, 28, 29, 30, 31, 32, 33, 34, 35, 36, 37, 38, 39, 40, 41, 42, 43, 44, 45, 46, 47, 48, 49, 50, 51, 52, 53] (G := Nat × Value × List (Nat × Obj) × Heap) (fun ⟨i, v_c1_0, o_c1_0, h13⟩ => [(4, .int .i64 (i : Int))]) (fun ⟨i, v_c1_0, o_c1_0, h13⟩ w' => Le h3 h13 ∧ St h w h13 w' [[(b7, .cells (List.toArray [(.slice none 0 0)]) 24)], [(b10, .cells (List.toArray [v_c1_0]) 24)], o_c1_0] ∧ (OSl LChapter 93 h13 v_c1_0 (t.chapters.take i) o_c1_0) ∧ (i ≤ t.chapters.length)) (fun ⟨i, v_c1_0, o_c1_0, h13⟩ => t.chapters.length - i) ⟨0, (.slice none 0 0), [], h3⟩ ⟨rfl, trivial⟩ ⟨Le.refl _, st16, (OSl.to f17 (by simp)), (by first | omega | simp | trivial)⟩ ?_
  rintro ⟨i, v_c1_0, o_c1_0, h13⟩ _ w18 ⟨le14, st15, hO_c1_0, hi⟩
  refine W.seq ?_
  refine W.seq ?_
  refine W.region ?_
  refine OpsL.val rfl rfl (r_mvI rfl) ?_
  refine OpsL.val rfl rfl (r_field_addr rfl Tryz.underlying24 rfl Tryz.sizeOf22 rfl) ?_
  refine OpsL.val rfl rfl (r_load_cells1 (j := 0) st15.sub (hc5.up le14) rfl rfl rfl Tryz.isAgg22) ?_
  refine OpsL.val rfl rfl (r_len (t_f0.up (le4.trans le14)) rfl Tryz.underlying22) ?_
  refine OpsL.val rfl rfl (r_lss rfl rfl) ?_
  refine OpsL.nil ?_
  refine Then.norm ?_
  refine W.cond rfl (fun c19 => ?_) (fun c19 => ?_)
  ·
    replace c19 := of_decide_eq_true c19
    refine W.skip ?_
    refine Then.norm ?_
    refine W.seq ?_
    refine W.block ?_
    refine W.seq ?_
    refine W.region ?_
    refine OpsL.val rfl rfl (r_field_addr rfl Tryz.underlying24 rfl Tryz.sizeOf22 rfl) ?_
    refine OpsL.val rfl rfl (r_load_cells1 (j := 0) st15.sub (hc5.up le14) rfl rfl rfl Tryz.isAgg22) ?_
    refine OpsL.val rfl rfl (r_mvI rfl) ?_
    have hc : ∃ y, (t.chapters)[i]? = some y := ⟨_, List.getElem?_eq_getElem (by omega)⟩
    obtain ⟨c, hc⟩ := hc
    obtain ⟨b20, o21, _, he23, hc22, hr_c⟩ := Sl.elem (t_f0.up (le4.trans le14)) hc
    obtain ⟨v24, rfl, f25⟩ := hr_c
    have f25_b := f25.le
    refine OpsL.val rfl rfl (r_index_el he23 rfl rfl (hk := rfl) (hu := Tryz.underlying22) (hz := Tryz.sizeOf93)) ?_
    have hcl := smallT_c hsm hc
    have htl := smallT_len hsm
    refine OpsL.val rfl rfl (r_field_addr rfl Tryz.underlying93 rfl Tryz.sizeOf3 rfl) ?_
    refine OpsL.val rfl rfl (r_load_cells1 (j := 0) st15.sub hc22 rfl rfl rfl Tryz.isAgg3) ?_
    refine OpsL.val rfl rfl (r_build (cs := [.int .i64 (c.id), (.slice none 0 0)]) (by kernel_rfl)) ?_
    refine OpsL.allocO st15 Tryz.zeroValue93 rfl rfl ?_
    intro b26 w27 st28
    refine OpsL.storeN st28 (k := 3) rfl rfl rfl (one_cons rfl (one_cons rfl one_nil)) Tryz.sizeOf93 rfl rfl rfl ?_
    intro w29 st30
    refine OpsL.nil ?_
    refine Then.norm ?_
    refine W.seq ?_
    refine W.seq ?_
    refine W.region ?_
    refine OpsL.val rfl rfl (r_asI rfl) ?_
    refine OpsL.nil ?_
    refine Then.norm ?_
    refine W.block ?_
    have st34 := st30.snoc
    have f35 := OSl.nil (LSl LStr) 33 h13
    refine W.loopI [6, 21, 22, 23, 24, 25, 26, 27, 28, 29, 30, 31, 32, 33, 34, 35, 36, 37, 38, 39, 40, 41, 42, 43, 44, 45, 46, 47] (G := Nat × Value × List (Nat × Obj) × Heap) (fun ⟨n, v_c3_1, o_c3_1, h31⟩ => [(6, .int .i64 (n : Int))]) (fun ⟨n, v_c3_1, o_c3_1, h31⟩ w' => Le h13 h31 ∧ St h w h31 w' [[(b7, .cells (List.toArray [(.slice none 0 0)]) 24)], [(b10, .cells (List.toArray [v_c1_0]) 24)], o_c1_0, [(b26, .cells (List.toArray [.int .i64 (c.id), v_c3_1]) 93)], o_c3_1] ∧ (OSl (LSl LStr) 33 h31 v_c3_1 (c.lines.take n) o_c3_1) ∧ (n ≤ c.lines.length)) (fun ⟨n, v_c3_1, o_c3_1, h31⟩ => c.lines.length - n) ⟨0, (.slice none 0 0), [], h13⟩ ⟨rfl, trivial⟩ ⟨Le.refl _, st34, (OSl.to f35 (by simp)), (by first | omega | simp | trivial)⟩ ?_
    rintro ⟨n, v_c3_1, o_c3_1, h31⟩ _ w36 ⟨le32, st33, hO_c3_1, hn⟩
    refine W.seq ?_
    refine W.seq ?_
    refine W.region ?_
    refine OpsL.val rfl rfl (r_mvI rfl) ?_
    refine OpsL.val rfl rfl (r_field_addr rfl Tryz.underlying24 rfl Tryz.sizeOf22 rfl) ?_
    refine OpsL.val rfl rfl (r_load_cells1 (j := 0) st33.sub (hc5.up (le14.trans le32)) rfl rfl rfl Tryz.isAgg22) ?_
    refine OpsL.val rfl rfl (r_mvI rfl) ?_
    refine OpsL.val rfl rfl (r_index_el he23 rfl rfl (hk := rfl) (hu := Tryz.underlying22) (hz := Tryz.sizeOf93)) ?_
    refine OpsL.val rfl rfl (r_field_addr rfl Tryz.underlying93 rfl Tryz.sizeOf91 rfl) ?_
    refine OpsL.val rfl rfl (r_load_cells1 (j := 1) st33.sub (hc22.up le32) rfl rfl rfl Tryz.isAgg91) ?_
    refine OpsL.val rfl rfl (r_len (f25.up le32) rfl Tryz.underlying91) ?_
    refine OpsL.val rfl rfl (r_lss rfl rfl) ?_
    refine OpsL.nil ?_
    refine Then.norm ?_
    refine W.cond rfl (fun c37 => ?_) (fun c37 => ?_)
    ·
      replace c37 := of_decide_eq_true c37
      refine W.skip ?_
      refine Then.norm ?_
      refine W.seq ?_
      refine W.block ?_
      have hln : ∃ y, (c.lines)[n]? = some y := ⟨_, List.getElem?_eq_getElem (by omega)⟩
      obtain ⟨ln, hln⟩ := hln
      obtain ⟨b38, o39, _, he41, hc40, hr_ln⟩ := Sl.elem (f25.up le32) hln
      obtain ⟨v42, rfl, f43⟩ := hr_ln
      have f43_b := f43.le
      have hll := smallT_l hsm hc hln
      refine W.regionR (er := [1]) (dsts := [32, 33, 34, 35, 36, 37, 38, 39, 40, 41, 42, 43, 44, 45, 46, 47]) st33 Tryz.mixed ?_
      refine Drw.det' 0 [] rfl (by kernel_rfl) (by kernel_rfl) rfl rfl (fun hD wD τD hL hS hO  => (r_field_addr rfl Tryz.underlying93 rfl Tryz.sizeOf91 rfl)) ?_
      refine Drw.det' 1 [0] rfl (by kernel_rfl) (by kernel_rfl) rfl rfl (fun hD wD τD hL hS hO _ _ => (r_load_b1 ((hO rfl).get (k := 3) rfl) rfl rfl Tryz.isAgg91)) ?_
      refine Drw.flt' 2 (.res (fun _ res_ => ∃ p, res_ = .slice p 0 0) (fun _ _ _ _ f => f)) [] rfl (by kernel_rfl) (by kernel_rfl) ?_ ?_
      ·
        intro hD wD τD hL hS hO 
        have st44 := St.start hS
        refine OpsL.sliceZ st44 rfl ⟨_, Tryz.sizeOf9⟩ Tryz.underlying33 ?_
        intro v45 w46 f47 st48
        exact OpsL.nil ⟨_, _, rfl, st48, _, rfl, f47⟩
      refine Drw.det' 3 [] rfl (by kernel_rfl) (by kernel_rfl) rfl rfl (fun hD wD τD hL hS hO  => (r_field_addr rfl Tryz.underlying24 rfl Tryz.sizeOf22 rfl)) ?_
      refine Drw.det' 4 [0] rfl (by kernel_rfl) (by kernel_rfl) rfl rfl (fun hD wD τD hL hS hO _ _ => (r_load_cells1 (j := 0) (hL.sub hS) (hc5.up (le14.trans le32)) rfl rfl rfl Tryz.isAgg22)) ?_
      refine Drw.det' 5 [] rfl (by kernel_rfl) (by kernel_rfl) rfl rfl (fun hD wD τD hL hS hO  => (r_mvI rfl)) ?_
      refine Drw.det' 6 [1, 0] rfl (by kernel_rfl) (by kernel_rfl) rfl rfl (fun hD wD τD hL hS hO _ _ _ _ => (r_index_el he23 rfl rfl (hk := rfl) (hu := Tryz.underlying22) (hz := Tryz.sizeOf93))) ?_
      refine Drw.det' 7 [0] rfl (by kernel_rfl) (by kernel_rfl) rfl rfl (fun hD wD τD hL hS hO _ _ => (r_field_addr rfl Tryz.underlying93 rfl Tryz.sizeOf91 rfl)) ?_
      refine Drw.det' 8 [0] rfl (by kernel_rfl) (by kernel_rfl) rfl rfl (fun hD wD τD hL hS hO _ _ => (r_load_cells1 (j := 1) (hL.sub hS) (hc22.up le32) rfl rfl rfl Tryz.isAgg91)) ?_
      refine Drw.det' 9 [] rfl (by kernel_rfl) (by kernel_rfl) rfl rfl (fun hD wD τD hL hS hO  => (r_mvI rfl)) ?_
      refine Drw.det' 10 [1, 0] rfl (by kernel_rfl) (by kernel_rfl) rfl rfl (fun hD wD τD hL hS hO _ _ _ _ => (r_index_el he41 rfl rfl (hk := rfl) (hu := Tryz.underlying91) (hz := Tryz.sizeOf33))) ?_
      refine Drw.det' 11 [0] rfl (by kernel_rfl) (by kernel_rfl) rfl rfl (fun hD wD τD hL hS hO _ _ => (r_load_cells1 (j := 0) (hL.sub hS) hc40 rfl rfl rfl Tryz.isAgg33)) ?_
      refine Drw.flt' 12 (.res (fun h' res_ => Sl LStr h' res_ ln) (fun _ _ _ hl f => f.up hl)) [9, 0] rfl (by kernel_rfl) (by kernel_rfl) ?_ ?_
      ·
        intro hD wD τD hL hS hO gv2_ gf2_ _ _
        have st49 := St.start hS
        have st50 := st49.snoc
        have f51 := OSl.nil LStr 9 hD
        have f52 := OSl.nil0 LStr 9 hD gf2_
        refine OpsL.append (k := 0) (nb := 16) st50 f52 rfl (f43.up hL) rfl rfl rfl Tryz.underlying33 Tryz.info9 rfl rfl rfl (by decide) rfl (by simp only [List.length_take, List.length_append, List.length_cons, List.length_nil]; omega) (by simp only [List.length_take, List.length_append, List.length_cons, List.length_nil]; omega) ?_
        intro v53 o54 w55 _ e56 f57 st58
        subst e56
        obtain ⟨h59, le60, f61, st62⟩ := OSl.freeze (k := 0) st58 f57 rfl (by simp only [List.length_take, List.length_append, List.length_cons, List.length_nil]; omega)
        exact OpsL.nil ⟨_, _, rfl, st62.done, _, rfl, f61⟩
      refine Drw.flt' 13 (.res (fun h' res_ => Sl (LSl LStr) h' res_ ([ln])) (fun _ _ _ hl f => f.up hl)) [0] rfl (by kernel_rfl) (by kernel_rfl) ?_ ?_
      ·
        intro hD wD τD hL hS hO gv12_0 gf12_0
        have st63 := St.start hS
        refine OpsL.sliceF (L := (LSl LStr)) (xs := [ln]) (cs := [gv12_0]) st63 (Enc.cons (L := (LSl LStr)) (vs := [gv12_0]) (x := ln) (h := hD) (⟨_, rfl, gf12_0⟩) Enc.nil) rfl rfl rfl Tryz.underlying91 Tryz.info33 rfl rfl rfl (by obtain ⟨_, _, rfl⟩ := Sl.form gf12_0; kernel_rfl) ?_
        intro v64 w65 h68 le69 f66 st67
        exact OpsL.nil ⟨_, _, rfl, st67, _, rfl, f66⟩
      refine Drw.ch ?_
      refine Drw.det' 15 [14, 13, 12, 11, 10, 9, 8, 7, 6, 5, 4, 3, 2, 1, 0] rfl (by kernel_rfl) (by kernel_rfl) rfl rfl (fun hD wD τD hL hS hO _ _ _ _ gv2_ gf2_ _ _ _ _ _ _ _ _ _ _ _ _ _ _ _ _ _ _ gv12_0 gf12_0 gv13_0 gf13_0 => (r_field_addr rfl Tryz.underlying93 rfl Tryz.sizeOf91 rfl)) ?_
      refine Drw.ch ?_
      refine Drw.nil rfl rfl rfl ⟨by kernel_rfl, rfl, by kernel_rfl, rfl, by kernel_rfl, rfl, (cx_cons rfl (cx_cons rfl cx_nil))⟩ ?_
      intro hE71 w72 _ le73 st74 _ _ gv13_0x70 gf13_0x70 gv12_0x70 gf12_0x70
      refine OpsL.append (k := 4) (nb := 24) st74 (hO_c3_1.up le73) rfl gf13_0x70 rfl rfl rfl Tryz.underlying91 Tryz.info33 rfl rfl rfl (by decide) rfl (by simp only [List.length_take, List.length_append, List.length_cons, List.length_nil]; omega) (by simp only [List.length_take, List.length_append, List.length_cons, List.length_nil]; omega) ?_
      intro v75 o76 w77 _ e78 f79 st80
      subst e78
      refine OpsL.nil ⟨_, rfl, _, _, Le.refl _, st80, ?_⟩
      intro hE82 w83 _ le84 st85 _ _ _ _ _ _ gv2_x81 gf2_x81 _ _ _ _ _ _ _ _ _ _ _ _ _ _ _ _ _ _ gv12_0x81 gf12_0x81 gv13_0x81 gf13_0x81
      refine OpsL.store1 st85 (k := 3) rfl rfl (v := v75) rfl f79.one Tryz.sizeOf91 rfl rfl rfl ?_
      intro w86 st87
      refine OpsL.nil ⟨undef, rfl, _, _, Le.refl _, st87, ?_⟩
      intro hE88 w89 _ le90 st91 _ _ _ _ gv2_x92 gf2_x92 _ _ _ _ _ _ _ _ _ _ _ _ _ _ _ _ _ _ gv12_0x92 gf12_0x92 gv13_0x92 gf13_0x92 _ _
      refine AllDeps.fin rfl ?_
      refine Blk.norm ?_
      refine Then.norm ?_
      refine W.region ?_
      refine OpsL.val rfl rfl (r_mvI rfl) ?_
      refine OpsL.val rfl rfl (r_add rfl rfl (by first | omega | (simp; omega))) ?_
      refine OpsL.val rfl rfl (r_asI rfl) ?_
      refine OpsL.nil ?_
      refine Then.norm ?_
      refine ⟨⟨n + 1, v75, o76, hE88⟩, ⟨rfl, trivial⟩, ?_, ⟨(((le32.trans le73).trans le84).trans le90), st91, ?_, ?_⟩, ?_⟩
      · repeat (first | exact Agree.mix _ _ _ | exact Agree.refl _ _ | refine Agree.updO rfl ?_ | refine Agree.upd rfl ?_ | refine Agree.known rfl ?_ | refine Agree.sub rfl ?_)
      · refine OSl.to (f79.up (le84.trans le90)) ?_
        rw [take_snoc hln]
      · first | omega | (simp; omega)
      · show c.lines.length - ((n + 1)) < c.lines.length - n
        omega
    ·
      replace c37 := of_decide_eq_false c37
      refine W.exit ?_
      refine Then.exit ?_
      refine Then.exit ?_
      refine Blk.hit ?_
      refine Then.norm ?_
      refine W.region ?_
      refine OpsL.val rfl rfl (r_field_addr rfl Tryz.underlying24 rfl Tryz.sizeOf22 rfl) ?_
      refine OpsL.val rfl rfl (r_load_b1 (st33.get (k := 1) rfl) rfl rfl Tryz.isAgg22) ?_
      refine OpsL.val rfl rfl (r_load_ball (st33.get (k := 3) rfl) rfl Tryz.isAgg93 Tryz.sizeOf93 rfl) ?_
      obtain ⟨h93, le94, f95, st96⟩ := OSl.freeze (k := 4) st33 hO_c3_1 rfl (by simp only [List.length_take, List.length_append, List.length_cons, List.length_nil]; omega)
      refine OpsL.sliceF (L := LChapter) (xs := [(Chapter.mk (c.id) (c.lines.take n))]) (cs := [.int .i64 (c.id), v_c3_1]) st96 (Enc.cons (L := LChapter) (vs := [.int .i64 (c.id), v_c3_1]) (x := (Chapter.mk (c.id) (c.lines.take n))) (h := h93) (⟨_, rfl, f95⟩) Enc.nil) rfl rfl rfl Tryz.underlying22 Tryz.info93 rfl rfl rfl (by kernel_rfl) ?_
      intro v97 w98 h101 le102 f99 st100
      refine OpsL.append (k := 2) (nb := 32) st100 (hO_c1_0.up ((le32.trans le94).trans le102)) rfl f99 rfl rfl rfl Tryz.underlying22 Tryz.info93 rfl rfl rfl (by decide) rfl (by simp only [List.length_take, List.length_append, List.length_cons, List.length_nil]; omega) (by simp only [List.length_take, List.length_append, List.length_cons, List.length_nil]; omega) ?_
      intro v103 o104 w105 _ e106 f107 st108
      subst e106
      refine OpsL.val rfl rfl (r_field_addr rfl Tryz.underlying24 rfl Tryz.sizeOf22 rfl) ?_
      refine OpsL.store1 st108 (k := 1) rfl rfl (v := v103) rfl f107.one Tryz.sizeOf22 rfl rfl rfl ?_
      intro w109 st110
      refine OpsL.nil ?_
      refine Blk.norm ?_
      refine Then.norm ?_
      refine W.region ?_
      refine OpsL.val rfl rfl (r_mvI rfl) ?_
      refine OpsL.val rfl rfl (r_add rfl rfl (by first | omega | (simp; omega))) ?_
      refine OpsL.val rfl rfl (r_asI rfl) ?_
      refine OpsL.nil ?_
      refine Then.norm ?_
      refine ⟨⟨i + 1, v103, o104, h101⟩, ⟨rfl, trivial⟩, ?_, ⟨(((le14.trans le32).trans le94).trans le102), st110.take 3, ?_, ?_⟩, ?_⟩
      · repeat (first | exact Agree.mix _ _ _ | exact Agree.refl _ _ | refine Agree.updO rfl ?_ | refine Agree.upd rfl ?_ | refine Agree.known rfl ?_ | refine Agree.sub rfl ?_)
      · refine OSl.to f107 ?_
        rw [take_snoc hc, List.take_of_length_le (show c.lines.length ≤ n by omega)]
      · first | omega | (simp; omega)
      · show t.chapters.length - ((i + 1)) < t.chapters.length - i
        omega
  ·
    replace c19 := of_decide_eq_false c19
    refine W.exit ?_
    refine Then.exit ?_
    refine Then.exit ?_
    refine Blk.hit ?_
    refine Then.norm ?_
    refine W.seq ?_
    refine W.region ?_
    refine OpsL.val rfl rfl (r_load_ball (st15.get (k := 1) rfl) rfl Tryz.isAgg24 Tryz.sizeOf24 rfl) ?_
    refine OpsL.storeN st15 (k := 0) rfl rfl rfl (one_cons hO_c1_0.one one_nil) Tryz.sizeOf24 rfl rfl rfl ?_
    intro w111 st112
    obtain ⟨h113, le114, hb115, st117⟩ := st112.freeze (k := 0) rfl
    have hc116 := Cells.of hb115
    refine OpsL.nil ?_
    refine Then.norm ?_
    refine W.ret ?_
    -- return r1
    refine Post.retcellF Tryz.results8 rfl Tryz.isAgg24 Tryz.sizeOf24 rfl st117.sub hc116 ?_
    obtain ⟨h118, le119, f120, st121⟩ := OSl.freeze (k := 2) st117 (hO_c1_0.up le114) rfl (by simp only [List.length_take, List.length_append, List.length_cons, List.length_nil]; omega)
    refine ⟨h118, _, rfl, st121.done, ?_⟩
    refine ⟨_, ?_, Sl.to f120 ?_⟩
    · rfl
    · rw [List.take_of_length_le (by omega)]
set_option maxRecDepth 4000 in
theorem c_postilref04_Twin {h : Heap} {w : World} (hs : Sub h w) {x : Lexicon} {x_v0 : Value} (x_f0 : Sl LRule h x_v0 x.rules) {x_v1 : Value} (x_f1 : Sl LDecision h x_v1 x.decisions) (hsm : smallX x = true) : Calls Tryz.prog 9 #[.agg #[x_v0, x_v1]] w (Rets h w (fun h' _ res_ => ∃ u0 u1, res_ = .agg #[u0, u1] ∧ Sl LRule h' u0 (x).rules ∧ Sl LDecision h' u1 (x).decisions)) := by
  refine W.calls (n := 14) (args := [.agg #[x_v0, x_v1]]) Tryz.func9 rfl rfl rfl ?_
  have st0 : St h w h w [] := St.start hs
  have x_f0_b := x_f0.le
  have x_f1_b := x_f1.le
  refine W.seq ?_
  refine W.region ?_
  refine OpsL.boxO st0 (cs := [x_v0, x_v1]) rfl rfl rfl ?_
  intro b1 w2 st3
  refine OpsL.allocO st3 Tryz.zeroValue28 rfl rfl ?_
  intro b4 w5 st6
  refine OpsL.nil ?_
  refine Then.norm ?_
  refine W.seq ?_
  refine W.region ?_
  refine OpsL.sliceE (L := LRule) st6 rfl ⟨_, Tryz.sizeOf70⟩ Tryz.underlying25 ?_
  intro v7 o8 w9 f10 st11
  refine OpsL.val rfl rfl (r_field_addr rfl Tryz.underlying28 rfl Tryz.sizeOf25 rfl) ?_
  refine OpsL.val rfl rfl (r_load_b1 (st11.get (k := 0) rfl) rfl rfl Tryz.isAgg25) ?_
  have hln := smallX_len hsm
  refine OpsL.append (k := 2) (nb := 40) st11 f10 rfl x_f0 rfl rfl rfl Tryz.underlying25 Tryz.info70 rfl rfl rfl (by decide) rfl (by simp only [List.length_nil, List.nil_append]; omega) (by simp only [List.length_nil, List.nil_append]; omega) ?_
  intro v12 o13 w14 _ e15 f16 st17
  subst e15
  refine OpsL.val rfl rfl (r_field_addr rfl Tryz.underlying28 rfl Tryz.sizeOf25 rfl) ?_
  refine OpsL.store1 st17 (k := 0) rfl rfl (v := v12) rfl f16.one Tryz.sizeOf25 rfl rfl rfl ?_
  intro w18 st19
  refine OpsL.nil ?_
  refine Then.norm ?_
  refine W.seq ?_
  refine W.region ?_
  refine OpsL.sliceE (L := LDecision) st19 rfl ⟨_, Tryz.sizeOf56⟩ Tryz.underlying26 ?_
  intro v20 o21 w22 f23 st24
  refine OpsL.val rfl rfl (r_field_addr rfl Tryz.underlying28 rfl Tryz.sizeOf26 rfl) ?_
  refine OpsL.val rfl rfl (r_load_b1 (st24.get (k := 0) rfl) rfl rfl Tryz.isAgg26) ?_
  refine OpsL.append (k := 3) (nb := 88) st24 f23 rfl x_f1 rfl rfl rfl Tryz.underlying26 Tryz.info56 rfl rfl rfl (by decide) rfl (by simp only [List.length_nil, List.nil_append]; omega) (by simp only [List.length_nil, List.nil_append]; omega) ?_
  intro v25 o26 w27 _ e28 f29 st30
  subst e28
  refine OpsL.val rfl rfl (r_field_addr rfl Tryz.underlying28 rfl Tryz.sizeOf26 rfl) ?_
  refine OpsL.store1 st30 (k := 0) rfl rfl (v := v25) rfl f29.one Tryz.sizeOf26 rfl rfl rfl ?_
  intro w31 st32
  refine OpsL.nil ?_
  refine Then.norm ?_
  refine W.seq ?_
  refine W.region ?_
  refine OpsL.val rfl rfl (r_load_ball (st32.get (k := 0) rfl) rfl Tryz.isAgg28 Tryz.sizeOf28 rfl) ?_
  refine OpsL.storeN st32 (k := 1) rfl rfl rfl (one_cons f16.one (one_cons f29.one one_nil)) Tryz.sizeOf28 rfl rfl rfl ?_
  intro w33 st34
  obtain ⟨h35, le36, hb37, st39⟩ := st34.freeze (k := 1) rfl
  have hc38 := Cells.of hb37
  refine OpsL.nil ?_
  refine Then.norm ?_
  refine W.ret ?_
  -- return r1
  refine Post.retcellF Tryz.results9 rfl Tryz.isAgg28 Tryz.sizeOf28 rfl st39.sub hc38 ?_
  obtain ⟨h40, le41, f42, st43⟩ := OSl.freeze (k := 2) st39 (f16.up le36) rfl (by simp only [List.nil_append]; omega)
  obtain ⟨h44, le45, f46, st47⟩ := OSl.freeze (k := 3) st43 (f29.up (le36.trans le41)) rfl (by simp only [List.nil_append]; omega)
  refine ⟨h44, _, rfl, st47.done, ?_⟩
  refine ⟨_, _, ?_, Sl.to (f42.up le45) ?_, Sl.to f46 ?_⟩
  · rfl
  · simp
  · simp
end Go.Pk
