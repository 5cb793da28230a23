/- A PART OF THE PROOF (printed by a program of the author's own): contracts of functions, each walked once. -/
import Derived.Test.YtngmpkoobdkeiaaGreatDoorA13
namespace Go.Pk
open Go Go.RowKit Go.Proofs
set_option maxRecDepth 4000 in
theorem c_stem_opened_1 {h : Heap} {w : World} (hs : Sub h w) {a : Decision} (a_l2 : 0 ≤ a.kind ∧ a.kind ≤ 255) (a_l3 : a.form.length ≤ 281474976710656) (a_l7 : a.to.stem.length ≤ 281474976710656) (a_l8 : 0 ≤ a.to.mark ∧ a.to.mark ≤ 255) {b : Decision} (b_l2 : 0 ≤ b.kind ∧ b.kind ≤ 255) (b_l3 : b.form.length ≤ 281474976710656) (b_l7 : b.to.stem.length ≤ 281474976710656) (b_l8 : 0 ≤ b.to.mark ∧ b.to.mark ≤ 255) (ha : 1 ≤ a.number ∧ a.number ≤ 999) (hb : 1 ≤ b.number ∧ b.number ≤ 999) : Calls Tryz.prog 106 #[.agg #[.int .i64 a.number, .int .u8 a.kind, strV a.form, .int .i64 a.at_.chapter, .int .i64 a.at_.line, .int .i64 a.at_.word, strV a.to.stem, .int .u8 a.to.mark, .int .i64 a.of_], .agg #[.int .i64 b.number, .int .u8 b.kind, strV b.form, .int .i64 b.at_.chapter, .int .i64 b.at_.line, .int .i64 b.at_.word, strV b.to.stem, .int .u8 b.to.mark, .int .i64 b.of_]] w (Rets h w (fun _ _ res_ => res_ = .int .i64 (b.number - a.number))) := by
  refine W.calls (n := 10) (args := [.agg #[.int .i64 a.number, .int .u8 a.kind, strV a.form, .int .i64 a.at_.chapter, .int .i64 a.at_.line, .int .i64 a.at_.word, strV a.to.stem, .int .u8 a.to.mark, .int .i64 a.of_], .agg #[.int .i64 b.number, .int .u8 b.kind, strV b.form, .int .i64 b.at_.chapter, .int .i64 b.at_.line, .int .i64 b.at_.word, strV b.to.stem, .int .u8 b.to.mark, .int .i64 b.of_]]) Tryz.func106 rfl rfl rfl ?_
  have st0 : St h w h w [] := St.start hs
  refine W.seq ?_
  refine W.region ?_
  refine OpsL.boxF st0 (cs := [.int .i64 (a.number), .int .u8 (a.kind), strV (a.form), .int .i64 (a.at_.chapter), .int .i64 (a.at_.line), .int .i64 (a.at_.word), strV (a.to.stem), .int .u8 (a.to.mark), .int .i64 (a.of_)]) rfl rfl rfl ?_
  intro b1 w2 h3 le4 hc5 st6
  refine OpsL.boxF st6 (cs := [.int .i64 (b.number), .int .u8 (b.kind), strV (b.form), .int .i64 (b.at_.chapter), .int .i64 (b.at_.line), .int .i64 (b.at_.word), strV (b.to.stem), .int .u8 (b.to.mark), .int .i64 (b.of_)]) rfl rfl rfl ?_
  intro b7 w8 h9 le10 hc11 st12
  refine OpsL.val rfl rfl (r_asI rfl) ?_
  refine OpsL.nil ?_
  refine Then.norm ?_
  refine W.seq ?_
  refine W.region ?_
  refine OpsL.val rfl rfl (r_field_addr rfl Tryz.underlying56 rfl Tryz.sizeOf3 rfl) ?_
  refine OpsL.val rfl rfl (r_load_cells1 (j := 0) st12.sub hc11 rfl rfl rfl Tryz.isAgg3) ?_
  refine OpsL.val rfl rfl (r_field_addr rfl Tryz.underlying56 rfl Tryz.sizeOf3 rfl) ?_
  refine OpsL.val rfl rfl (r_load_cells1 (j := 0) st12.sub (hc5.up le10) rfl rfl rfl Tryz.isAgg3) ?_
  refine OpsL.val rfl rfl (r_sub rfl rfl (by first | omega | (simp; omega))) ?_
  refine OpsL.val rfl rfl (r_asI rfl) ?_
  refine OpsL.nil ?_
  refine Then.norm ?_
  refine W.ret ?_
  -- return r1
  refine Post.ret1 Tryz.results106 ?_
  refine ⟨h9, _, rfl, st12.done, ?_⟩
  refine int_eq ?_
  rfl
set_option maxRecDepth 4000 in
theorem c_stem_opened {h : Heap} {w : World} (hs : Sub h w) {t : Text} {t_v0 : Value} (t_f0 : Sl LChapter h t_v0 t.chapters) {x : Lexicon} {x_v0 : Value} (x_f0 : Sl LRule h x_v0 x.rules) {x_v1 : Value} (x_f1 : Sl LDecision h x_v1 x.decisions) (hx : OkD x) (hl : x.decisions.length ≤ 25) : Calls Tryz.prog 66 #[.agg #[t_v0], .agg #[x_v0, x_v1]] w (Rets h w (fun h' _ res_ => ∃ u0, res_ = u0 ∧ Box LOffice h' true (Office.mk x t (standM x)) u0)) := by
  refine W.calls (n := 67) (args := [.agg #[t_v0], .agg #[x_v0, x_v1]]) Tryz.func66 rfl rfl rfl ?_
  have st0 : St h w h w [] := St.start hs
  have t_f0_b := t_f0.le
  have x_f0_b := x_f0.le
  have x_f1_b := x_f1.le
  refine W.seq ?_
  refine W.region ?_
  refine OpsL.boxF st0 (cs := [t_v0]) rfl rfl rfl ?_
  intro b1 w2 h3 le4 hc5 st6
  refine OpsL.boxF st6 (cs := [x_v0, x_v1]) rfl rfl rfl ?_
  intro b7 w8 h9 le10 hc11 st12
  refine OpsL.val rfl rfl (r_assign rfl) ?_
  refine OpsL.nil ?_
  refine Then.norm ?_
  refine W.seq ?_
  refine W.region ?_
  refine OpsL.val rfl rfl (r_load_call st12.sub hc11 rfl Tryz.isAgg28 Tryz.sizeOf28 rfl) ?_
  refine OpsL.val rfl rfl (r_load_call st12.sub (hc5.up le10) rfl Tryz.isAgg24 Tryz.sizeOf24 rfl) ?_
  refine OpsL.makeMap (κ := Int) (υ := Decision) (ek := (fun n : Int => .int .i64 n)) (eu := (fun x : Decision => .agg [.int .i64 x.number, .int .u8 x.kind, strV x.form, .int .i64 x.at_.chapter, .int .i64 x.at_.line, .int .i64 x.at_.word, strV x.to.stem, .int .u8 x.to.mark, .int .i64 x.of_].toArray)) st12 rfl ?_
  intro v13 o14 w15 f16 st17
  obtain ⟨mb18, rfl⟩ := f16.form
  have nd19 : (([] : List (Int × Decision)).map (·.1)).Nodup := by simp
  refine OpsL.val rfl rfl (r_build (cs := [x_v0, x_v1, t_v0, (.map (some mb18))]) (by kernel_rfl)) ?_
  refine OpsL.boxF st17 (cs := [x_v0, x_v1, t_v0, (.map (some mb18))]) rfl rfl rfl ?_
  intro b20 w21 h22 le23 hc24 st25
  refine OpsL.val rfl rfl (r_asP rfl) ?_
  refine OpsL.nil ?_
  refine Then.norm ?_
  refine W.seq ?_
  refine W.region ?_
  refine OpsL.val rfl rfl (r_field_addr rfl Tryz.underlying28 rfl Tryz.sizeOf26 rfl) ?_
  refine OpsL.val rfl rfl (r_load_cells1 (j := 1) st25.sub (hc11.up le23) rfl rfl rfl Tryz.isAgg26) ?_
  refine OpsL.calls rfl rfl (run_call rfl Tryz.call64 rfl) ((c_slices_Clone_Lapi_Decision_api_Decision st25.sub (x_f1.up ((le4.trans le10).trans le23)) (by omega)).mono ?_)
  rintro _ w27 ⟨h28, v26, o31, rfl, le29, s33, f32⟩
  refine ⟨_, rfl, ?_⟩
  have st30 := st25.call s33
  refine OpsL.val rfl rfl (r_assign (v := v26) rfl) ?_
  refine OpsL.nil ?_
  refine Then.norm ?_
  refine W.seq ?_
  refine W.region ?_
  refine OpsL.val rfl rfl (r_move (v := v26) rfl) ?_
  have con := sortFunc (L := LDecision) (T := 56) Tryz.sort_api_Decision Tryz.isAgg56 Tryz.sizeOf56 (by decide) (fun x : Decision => [.int .i64 x.number, .int .u8 x.kind, strV x.form, .int .i64 x.at_.chapter, .int .i64 x.at_.line, .int .i64 x.at_.word, strV x.to.stem, .int .u8 x.to.mark, .int .i64 x.of_]) (by rintro _ _ _ ⟨rfl, _⟩; rfl) (fun a b : Decision => b.number - a.number) (swo_desc _) (g := 106) (caps := []) (i := 1) st30 f32 rfl (by omega) Tryz.call106 ?_
  rotate_left
  · intro a_ ha_ b_ hb_ w_ hs_
    obtain ⟨_, rfl, p0, p1, p2, p3⟩ := OSl.memR f32 ha_
    obtain ⟨_, rfl, q0, q1, q2, q3⟩ := OSl.memR f32 hb_
    simp only [big] at *
    exact c_stem_opened_1 hs_ (a := a_) p0 p1 p2 p3 (b := b_) q0 q1 q2 q3 (by have q := (hx.2 a_ ha_); omega) (by have q := (hx.2 b_ hb_); omega)
  refine OpsL.calls rfl rfl (run_call rfl Tryz.call69 rfl) (con.mono ?_)
  rintro _ w34 ⟨rfl, ys35, o36, _, e37, hp38, hw39, f40, st41⟩
  subst e37
  refine ⟨_, rfl, ?_⟩
  clear con
  have hdl : (downD x).length = x.decisions.length := (downD_perm x).length_eq
  have f42 := OSl.to f40 (show ys35 = (downD x) from downD_eq hp38 hw39 hx.1)
  obtain ⟨h43, le44, f45, st46⟩ := OSl.freeze (k := 1) st41 f42 rfl (by first | omega | (simp; omega))
  refine OpsL.nil ?_
  refine Then.norm ?_
  refine W.seq ?_
  refine W.seq ?_
  refine W.region ?_
  refine OpsL.val rfl rfl (r_move (v := v26) rfl) ?_
  refine OpsL.val rfl rfl (r_len f45 rfl Tryz.underlying26) ?_
  refine OpsL.val rfl rfl (r_mvI rfl) ?_
  refine OpsL.nil ?_
  refine Then.norm ?_
  refine W.block ?_
  refine W.loopI [8, 25, 26, 27, 28, 29, 30, 31, 32, 33, 34, 35, 36] (G := Nat × List (Nat × Obj) × Heap) (fun ⟨k, o_15, h47⟩ => [(25, .int .i64 (k : Int))]) (fun ⟨k, o_15, h47⟩ w' => Le h43 h47 ∧ St h w h47 w' [o_15, []] ∧ (OM (fun n : Int => .int .i64 n) (fun x : Decision => .agg [.int .i64 x.number, .int .u8 x.kind, strV x.form, .int .i64 x.at_.chapter, .int .i64 x.at_.line, .int .i64 x.at_.word, strV x.to.stem, .int .u8 x.to.mark, .int .i64 x.of_].toArray) (((downD x).take k).map pairD) o_15 (.map (some mb18))) ∧ (((((downD x).take k).map pairD).map (·.1)).Nodup) ∧ (k ≤ (downD x).length)) (fun ⟨k, o_15, h47⟩ => (downD x).length - k) ⟨0, o14, h43⟩ ⟨rfl, trivial⟩ ⟨Le.refl _, st46, (by have q := f16; simpa using q), (by have q := nd19; simp), (by first | omega | simp | trivial)⟩ ?_
  rintro ⟨k, o_15, h47⟩ _ w50 ⟨le48, st49, hM_15, hN_15, hk⟩
  refine W.seq ?_
  refine W.region ?_
  refine OpsL.val rfl rfl (r_lss rfl rfl) ?_
  refine OpsL.nil ?_
  refine Then.norm ?_
  refine W.seq ?_
  refine W.cond rfl (fun c51 => ?_) (fun c51 => ?_)
  ·
    replace c51 := of_decide_eq_true c51
    refine W.skip ?_
    refine Then.norm ?_
    refine W.seq ?_
    refine W.block ?_
    refine W.seq ?_
    refine W.region ?_
    have hd : ∃ y, ((downD x))[k]? = some y := ⟨_, List.getElem?_eq_getElem (by omega)⟩
    obtain ⟨d, hd⟩ := hd
    obtain ⟨b52, o53, _, he55, hc54, hr_d⟩ := Sl.elem (f45.up le48) hd
    obtain ⟨rfl, lu56, ls57, ls58, lu59⟩ := hr_d
    simp only [big] at ls57
    simp only [big] at ls58
    refine OpsL.val rfl rfl (r_index_el he55 rfl rfl (hk := rfl) (hu := Tryz.underlying26) (hz := Tryz.sizeOf56)) ?_
    refine OpsL.val rfl rfl (r_load_call st49.sub hc54 rfl Tryz.isAgg56 Tryz.sizeOf56 rfl) ?_
    refine OpsL.allocO st49 Tryz.zeroValue56 rfl rfl ?_
    intro b60 w61 st62
    refine OpsL.storeN st62 (k := 2) rfl rfl rfl (one_cons rfl (one_cons rfl (one_cons rfl (one_cons rfl (one_cons rfl (one_cons rfl (one_cons rfl (one_cons rfl (one_cons rfl one_nil))))))))) Tryz.sizeOf56 rfl rfl rfl ?_
    intro w63 st64
    obtain ⟨h65, le66, hb67, st69⟩ := st64.freeze (k := 2) rfl
    have hc68 := Cells.of hb67
    refine OpsL.nil ?_
    refine Then.norm ?_
    refine W.regionR (er := []) (dsts := [29, 30, 31, 32, 33, 34, 35]) st69 Tryz.mixed ?_
    refine Drw.det' 0 [] rfl (by kernel_rfl) (by kernel_rfl) rfl rfl (fun hD wD τD hL hS hO  => (r_mvP rfl)) ?_
    refine Drw.det' 1 [0] rfl (by kernel_rfl) (by kernel_rfl) rfl rfl (fun hD wD τD hL hS hO _ _ => (r_nil_check rfl)) ?_
    refine Drw.det' 2 [0] rfl (by kernel_rfl) (by kernel_rfl) rfl rfl (fun hD wD τD hL hS hO _ _ => (r_field_addr rfl Tryz.underlying103 rfl Tryz.sizeOf101 rfl)) ?_
    refine Drw.det' 3 [0] rfl (by kernel_rfl) (by kernel_rfl) rfl rfl (fun hD wD τD hL hS hO _ _ => (r_load_cells1 (j := 3) (hL.sub hS) (hc24.up (((le29.trans le44).trans le48).trans le66)) rfl rfl rfl Tryz.isAgg101)) ?_
    refine Drw.det' 4 [] rfl (by kernel_rfl) (by kernel_rfl) rfl rfl (fun hD wD τD hL hS hO  => (r_field_addr rfl Tryz.underlying56 rfl Tryz.sizeOf3 rfl)) ?_
    refine Drw.det' 5 [0] rfl (by kernel_rfl) (by kernel_rfl) rfl rfl (fun hD wD τD hL hS hO _ _ => (r_load_cells1 (j := 0) (hL.sub hS) hc68 rfl rfl rfl Tryz.isAgg3)) ?_
    refine Drw.det' 6 [] rfl (by kernel_rfl) (by kernel_rfl) rfl rfl (fun hD wD τD hL hS hO  => (r_load_call (hL.sub hS) hc68 rfl Tryz.isAgg56 Tryz.sizeOf56 rfl)) ?_
    refine Drw.ch ?_
    refine Drw.nil rfl rfl rfl ⟨by kernel_rfl, rfl, by kernel_rfl, rfl, by kernel_rfl, rfl, (cx_cons rfl cx_nil)⟩ ?_
    intro hE71 w72 _ le73 st74 _ _ _ _ _ _ _ _ _ _ _ _ _ _
    refine OpsL.mapUpdate (i := 0) st74 hM_15 rfl hN_15 (key_int Tryz.underlying3) Tryz.underlying101 rfl (k := (d.number)) rfl (u := d) rfl ?_
    intro o75 w76 _ e77 f78 nd79 st80
    subst e77
    refine OpsL.nil ⟨undef, rfl, _, _, Le.refl _, st80, ?_⟩
    intro hE81 w82 _ le83 st84 _ _ _ _ _ _ _ _ _ _ _ _ _ _
    refine AllDeps.fin rfl ?_
    refine Blk.norm ?_
    refine Then.norm ?_
    refine W.region ?_
    refine OpsL.val rfl rfl (r_add rfl rfl (by first | omega | (simp; omega))) ?_
    refine OpsL.val rfl rfl (r_mvI rfl) ?_
    refine OpsL.nil ?_
    refine Then.norm ?_
    refine ⟨⟨k + 1, o75, hE81⟩, ⟨rfl, trivial⟩, ?_, ⟨(((le48.trans le66).trans le73).trans le83), st84.take 2, ?_, ?_, ?_⟩, ?_⟩
    · repeat (first | exact Agree.mix _ _ _ | exact Agree.refl _ _ | refine Agree.updO rfl ?_ | refine Agree.upd rfl ?_ | refine Agree.known rfl ?_ | refine Agree.sub rfl ?_)
    · have q := f78
      rw [map_fill (downD_nodup hx.1) hd] at q; exact q
    · have q := nd79
      rw [map_fill (downD_nodup hx.1) hd] at q; exact q
    · first | omega | (simp; omega)
    · show (downD x).length - ((k + 1)) < (downD x).length - k
      omega
  ·
    replace c51 := of_decide_eq_false c51
    refine W.exit ?_
    refine Then.exit ?_
    refine Then.exit ?_
    refine Blk.hit ?_
    refine Then.norm ?_
    refine W.seq ?_
    refine W.seq ?_
    refine W.region ?_
    refine OpsL.val rfl rfl (r_move (v := v26) rfl) ?_
    refine OpsL.val rfl rfl (r_len (f45.up le48) rfl Tryz.underlying26) ?_
    refine OpsL.val rfl rfl (r_mvI rfl) ?_
    refine OpsL.nil ?_
    refine Then.norm ?_
    refine W.block ?_
    refine W.loopI [10, 11, 12, 39, 40, 41, 42, 43, 44, 45, 46, 47, 48, 49, 50, 51, 52, 53, 54, 55, 56, 57, 58, 59, 60, 61, 62, 63, 64, 65] (G := Nat × List (Nat × Obj) × Heap) (fun ⟨k, o_15, h86⟩ => [(39, .int .i64 (k : Int))]) (fun ⟨k, o_15, h86⟩ w' => Le h47 h86 ∧ St h w h86 w' [o_15, []] ∧ (OM (fun n : Int => .int .i64 n) (fun x : Decision => .agg [.int .i64 x.number, .int .u8 x.kind, strV x.form, .int .i64 x.at_.chapter, .int .i64 x.at_.line, .int .i64 x.at_.word, strV x.to.stem, .int .u8 x.to.mark, .int .i64 x.of_].toArray) (((downD x).filter (leftK x k)).map pairD) o_15 (.map (some mb18))) ∧ (((((downD x).filter (leftK x k)).map pairD).map (·.1)).Nodup) ∧ (k ≤ (downD x).length)) (fun ⟨k, o_15, h86⟩ => (downD x).length - k) ⟨0, o_15, h47⟩ ⟨rfl, trivial⟩ ⟨Le.refl _, st49, (by have q := hM_15; rw [leftK_zero]; rw [List.take_of_length_le (by omega)] at q; exact q), (by have q := hN_15; rw [leftK_zero]; rw [List.take_of_length_le (by omega)] at q; exact q), (by first | omega | simp | trivial)⟩ ?_
    rintro ⟨k, o_15, h86⟩ _ w89 ⟨le87, st88, hM_15, hN_15, hk⟩
    refine W.seq ?_
    refine W.region ?_
    refine OpsL.val rfl rfl (r_lss rfl rfl) ?_
    refine OpsL.nil ?_
    refine Then.norm ?_
    refine W.seq ?_
    refine W.cond rfl (fun c90 => ?_) (fun c90 => ?_)
    ·
      replace c90 := of_decide_eq_true c90
      refine W.skip ?_
      refine Then.norm ?_
      refine W.seq ?_
      refine W.block ?_
      refine W.seq ?_
      refine W.region ?_
      have hd : ∃ y, ((downD x))[k]? = some y := ⟨_, List.getElem?_eq_getElem (by omega)⟩
      obtain ⟨d, hd⟩ := hd
      obtain ⟨b91, o92, _, he94, hc93, hr_d⟩ := Sl.elem (f45.up (le48.trans le87)) hd
      obtain ⟨rfl, lu95, ls96, ls97, lu98⟩ := hr_d
      simp only [big] at ls96
      simp only [big] at ls97
      refine OpsL.val rfl rfl (r_index_el he94 rfl rfl (hk := rfl) (hu := Tryz.underlying26) (hz := Tryz.sizeOf56)) ?_
      refine OpsL.val rfl rfl (r_load_call st88.sub hc93 rfl Tryz.isAgg56 Tryz.sizeOf56 rfl) ?_
      refine OpsL.allocO st88 Tryz.zeroValue56 rfl rfl ?_
      intro b99 w100 st101
      refine OpsL.storeN st101 (k := 2) rfl rfl rfl (one_cons rfl (one_cons rfl (one_cons rfl (one_cons rfl (one_cons rfl (one_cons rfl (one_cons rfl (one_cons rfl (one_cons rfl one_nil))))))))) Tryz.sizeOf56 rfl rfl rfl ?_
      intro w102 st103
      obtain ⟨h104, le105, hb106, st108⟩ := st103.freeze (k := 2) rfl
      have hc107 := Cells.of hb106
      refine OpsL.nil ?_
      refine Then.norm ?_
      refine W.seq ?_
      refine W.regionR (er := [6]) (dsts := [44, 45, 46, 47, 48, 49, 50, 43, 51, 52, 11, 12]) st108 Tryz.mixed ?_
      refine Drw.det' 0 [] rfl (by kernel_rfl) (by kernel_rfl) rfl rfl (fun hD wD τD hL hS hO  => (r_mvP rfl)) ?_
      refine Drw.det' 1 [0] rfl (by kernel_rfl) (by kernel_rfl) rfl rfl (fun hD wD τD hL hS hO _ _ => (r_nil_check rfl)) ?_
      refine Drw.det' 2 [0] rfl (by kernel_rfl) (by kernel_rfl) rfl rfl (fun hD wD τD hL hS hO _ _ => (r_field_addr rfl Tryz.underlying103 rfl Tryz.sizeOf101 rfl)) ?_
      refine Drw.det' 3 [0] rfl (by kernel_rfl) (by kernel_rfl) rfl rfl (fun hD wD τD hL hS hO _ _ => (r_load_cells1 (j := 3) (hL.sub hS) (hc24.up ((((le29.trans le44).trans le48).trans le87).trans le105)) rfl rfl rfl Tryz.isAgg101)) ?_
      refine Drw.det' 4 [] rfl (by kernel_rfl) (by kernel_rfl) rfl rfl (fun hD wD τD hL hS hO  => (r_field_addr rfl Tryz.underlying56 rfl Tryz.sizeOf3 rfl)) ?_
      refine Drw.det' 5 [0] rfl (by kernel_rfl) (by kernel_rfl) rfl rfl (fun hD wD τD hL hS hO _ _ => (r_load_cells1 (j := 0) (hL.sub hS) hc107 rfl rfl rfl Tryz.isAgg3)) ?_
      refine Drw.det' 6 [2, 0] rfl (by kernel_rfl) (by kernel_rfl) rfl rfl (fun hD wD τD hL hS hO _ _ _ _ => (r_look_ok (k := (d.number)) (zu := zDecision) (key_int Tryz.underlying3) Tryz.underlying101 hM_15 ((hO rfl).ent (k := 0) rfl) Tryz.zeroValue56 rfl rfl rfl)) ?_
      refine Drw.det' 7 [0] rfl (by kernel_rfl) (by kernel_rfl) rfl rfl (fun hD wD τD hL hS hO _ _ => (r_mvT rfl)) ?_
      refine Drw.det' 8 [0] rfl (by kernel_rfl) (by kernel_rfl) rfl rfl (fun hD wD τD hL hS hO _ _ => (r_extract (v := (.agg (List.toArray _))) rfl rfl)) ?_
      refine Drw.det' 9 [1] rfl (by kernel_rfl) (by kernel_rfl) rfl rfl (fun hD wD τD hL hS hO _ _ => (r_extract (v := (.bool _)) rfl rfl)) ?_
      refine Drw.al Tryz.zeroValue56 rfl ?_
      refine Drw.ch ?_
      refine Drw.det' 12 [11, 10, 9, 8, 7, 6, 5, 4, 3, 2, 1, 0] rfl (by kernel_rfl) (by kernel_rfl) rfl rfl (fun hD wD τD hL hS hO _ _ _ _ _ _ _ _ _ _ _ _ _ _ _ _ _ _ _ _ => (r_asB rfl)) ?_
      refine Drw.nil rfl rfl rfl ⟨by kernel_rfl, rfl, by kernel_rfl, rfl, by kernel_rfl, rfl, (cx_cons rfl cx_nil)⟩ ?_
      intro b109
      intro hE111 w112 _ le113 st114 _ _ _ _ _ _ _ _ _ _ _ _ _ _ _ _ _ _
      refine OpsL.storeN st114 (k := 3) rfl rfl rfl (one_cons rfl (one_cons rfl (one_cons rfl (one_cons rfl (one_cons rfl (one_cons rfl (one_cons rfl (one_cons rfl (one_cons rfl one_nil))))))))) Tryz.sizeOf56 rfl rfl rfl ?_
      intro w115 st116
      obtain ⟨h117, le118, hb119, st121⟩ := st116.freeze (k := 3) rfl
      have hc120 := Cells.of hb119
      refine OpsL.nil ⟨undef, rfl, _, _, le118, st121, ?_⟩
      intro hE122 w123 _ le124 st125 _ _ _ _ _ _ _ _ _ _ _ _ _ _ _ _ _ _ _ _ _ _
      refine AllDeps.fin rfl ?_
      refine Then.norm ?_
      refine W.seq ?_
      refine W.region ?_
      refine OpsL.val rfl rfl (r_mvB rfl) ?_
      refine OpsL.val rfl rfl (r_mvB rfl) ?_
      refine OpsL.split (d := 54) rfl (fun g127 => ?_) (fun g127 => ?_)
      ·
        refine OpsL.guarded rfl rfl (d := 54) rfl ?_
        refine OpsL.val rfl rfl (r_field_addr rfl Tryz.underlying56 rfl Tryz.sizeOf5 rfl) ?_
        refine OpsL.guarded rfl rfl (d := 54) rfl ?_
        refine OpsL.val rfl rfl (r_load_cells1 (j := 1) st125.sub (hc107.up ((le113.trans le118).trans le124)) rfl rfl rfl Tryz.isAgg5) ?_
        refine OpsL.guarded rfl rfl (d := 54) rfl ?_
        refine OpsL.val rfl rfl (r_eql rfl rfl) ?_
        refine OpsL.val rfl rfl (r_pickT (v := (.bool _)) rfl rfl) ?_
        refine OpsL.nil ?_
        refine Then.norm ?_
        refine W.cond rfl (fun c128 => ?_) (fun c128 => ?_)
        ·
          replace c128 := of_decide_eq_true c128
          refine W.regionR (er := []) (dsts := [59, 60, 61, 62, 63, 64]) st125 Tryz.mixed ?_
          refine Drw.det' 0 [] rfl (by kernel_rfl) (by kernel_rfl) rfl rfl (fun hD wD τD hL hS hO  => (r_mvP rfl)) ?_
          refine Drw.det' 1 [0] rfl (by kernel_rfl) (by kernel_rfl) rfl rfl (fun hD wD τD hL hS hO _ _ => (r_nil_check rfl)) ?_
          refine Drw.det' 2 [0] rfl (by kernel_rfl) (by kernel_rfl) rfl rfl (fun hD wD τD hL hS hO _ _ => (r_field_addr rfl Tryz.underlying103 rfl Tryz.sizeOf101 rfl)) ?_
          refine Drw.det' 3 [0] rfl (by kernel_rfl) (by kernel_rfl) rfl rfl (fun hD wD τD hL hS hO _ _ => (r_load_cells1 (j := 3) (hL.sub hS) (hc24.up (((((((le29.trans le44).trans le48).trans le87).trans le105).trans le113).trans le118).trans le124)) rfl rfl rfl Tryz.isAgg101)) ?_
          refine Drw.det' 4 [] rfl (by kernel_rfl) (by kernel_rfl) rfl rfl (fun hD wD τD hL hS hO  => (r_field_addr rfl Tryz.underlying56 rfl Tryz.sizeOf3 rfl)) ?_
          refine Drw.det' 5 [0] rfl (by kernel_rfl) (by kernel_rfl) rfl rfl (fun hD wD τD hL hS hO _ _ => (r_load_cells1 (j := 8) (hL.sub hS) (hc107.up ((le113.trans le118).trans le124)) rfl rfl rfl Tryz.isAgg3)) ?_
          refine Drw.ch ?_
          refine Drw.nil rfl rfl rfl ⟨by kernel_rfl, rfl, by kernel_rfl, rfl, by kernel_rfl, rfl, (cx_cons rfl cx_nil)⟩ ?_
          intro hE130 w131 _ le132 st133 _ _ _ _
          refine OpsL.mapDelete (i := 0) st133 hM_15 rfl hN_15 (key_int Tryz.underlying3) Tryz.underlying101 rfl (k := (d.of_)) rfl ?_
          intro o134 w135 _ e136 f137 nd138 st139
          subst e136
          refine OpsL.nil ⟨undef, rfl, _, _, Le.refl _, st139, ?_⟩
          intro hE140 w141 _ le142 st143 _ _ _ _ _ _ _ _ _ _ _ _
          refine AllDeps.fin rfl ?_
          refine Blk.norm ?_
          refine Then.norm ?_
          refine W.region ?_
          refine OpsL.val rfl rfl (r_add rfl rfl (by first | omega | (simp; omega))) ?_
          refine OpsL.val rfl rfl (r_mvI rfl) ?_
          refine OpsL.nil ?_
          refine Then.norm ?_
          refine ⟨⟨k + 1, o134, hE140⟩, ⟨rfl, trivial⟩, ?_, ⟨((((((le87.trans le105).trans le113).trans le118).trans le124).trans le132).trans le142), st143.take 2, ?_, ?_, ?_⟩, ?_⟩
          · repeat (first | exact Agree.mix _ _ _ | exact Agree.refl _ _ | refine Agree.updO rfl ?_ | refine Agree.upd rfl ?_ | refine Agree.known rfl ?_ | refine Agree.sub rfl ?_)
          · have q := f137
            rw [map_void hd ⟨c128, (look_left hx hd).symm.trans g127⟩] at q; exact q
          · have q := nd138
            rw [map_void hd ⟨c128, (look_left hx hd).symm.trans g127⟩] at q; exact q
          · first | omega | (simp; omega)
          · show (downD x).length - ((k + 1)) < (downD x).length - k
            omega
        ·
          replace c128 := of_decide_eq_false c128
          refine W.skip ?_
          refine Blk.norm ?_
          refine Then.norm ?_
          refine W.region ?_
          refine OpsL.val rfl rfl (r_add rfl rfl (by first | omega | (simp; omega))) ?_
          refine OpsL.val rfl rfl (r_mvI rfl) ?_
          refine OpsL.nil ?_
          refine Then.norm ?_
          refine ⟨⟨k + 1, o_15, hE122⟩, ⟨rfl, trivial⟩, ?_, ⟨((((le87.trans le105).trans le113).trans le118).trans le124), st125.take 2, ?_, ?_, ?_⟩, ?_⟩
          · repeat (first | exact Agree.mix _ _ _ | exact Agree.refl _ _ | refine Agree.updO rfl ?_ | refine Agree.upd rfl ?_ | refine Agree.known rfl ?_ | refine Agree.sub rfl ?_)
          · have q := hM_15
            rw [map_stay hd (by rintro ⟨e1, _⟩; exact c128 e1)] at q; exact q
          · have q := hN_15
            rw [map_stay hd (by rintro ⟨e1, _⟩; exact c128 e1)] at q; exact q
          · first | omega | (simp; omega)
          · show (downD x).length - ((k + 1)) < (downD x).length - k
            omega
      ·
        refine OpsL.skipped rfl rfl (d := 54) rfl rfl rfl ?_
        refine OpsL.skipped rfl rfl (d := 54) rfl rfl rfl ?_
        refine OpsL.skipped rfl rfl (d := 54) rfl rfl rfl ?_
        refine OpsL.val rfl rfl (r_pickF (v := (.bool _)) rfl rfl) ?_
        refine OpsL.nil ?_
        refine Then.norm ?_
        refine W.cond rfl (fun c145 => ?_) (fun c145 => ?_)
        ·
          cases c145
        ·
          refine W.skip ?_
          refine Blk.norm ?_
          refine Then.norm ?_
          refine W.region ?_
          refine OpsL.val rfl rfl (r_add rfl rfl (by first | omega | (simp; omega))) ?_
          refine OpsL.val rfl rfl (r_mvI rfl) ?_
          refine OpsL.nil ?_
          refine Then.norm ?_
          refine ⟨⟨k + 1, o_15, hE122⟩, ⟨rfl, trivial⟩, ?_, ⟨((((le87.trans le105).trans le113).trans le118).trans le124), st125.take 2, ?_, ?_, ?_⟩, ?_⟩
          · repeat (first | exact Agree.mix _ _ _ | exact Agree.refl _ _ | refine Agree.updO rfl ?_ | refine Agree.upd rfl ?_ | refine Agree.known rfl ?_ | refine Agree.sub rfl ?_)
          · have q := hM_15
            rw [map_stay hd (by rintro ⟨_, e1⟩; rw [← look_left hx hd] at e1; rw [e1] at g127; cases g127)] at q; exact q
          · have q := hN_15
            rw [map_stay hd (by rintro ⟨_, e1⟩; rw [← look_left hx hd] at e1; rw [e1] at g127; cases g127)] at q; exact q
          · first | omega | (simp; omega)
          · show (downD x).length - ((k + 1)) < (downD x).length - k
            omega
    ·
      replace c90 := of_decide_eq_false c90
      refine W.exit ?_
      refine Then.exit ?_
      refine Then.exit ?_
      refine Blk.hit ?_
      refine Then.norm ?_
      refine W.seq ?_
      refine W.region ?_
      refine OpsL.val rfl rfl (r_mvP rfl) ?_
      refine OpsL.val rfl rfl (r_asP rfl) ?_
      refine OpsL.nil ?_
      refine Then.norm ?_
      refine W.ret ?_
      -- return r1
      refine Post.ret1 Tryz.results66 ?_
      obtain ⟨h146, le147, f148, st149⟩ := OM.freeze (k := 0) st88 hM_15 rfl
      have f148_r := f148.to (show _ = (standM x) by rw [← leftK_end hx]; first | rfl | (congr 3; omega))
      have f148_l : FML (fun n : Int => .int .i64 n) (fun x : Decision => [.int .i64 x.number, .int .u8 x.kind, strV x.form, .int .i64 x.at_.chapter, .int .i64 x.at_.line, .int .i64 x.at_.word, strV x.to.stem, .int .u8 x.to.mark, .int .i64 x.of_]) LDecision h146 (standM x) (.map (some mb18)) := ⟨f148_r, by intro p hp_; have q := (standM_mem hp_).1; obtain ⟨vs_, r_⟩ := x_f1.memR q; obtain ⟨rfl, q1⟩ := r_; exact ⟨rfl, q1⟩⟩
      refine ⟨h146, _, rfl, st149.done, ?_⟩
      refine ⟨_, rfl, Box.some ?_ (hc24.up ((((le29.trans le44).trans le48).trans le87).trans le147)) ⟨_, _, _, _, rfl, (x_f0.up (((((((le4.trans le10).trans le23).trans le29).trans le44).trans le48).trans le87).trans le147)), (x_f1.up (((((((le4.trans le10).trans le23).trans le29).trans le44).trans le48).trans le87).trans le147)), (t_f0.up (((((((le4.trans le10).trans le23).trans le29).trans le44).trans le48).trans le87).trans le147)), f148_l⟩⟩
      rfl
end Go.Pk
