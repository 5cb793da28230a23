/- A PART OF THE PROOF (printed by a program of the author's own): contracts of functions, each walked once. -/
import Derived.Test.YtngmpkoobdkeiaaGreatDoorA03
import Derived.Test.YtngmpkoobdkeiaaGreatDoorA06
import Derived.Test.YtngmpkoobdkeiaaGreatDoorA18
import Derived.Test.YtngmpkoobdkeiaaGreatDoorA20
namespace Go.Pk
open Go Go.RowKit Go.Proofs
set_option maxRecDepth 4000 in
set_option maxHeartbeats 4000000 in
theorem c_postillaw04_StemTells {h : Heap} {w : World} (hs : Sub h w) {t : Text} {t_v0 : Value} (t_f0 : Sl LChapter h t_v0 t.chapters) {x : Lexicon} {x_v0 : Value} (x_f0 : Sl LRule h x_v0 x.rules) {x_v1 : Value} (x_f1 : Sl LDecision h x_v1 x.decisions) (word : Str) (word_le : word.length ≤ 281474976710656) (K0 : Cells h 0 0 Tryz.glob0) : Calls Tryz.prog 3 #[.agg #[t_v0], .agg #[x_v0, x_v1], strV word] w (Rets h w (fun _ _ res_ => res_ = .bool (true))) := by
  refine W.calls (n := 95) (args := [.agg #[t_v0], .agg #[x_v0, x_v1], strV word]) Tryz.func3 rfl rfl rfl ?_
  have st0 : St h w h w [] := St.start hs
  have t_f0_b := t_f0.le
  have x_f0_b := x_f0.le
  have x_f1_b := x_f1.le
  refine W.seq ?_
  refine W.region ?_
  refine OpsL.boxF st0 (cs := [t_v0]) rfl rfl rfl ?_
  intro b1 w2 h3 le4 hc5 st6
  refine OpsL.boxF st6 (cs := [x_v0, x_v1]) rfl rfl rfl ?_
  intro b7 w8 h9 le10 hc11 st12
  refine OpsL.val rfl rfl (r_asB rfl) ?_
  refine OpsL.nil ?_
  refine Then.norm ?_
  refine W.seq ?_
  refine W.seq ?_
  refine W.region ?_
  refine OpsL.val rfl rfl (r_load_call st12.sub (hc5.up le10) rfl Tryz.isAgg24 Tryz.sizeOf24 rfl) ?_
  refine OpsL.callF st12 rfl rfl rfl Tryz.call6 rfl (c_postilref01_Great st12.sub (t := t) (t_f0.up (le4.trans le10))) ?_
  intro r13 w14 h15 le16 st17 q18
  obtain rfl := q18
  refine OpsL.val rfl rfl (r_mvB rfl) ?_
  refine OpsL.split (d := 19) rfl (fun g19 => ?_) (fun g19 => ?_)
  ·
    refine OpsL.skipped rfl rfl (d := 19) rfl rfl rfl ?_
    refine OpsL.skipped rfl rfl (d := 19) rfl rfl rfl ?_
    refine OpsL.val rfl rfl (r_pickT (v := (.bool _)) rfl rfl) ?_
    refine OpsL.val rfl rfl (r_mvB rfl) ?_
    refine OpsL.skipped rfl rfl (d := 23) rfl rfl rfl ?_
    refine OpsL.skipped rfl rfl (d := 23) rfl rfl rfl ?_
    refine OpsL.skipped rfl rfl (d := 23) rfl rfl rfl ?_
    refine OpsL.val rfl rfl (r_pickT (v := (.bool _)) rfl rfl) ?_
    refine OpsL.nil ?_
    refine Then.norm ?_
    refine W.cond rfl (fun c20 => ?_) (fun c20 => ?_)
    ·
      refine W.seq ?_
      refine W.region ?_
      refine OpsL.val rfl rfl (r_asB rfl) ?_
      refine OpsL.nil ?_
      refine Then.norm ?_
      refine W.ret ?_
      refine Then.ret ?_
      -- return r1
      refine Post.ret1 Tryz.results3 ?_
      refine ⟨h15, _, rfl, st17.done, ?_⟩
      refine bool_eq ?_
      simp_all
    ·
      cases c20
  ·
    refine OpsL.guarded rfl rfl (d := 19) rfl ?_
    refine OpsL.val rfl rfl (r_load_call st17.sub (hc11.up le16) rfl Tryz.isAgg28 Tryz.sizeOf28 rfl) ?_
    refine OpsL.guarded rfl rfl (d := 19) rfl ?_
    refine OpsL.callF st17 rfl rfl rfl Tryz.call7 rfl (c_postilref04_Great st17.sub (x := x) (x_f0.up ((le4.trans le10).trans le16)) (x_f1.up ((le4.trans le10).trans le16))) ?_
    intro r21 w22 h23 le24 st25 q26
    obtain rfl := q26
    refine OpsL.val rfl rfl (r_pickF (v := (.bool _)) rfl rfl) ?_
    refine OpsL.val rfl rfl (r_mvB rfl) ?_
    refine OpsL.split (d := 23) rfl (fun g27 => ?_) (fun g27 => ?_)
    ·
      refine OpsL.skipped rfl rfl (d := 23) rfl rfl rfl ?_
      refine OpsL.skipped rfl rfl (d := 23) rfl rfl rfl ?_
      refine OpsL.skipped rfl rfl (d := 23) rfl rfl rfl ?_
      refine OpsL.val rfl rfl (r_pickT (v := (.bool _)) rfl rfl) ?_
      refine OpsL.nil ?_
      refine Then.norm ?_
      refine W.cond rfl (fun c28 => ?_) (fun c28 => ?_)
      ·
        refine W.seq ?_
        refine W.region ?_
        refine OpsL.val rfl rfl (r_asB rfl) ?_
        refine OpsL.nil ?_
        refine Then.norm ?_
        refine W.ret ?_
        refine Then.ret ?_
        -- return r2
        refine Post.ret1 Tryz.results3 ?_
        refine ⟨h23, _, rfl, st25.done, ?_⟩
        refine bool_eq ?_
        simp_all
      ·
        cases c28
    ·
      refine OpsL.guarded rfl rfl (d := 23) rfl ?_
      refine OpsL.val rfl rfl (r_mvS rfl) ?_
      refine OpsL.guarded rfl rfl (d := 23) rfl ?_
      refine OpsL.val rfl rfl (r_len_str rfl Tryz.underlying9) ?_
      refine OpsL.guarded rfl rfl (d := 23) rfl ?_
      refine OpsL.val rfl rfl (r_gtr rfl rfl) ?_
      refine OpsL.val rfl rfl (r_pickF (v := (.bool _)) rfl rfl) ?_
      refine OpsL.nil ?_
      refine Then.norm ?_
      refine W.cond rfl (fun c29 => ?_) (fun c29 => ?_)
      ·
        replace c29 := of_decide_eq_true c29
        refine W.seq ?_
        refine W.region ?_
        refine OpsL.val rfl rfl (r_asB rfl) ?_
        refine OpsL.nil ?_
        refine Then.norm ?_
        refine W.ret ?_
        refine Then.ret ?_
        -- return r3
        refine Post.ret1 Tryz.results3 ?_
        refine ⟨h23, _, rfl, st25.done, ?_⟩
        refine bool_eq ?_
        simp_all
      ·
        replace c29 := of_decide_eq_false c29
        refine W.skip ?_
        refine Then.norm ?_
        refine W.seq ?_
        refine W.regionR (er := []) (dsts := [28, 29, 30, 31, 7, 8]) st25 Tryz.mixed ?_
        refine Drw.det' 0 [] rfl (by kernel_rfl) (by kernel_rfl) rfl rfl (fun hD wD τD hL hS hO  => (r_load_call (hL.sub hS) (hc5.up ((le10.trans le16).trans le24)) rfl Tryz.isAgg24 Tryz.sizeOf24 rfl)) ?_
        refine Drw.flt' 1 (.res (fun h' res_ => ∃ gv1_0, res_ = .agg #[gv1_0] ∧ Sl LChapter h' gv1_0 ((t)).chapters) (by rintro _ _ _ hl ⟨gv1_0, e_, gf1_0⟩; exact ⟨gv1_0, e_, gf1_0.up hl⟩)) [0] rfl (by kernel_rfl) (by kernel_rfl) ?_ ?_
        ·
          intro hD wD τD hL hS hO _ _
          have st30 := St.start hS
          refine OpsL.callF st30 rfl rfl rfl Tryz.call8 rfl (c_postilref01_Twin st30.sub (t := t) (t_f0.up ((((le4.trans le10).trans le16).trans le24).trans hL)) (by simpa using g19)) ?_
          intro r31 w32 h33 le34 st35 q36
          obtain ⟨v37, rfl, f38⟩ := q36
          have f38_b := f38.le
          exact OpsL.nil ⟨_, _, rfl, st35, _, rfl, ⟨_, rfl, f38⟩⟩
        refine Drw.det' 2 [] rfl (by kernel_rfl) (by kernel_rfl) rfl rfl (fun hD wD τD hL hS hO  => (r_load_call (hL.sub hS) (hc11.up (le16.trans le24)) rfl Tryz.isAgg28 Tryz.sizeOf28 rfl)) ?_
        refine Drw.flt' 3 (.res (fun h' res_ => ∃ gv3_0 gv3_1, res_ = .agg #[gv3_0, gv3_1] ∧ Sl LRule h' gv3_0 ((x)).rules ∧ Sl LDecision h' gv3_1 ((x)).decisions) (by rintro _ _ _ hl ⟨gv3_0, gv3_1, e_, gf3_0, gf3_1⟩; exact ⟨gv3_0, gv3_1, e_, gf3_0.up hl, gf3_1.up hl⟩)) [0, 1] rfl (by kernel_rfl) (by kernel_rfl) ?_ ?_
        ·
          intro hD wD τD hL hS hO _ _ gv1_ gf1_
          obtain ⟨gv1_0, rfl, gf1_0⟩ := gf1_
          have st39 := St.start hS
          refine OpsL.callF st39 rfl rfl rfl Tryz.call9 rfl (c_postilref04_Twin st39.sub (x := x) (x_f0.up ((((le4.trans le10).trans le16).trans le24).trans hL)) (x_f1.up ((((le4.trans le10).trans le16).trans le24).trans hL)) (by simpa using g27)) ?_
          intro r40 w41 h42 le43 st44 q45
          obtain ⟨v46, v48, rfl, f47, f49⟩ := q45
          have f47_b := f47.le
          have f49_b := f49.le
          exact OpsL.nil ⟨_, _, rfl, st44, _, rfl, ⟨_, _, rfl, f47, f49⟩⟩
        refine Drw.al Tryz.zeroValue24 rfl ?_
        refine Drw.al Tryz.zeroValue28 rfl ?_
        refine Drw.ch ?_
        refine Drw.ch ?_
        refine Drw.nil rfl rfl rfl ⟨by kernel_rfl, rfl, by kernel_rfl, rfl, by kernel_rfl, rfl, (cx_cons rfl (cx_cons rfl cx_nil))⟩ ?_
        intro b50
        intro b51
        intro hE53 w54 _ le55 st56 gv3_x52 gf3_x52 _ _ gv1_x52 gf1_x52
        obtain ⟨gv3_0x52, gv3_1x52, rfl, gf3_0x52, gf3_1x52⟩ := gf3_x52
        obtain ⟨gv1_0x52, rfl, gf1_0x52⟩ := gf1_x52
        refine OpsL.storeN st56 (k := 0) rfl rfl rfl (one_cons gf1_0x52.one one_nil) Tryz.sizeOf24 rfl rfl rfl ?_
        intro w57 st58
        obtain ⟨h59, le60, hb61, st63⟩ := st58.freeze (k := 0) rfl
        have hc62 := Cells.of hb61
        refine OpsL.nil ⟨undef, rfl, _, _, le60, st63, ?_⟩
        intro hE65 w66 _ le67 st68 _ _ gv1_x64 gf1_x64 _ _ gv3_x64 gf3_x64
        obtain ⟨gv1_0x64, rfl, gf1_0x64⟩ := gf1_x64
        obtain ⟨gv3_0x64, gv3_1x64, rfl, gf3_0x64, gf3_1x64⟩ := gf3_x64
        refine OpsL.storeN st68 (k := 1) rfl rfl rfl (one_cons gf3_0x64.one (one_cons gf3_1x64.one one_nil)) Tryz.sizeOf28 rfl rfl rfl ?_
        intro w69 st70
        obtain ⟨h71, le72, hb73, st75⟩ := st70.freeze (k := 1) rfl
        have hc74 := Cells.of hb73
        refine OpsL.nil ⟨undef, rfl, _, _, le72, st75, ?_⟩
        intro hE76 w77 _ le78 st79 _ _ gv1_x80 gf1_x80 _ _ gv3_x80 gf3_x80
        obtain ⟨gv1_0x80, rfl, gf1_0x80⟩ := gf1_x80
        obtain ⟨gv3_0x80, gv3_1x80, rfl, gf3_0x80, gf3_1x80⟩ := gf3_x80
        refine AllDeps.fin rfl ?_
        refine Then.norm ?_
        refine W.seq ?_
        refine W.region ?_
        refine OpsL.val rfl rfl (r_load_call st79.sub (hc62.up ((le67.trans le72).trans le78)) rfl Tryz.isAgg24 Tryz.sizeOf24 rfl) ?_
        refine OpsL.val rfl rfl (r_load_call st79.sub (hc74.up le78) rfl Tryz.isAgg28 Tryz.sizeOf28 rfl) ?_
        refine OpsL.val rfl rfl (r_mvS rfl) ?_
        refine OpsL.callF st79 rfl rfl rfl Tryz.call10 rfl (c_stem_Steps st79.sub (t := (t)) (gf1_0x52.up (((le60.trans le67).trans le72).trans le78)) (x := (x)) (gf3_0x64.up (le72.trans le78)) (gf3_1x64.up (le72.trans le78)) _ (by first | assumption | (simp [big]; done) | (simp [big]; omega) | omega) (K0.up ((((((((le4.trans le10).trans le16).trans le24).trans le55).trans le60).trans le67).trans le72).trans le78))) ?_
        intro r81 w82 h83 le84 st85 q86
        obtain ⟨v87, rfl, f88⟩ := q86
        have f88_b := f88.le
        refine OpsL.val rfl rfl (r_mvT rfl) ?_
        refine OpsL.val rfl rfl (r_extract (v := v87) rfl rfl) ?_
        refine OpsL.val rfl rfl (r_extract (v := (.int _ _)) rfl rfl) ?_
        refine OpsL.val rfl rfl (r_assign (v := v87) rfl) ?_
        refine OpsL.val rfl rfl (r_asI rfl) ?_
        refine OpsL.nil ?_
        refine Then.norm ?_
        refine W.seq ?_
        refine W.region ?_
        refine OpsL.val rfl rfl (r_load_call st85.sub (hc5.up ((((((((le10.trans le16).trans le24).trans le55).trans le60).trans le67).trans le72).trans le78).trans le84)) rfl Tryz.isAgg24 Tryz.sizeOf24 rfl) ?_
        refine OpsL.val rfl rfl (r_load_call st85.sub (hc11.up (((((((le16.trans le24).trans le55).trans le60).trans le67).trans le72).trans le78).trans le84)) rfl Tryz.isAgg28 Tryz.sizeOf28 rfl) ?_
        refine OpsL.val rfl rfl (r_mvS rfl) ?_
        refine OpsL.callF st85 rfl rfl rfl Tryz.call11 rfl (c_postilref04_Steps st85.sub (t := t) (t_f0.up (((((((((le4.trans le10).trans le16).trans le24).trans le55).trans le60).trans le67).trans le72).trans le78).trans le84)) (x := x) (x_f0.up (((((((((le4.trans le10).trans le16).trans le24).trans le55).trans le60).trans le67).trans le72).trans le78).trans le84)) (x_f1.up (((((((((le4.trans le10).trans le16).trans le24).trans le55).trans le60).trans le67).trans le72).trans le78).trans le84)) _ (by first | assumption | (simp [big]; done) | (simp [big]; omega) | omega)) ?_
        intro r89 w90 h91 le92 st93 q94
        obtain ⟨v95, rfl, f96⟩ := q94
        have f96_b := f96.le
        refine OpsL.val rfl rfl (r_mvT rfl) ?_
        refine OpsL.val rfl rfl (r_extract (v := v95) rfl rfl) ?_
        refine OpsL.val rfl rfl (r_extract (v := (.int _ _)) rfl rfl) ?_
        refine OpsL.val rfl rfl (r_assign (v := v95) rfl) ?_
        refine OpsL.val rfl rfl (r_asI rfl) ?_
        refine OpsL.nil ?_
        refine Then.norm ?_
        refine W.seq ?_
        refine W.region ?_
        refine OpsL.val rfl rfl (r_load_call st93.sub (hc62.up ((((le67.trans le72).trans le78).trans le84).trans le92)) rfl Tryz.isAgg24 Tryz.sizeOf24 rfl) ?_
        refine OpsL.val rfl rfl (r_load_call st93.sub (hc74.up ((le78.trans le84).trans le92)) rfl Tryz.isAgg28 Tryz.sizeOf28 rfl) ?_
        refine OpsL.callF st93 rfl rfl rfl Tryz.call12 rfl (c_stem_Standing st93.sub (t := (t)) (gf1_0x52.up (((((le60.trans le67).trans le72).trans le78).trans le84).trans le92)) (x := (x)) (gf3_0x64.up (((le72.trans le78).trans le84).trans le92)) (gf3_1x64.up (((le72.trans le78).trans le84).trans le92)) (K0.up ((((((((((le4.trans le10).trans le16).trans le24).trans le55).trans le60).trans le67).trans le72).trans le78).trans le84).trans le92))) ?_
        intro r97 w98 h99 le100 st101 q102
        obtain ⟨v103, rfl, f104⟩ := q102
        have f104_b := f104.le
        refine OpsL.val rfl rfl (r_mvT rfl) ?_
        refine OpsL.val rfl rfl (r_extract (v := v103) rfl rfl) ?_
        refine OpsL.val rfl rfl (r_extract (v := (.int _ _)) rfl rfl) ?_
        refine OpsL.val rfl rfl (r_assign (v := v103) rfl) ?_
        refine OpsL.val rfl rfl (r_asI rfl) ?_
        refine OpsL.nil ?_
        refine Then.norm ?_
        refine W.seq ?_
        refine W.region ?_
        refine OpsL.val rfl rfl (r_load_call st101.sub (hc5.up ((((((((((le10.trans le16).trans le24).trans le55).trans le60).trans le67).trans le72).trans le78).trans le84).trans le92).trans le100)) rfl Tryz.isAgg24 Tryz.sizeOf24 rfl) ?_
        refine OpsL.val rfl rfl (r_load_call st101.sub (hc11.up (((((((((le16.trans le24).trans le55).trans le60).trans le67).trans le72).trans le78).trans le84).trans le92).trans le100)) rfl Tryz.isAgg28 Tryz.sizeOf28 rfl) ?_
        refine OpsL.callF st101 rfl rfl rfl Tryz.call13 rfl (c_postilref04_Standing st101.sub (t := t) (t_f0.up (((((((((((le4.trans le10).trans le16).trans le24).trans le55).trans le60).trans le67).trans le72).trans le78).trans le84).trans le92).trans le100)) (x := x) (x_f0.up (((((((((((le4.trans le10).trans le16).trans le24).trans le55).trans le60).trans le67).trans le72).trans le78).trans le84).trans le92).trans le100)) (x_f1.up (((((((((((le4.trans le10).trans le16).trans le24).trans le55).trans le60).trans le67).trans le72).trans le78).trans le84).trans le92).trans le100))) ?_
        intro r105 w106 h107 le108 st109 q110
        obtain ⟨v111, rfl, f112⟩ := q110
        have f112_b := f112.le
        refine OpsL.val rfl rfl (r_mvT rfl) ?_
        refine OpsL.val rfl rfl (r_extract (v := v111) rfl rfl) ?_
        refine OpsL.val rfl rfl (r_extract (v := (.int _ _)) rfl rfl) ?_
        refine OpsL.val rfl rfl (r_assign (v := v111) rfl) ?_
        refine OpsL.val rfl rfl (r_asI rfl) ?_
        refine OpsL.nil ?_
        refine Then.norm ?_
        refine W.seq ?_
        refine W.regionQ Tryz.mixed (by kernel_rfl) (Cls h107 _) (Cls.drew st109) ?_
        refine OpsQ.val rfl rfl (fun _ hC => (r_load_call hC.sub (hc62.up ((((((le67.trans le72).trans le78).trans le84).trans le92).trans le100).trans le108)) rfl Tryz.isAgg24 Tryz.sizeOf24 rfl)) ?_
        refine OpsQ.val rfl rfl (fun _ hC => (r_load_call hC.sub (hc74.up ((((le78.trans le84).trans le92).trans le100).trans le108)) rfl Tryz.isAgg28 Tryz.sizeOf28 rfl)) ?_
        refine OpsQ.calls rfl rfl (fun _ => run_call rfl Tryz.call14 rfl) (fun _ hC => Rets.quiet hC (c_stem_Check hC.sub (t := (t)) (gf1_0x52.up (((((((le60.trans le67).trans le72).trans le78).trans le84).trans le92).trans le100).trans le108)) (x := (x)) (gf3_0x64.up (((((le72.trans le78).trans le84).trans le92).trans le100).trans le108)) (gf3_1x64.up (((((le72.trans le78).trans le84).trans le92).trans le100).trans le108)) (K0.up ((((((((((((le4.trans le10).trans le16).trans le24).trans le55).trans le60).trans le67).trans le72).trans le78).trans le84).trans le92).trans le100).trans le108)))) ?_
        refine OpsQ.val rfl rfl (fun _ hC => (r_load_call hC.sub (hc5.up (((((((((((le10.trans le16).trans le24).trans le55).trans le60).trans le67).trans le72).trans le78).trans le84).trans le92).trans le100).trans le108)) rfl Tryz.isAgg24 Tryz.sizeOf24 rfl)) ?_
        refine OpsQ.val rfl rfl (fun _ hC => (r_load_call hC.sub (hc11.up ((((((((((le16.trans le24).trans le55).trans le60).trans le67).trans le72).trans le78).trans le84).trans le92).trans le100).trans le108)) rfl Tryz.isAgg28 Tryz.sizeOf28 rfl)) ?_
        refine OpsQ.calls rfl rfl (fun _ => run_call rfl Tryz.call15 rfl) (fun _ hC => Rets.quiet hC (c_postilref04_Check hC.sub (t := t) (t_f0.up ((((((((((((le4.trans le10).trans le16).trans le24).trans le55).trans le60).trans le67).trans le72).trans le78).trans le84).trans le92).trans le100).trans le108)) (x := x) (x_f0.up ((((((((((((le4.trans le10).trans le16).trans le24).trans le55).trans le60).trans le67).trans le72).trans le78).trans le84).trans le92).trans le100).trans le108)) (x_f1.up ((((((((((((le4.trans le10).trans le16).trans le24).trans le55).trans le60).trans le67).trans le72).trans le78).trans le84).trans le92).trans le100).trans le108)))) ?_
        refine OpsQ.val rfl rfl (fun _ _ => (r_eql rfl rfl)) ?_
        refine OpsQ.val rfl rfl (fun _ _ => (r_mvB rfl)) ?_
        refine OpsQ.split (d := 65) rfl (fun g113 => ?_) (fun g113 => ?_)
        ·
          replace g113 := of_decide_eq_true g113
          refine OpsQ.guarded rfl rfl (d := 65) rfl ?_
          refine OpsQ.val rfl rfl (fun _ _ => (r_move (v := v87) rfl)) ?_
          refine OpsQ.guarded rfl rfl (d := 65) rfl ?_
          refine OpsQ.val rfl rfl (fun _ _ => (r_move (v := v95) rfl)) ?_
          refine OpsQ.guarded rfl rfl (d := 65) rfl ?_
          refine OpsQ.calls rfl rfl (fun _ => run_call rfl Tryz.call16 rfl) (fun _ hC => Rets.quiet hC (c_postilref01_SameWords hC.sub (f88.up ((le92.trans le100).trans le108)) (f96.up (le100.trans le108)))) ?_
          refine OpsQ.val rfl rfl (fun _ _ => (r_pickT (v := (.bool _)) rfl rfl)) ?_
          refine OpsQ.val rfl rfl (fun _ _ => (r_mvB rfl)) ?_
          refine OpsQ.split (d := 70) rfl (fun g114 => ?_) (fun g114 => ?_)
          ·
            refine OpsQ.guarded rfl rfl (d := 70) rfl ?_
            refine OpsQ.val rfl rfl (fun _ _ => (r_mvI rfl)) ?_
            refine OpsQ.guarded rfl rfl (d := 70) rfl ?_
            refine OpsQ.val rfl rfl (fun _ _ => (r_mvI rfl)) ?_
            refine OpsQ.guarded rfl rfl (d := 70) rfl ?_
            refine OpsQ.val rfl rfl (fun _ _ => (r_eql rfl rfl)) ?_
            refine OpsQ.val rfl rfl (fun _ _ => (r_pickT (v := (.bool _)) rfl rfl)) ?_
            refine OpsQ.val rfl rfl (fun _ _ => (r_mvB rfl)) ?_
            refine OpsQ.split (d := 75) rfl (fun g115 => ?_) (fun g115 => ?_)
            ·
              replace g115 := of_decide_eq_true g115
              refine OpsQ.guarded rfl rfl (d := 75) rfl ?_
              refine OpsQ.val rfl rfl (fun _ _ => (r_move (v := v103) rfl)) ?_
              refine OpsQ.guarded rfl rfl (d := 75) rfl ?_
              refine OpsQ.val rfl rfl (fun _ _ => (r_move (v := v111) rfl)) ?_
              refine OpsQ.guarded rfl rfl (d := 75) rfl ?_
              refine OpsQ.calls rfl rfl (fun _ => run_call rfl Tryz.call17 rfl) (fun _ hC => Rets.quiet hC (c_postillaw04_sameInts hC.sub (f104.up le108) f112)) ?_
              refine OpsQ.val rfl rfl (fun _ _ => (r_pickT (v := (.bool _)) rfl rfl)) ?_
              refine OpsQ.val rfl rfl (fun _ _ => (r_mvB rfl)) ?_
              refine OpsQ.split (d := 80) rfl (fun g116 => ?_) (fun g116 => ?_)
              ·
                refine OpsQ.guarded rfl rfl (d := 80) rfl ?_
                refine OpsQ.val rfl rfl (fun _ _ => (r_mvI rfl)) ?_
                refine OpsQ.guarded rfl rfl (d := 80) rfl ?_
                refine OpsQ.val rfl rfl (fun _ _ => (r_mvI rfl)) ?_
                refine OpsQ.guarded rfl rfl (d := 80) rfl ?_
                refine OpsQ.val rfl rfl (fun _ _ => (r_eql rfl rfl)) ?_
                refine OpsQ.val rfl rfl (fun _ _ => (r_pickT (v := (.bool _)) rfl rfl)) ?_
                refine OpsQ.val rfl rfl (fun _ _ => (r_mvB rfl)) ?_
                refine OpsQ.split (d := 85) rfl (fun g117 => ?_) (fun g117 => ?_)
                ·
                  replace g117 := of_decide_eq_true g117
                  refine OpsQ.guarded rfl rfl (d := 85) rfl ?_
                  refine OpsQ.val rfl rfl (fun _ hC => (r_load_call hC.sub (hc62.up ((((((le67.trans le72).trans le78).trans le84).trans le92).trans le100).trans le108)) rfl Tryz.isAgg24 Tryz.sizeOf24 rfl)) ?_
                  refine OpsQ.guarded rfl rfl (d := 85) rfl ?_
                  refine OpsQ.val rfl rfl (fun _ hC => (r_load_call hC.sub (hc5.up (((((((((((le10.trans le16).trans le24).trans le55).trans le60).trans le67).trans le72).trans le78).trans le84).trans le92).trans le100).trans le108)) rfl Tryz.isAgg24 Tryz.sizeOf24 rfl)) ?_
                  refine OpsQ.guarded rfl rfl (d := 85) rfl ?_
                  refine OpsQ.calls rfl rfl (fun _ => run_call rfl Tryz.call18 rfl) (fun _ hC => Rets.quiet hC (c_postilref01_Same hC.sub (a := (t)) (gf1_0x52.up (((((((le60.trans le67).trans le72).trans le78).trans le84).trans le92).trans le100).trans le108)) (b := t) (t_f0.up ((((((((((((le4.trans le10).trans le16).trans le24).trans le55).trans le60).trans le67).trans le72).trans le78).trans le84).trans le92).trans le100).trans le108)))) ?_
                  refine OpsQ.val rfl rfl (fun _ _ => (r_pickT (v := (.bool _)) rfl rfl)) ?_
                  refine OpsQ.val rfl rfl (fun _ _ => (r_mvB rfl)) ?_
                  refine OpsQ.split (d := 90) rfl (fun g118 => ?_) (fun g118 => ?_)
                  ·
                    refine OpsQ.guarded rfl rfl (d := 90) rfl ?_
                    refine OpsQ.val rfl rfl (fun _ hC => (r_load_call hC.sub (hc74.up ((((le78.trans le84).trans le92).trans le100).trans le108)) rfl Tryz.isAgg28 Tryz.sizeOf28 rfl)) ?_
                    refine OpsQ.guarded rfl rfl (d := 90) rfl ?_
                    refine OpsQ.val rfl rfl (fun _ hC => (r_load_call hC.sub (hc11.up ((((((((((le16.trans le24).trans le55).trans le60).trans le67).trans le72).trans le78).trans le84).trans le92).trans le100).trans le108)) rfl Tryz.isAgg28 Tryz.sizeOf28 rfl)) ?_
                    refine OpsQ.guarded rfl rfl (d := 90) rfl ?_
                    refine OpsQ.calls rfl rfl (fun _ => run_call rfl Tryz.call19 rfl) (fun _ hC => Rets.quiet hC (c_postilref04_Same hC.sub (a := (x)) (gf3_0x64.up (((((le72.trans le78).trans le84).trans le92).trans le100).trans le108)) (gf3_1x64.up (((((le72.trans le78).trans le84).trans le92).trans le100).trans le108)) (b := x) (x_f0.up ((((((((((((le4.trans le10).trans le16).trans le24).trans le55).trans le60).trans le67).trans le72).trans le78).trans le84).trans le92).trans le100).trans le108)) (x_f1.up ((((((((((((le4.trans le10).trans le16).trans le24).trans le55).trans le60).trans le67).trans le72).trans le78).trans le84).trans le92).trans le100).trans le108)))) ?_
                    refine OpsQ.val rfl rfl (fun _ _ => (r_pickT (v := (.bool _)) rfl rfl)) ?_
                    refine OpsQ.val rfl rfl (fun _ _ => (r_asB rfl)) ?_
                    refine OpsQ.nil ?_
                    rintro w119 ⟨h120, s121⟩
                    have st122 := st109.call0 s121
                    refine Then.norm ?_
                    refine W.ret ?_
                    -- return r4
                    refine Post.ret1 Tryz.results3 ?_
                    refine ⟨h120, _, rfl, st122.done, ?_⟩
                    refine bool_eq ?_
                    simp_all
                  ·
                    refine OpsQ.skipped rfl rfl (d := 90) rfl rfl rfl ?_
                    refine OpsQ.skipped rfl rfl (d := 90) rfl rfl rfl ?_
                    refine OpsQ.skipped rfl rfl (d := 90) rfl rfl rfl ?_
                    refine OpsQ.val rfl rfl (fun _ _ => (r_pickF (v := (.bool _)) rfl rfl)) ?_
                    refine OpsQ.val rfl rfl (fun _ _ => (r_asB rfl)) ?_
                    refine OpsQ.nil ?_
                    rintro w123 ⟨h124, s125⟩
                    have st126 := st109.call0 s125
                    refine Then.norm ?_
                    refine W.ret ?_
                    -- return r5
                    refine Post.ret1 Tryz.results3 ?_
                    refine ⟨h124, _, rfl, st126.done, ?_⟩
                    refine bool_eq ?_
                    simp_all
                ·
                  replace g117 := of_decide_eq_false g117
                  refine OpsQ.skipped rfl rfl (d := 85) rfl rfl rfl ?_
                  refine OpsQ.skipped rfl rfl (d := 85) rfl rfl rfl ?_
                  refine OpsQ.skipped rfl rfl (d := 85) rfl rfl rfl ?_
                  refine OpsQ.val rfl rfl (fun _ _ => (r_pickF (v := (.bool _)) rfl rfl)) ?_
                  refine OpsQ.val rfl rfl (fun _ _ => (r_mvB rfl)) ?_
                  refine OpsQ.skipped rfl rfl (d := 90) rfl rfl rfl ?_
                  refine OpsQ.skipped rfl rfl (d := 90) rfl rfl rfl ?_
                  refine OpsQ.skipped rfl rfl (d := 90) rfl rfl rfl ?_
                  refine OpsQ.val rfl rfl (fun _ _ => (r_pickF (v := (.bool _)) rfl rfl)) ?_
                  refine OpsQ.val rfl rfl (fun _ _ => (r_asB rfl)) ?_
                  refine OpsQ.nil ?_
                  rintro w127 ⟨h128, s129⟩
                  have st130 := st109.call0 s129
                  refine Then.norm ?_
                  refine W.ret ?_
                  -- return r6
                  refine Post.ret1 Tryz.results3 ?_
                  refine ⟨h128, _, rfl, st130.done, ?_⟩
                  refine bool_eq ?_
                  simp_all
              ·
                refine OpsQ.skipped rfl rfl (d := 80) rfl rfl rfl ?_
                refine OpsQ.skipped rfl rfl (d := 80) rfl rfl rfl ?_
                refine OpsQ.skipped rfl rfl (d := 80) rfl rfl rfl ?_
                refine OpsQ.val rfl rfl (fun _ _ => (r_pickF (v := (.bool _)) rfl rfl)) ?_
                refine OpsQ.val rfl rfl (fun _ _ => (r_mvB rfl)) ?_
                refine OpsQ.skipped rfl rfl (d := 85) rfl rfl rfl ?_
                refine OpsQ.skipped rfl rfl (d := 85) rfl rfl rfl ?_
                refine OpsQ.skipped rfl rfl (d := 85) rfl rfl rfl ?_
                refine OpsQ.val rfl rfl (fun _ _ => (r_pickF (v := (.bool _)) rfl rfl)) ?_
                refine OpsQ.val rfl rfl (fun _ _ => (r_mvB rfl)) ?_
                refine OpsQ.skipped rfl rfl (d := 90) rfl rfl rfl ?_
                refine OpsQ.skipped rfl rfl (d := 90) rfl rfl rfl ?_
                refine OpsQ.skipped rfl rfl (d := 90) rfl rfl rfl ?_
                refine OpsQ.val rfl rfl (fun _ _ => (r_pickF (v := (.bool _)) rfl rfl)) ?_
                refine OpsQ.val rfl rfl (fun _ _ => (r_asB rfl)) ?_
                refine OpsQ.nil ?_
                rintro w131 ⟨h132, s133⟩
                have st134 := st109.call0 s133
                refine Then.norm ?_
                refine W.ret ?_
                -- return r7
                refine Post.ret1 Tryz.results3 ?_
                refine ⟨h132, _, rfl, st134.done, ?_⟩
                refine bool_eq ?_
                simp_all
            ·
              replace g115 := of_decide_eq_false g115
              refine OpsQ.skipped rfl rfl (d := 75) rfl rfl rfl ?_
              refine OpsQ.skipped rfl rfl (d := 75) rfl rfl rfl ?_
              refine OpsQ.skipped rfl rfl (d := 75) rfl rfl rfl ?_
              refine OpsQ.val rfl rfl (fun _ _ => (r_pickF (v := (.bool _)) rfl rfl)) ?_
              refine OpsQ.val rfl rfl (fun _ _ => (r_mvB rfl)) ?_
              refine OpsQ.skipped rfl rfl (d := 80) rfl rfl rfl ?_
              refine OpsQ.skipped rfl rfl (d := 80) rfl rfl rfl ?_
              refine OpsQ.skipped rfl rfl (d := 80) rfl rfl rfl ?_
              refine OpsQ.val rfl rfl (fun _ _ => (r_pickF (v := (.bool _)) rfl rfl)) ?_
              refine OpsQ.val rfl rfl (fun _ _ => (r_mvB rfl)) ?_
              refine OpsQ.skipped rfl rfl (d := 85) rfl rfl rfl ?_
              refine OpsQ.skipped rfl rfl (d := 85) rfl rfl rfl ?_
              refine OpsQ.skipped rfl rfl (d := 85) rfl rfl rfl ?_
              refine OpsQ.val rfl rfl (fun _ _ => (r_pickF (v := (.bool _)) rfl rfl)) ?_
              refine OpsQ.val rfl rfl (fun _ _ => (r_mvB rfl)) ?_
              refine OpsQ.skipped rfl rfl (d := 90) rfl rfl rfl ?_
              refine OpsQ.skipped rfl rfl (d := 90) rfl rfl rfl ?_
              refine OpsQ.skipped rfl rfl (d := 90) rfl rfl rfl ?_
              refine OpsQ.val rfl rfl (fun _ _ => (r_pickF (v := (.bool _)) rfl rfl)) ?_
              refine OpsQ.val rfl rfl (fun _ _ => (r_asB rfl)) ?_
              refine OpsQ.nil ?_
              rintro w135 ⟨h136, s137⟩
              have st138 := st109.call0 s137
              refine Then.norm ?_
              refine W.ret ?_
              -- return r8
              refine Post.ret1 Tryz.results3 ?_
              refine ⟨h136, _, rfl, st138.done, ?_⟩
              refine bool_eq ?_
              simp_all
          ·
            refine OpsQ.skipped rfl rfl (d := 70) rfl rfl rfl ?_
            refine OpsQ.skipped rfl rfl (d := 70) rfl rfl rfl ?_
            refine OpsQ.skipped rfl rfl (d := 70) rfl rfl rfl ?_
            refine OpsQ.val rfl rfl (fun _ _ => (r_pickF (v := (.bool _)) rfl rfl)) ?_
            refine OpsQ.val rfl rfl (fun _ _ => (r_mvB rfl)) ?_
            refine OpsQ.skipped rfl rfl (d := 75) rfl rfl rfl ?_
            refine OpsQ.skipped rfl rfl (d := 75) rfl rfl rfl ?_
            refine OpsQ.skipped rfl rfl (d := 75) rfl rfl rfl ?_
            refine OpsQ.val rfl rfl (fun _ _ => (r_pickF (v := (.bool _)) rfl rfl)) ?_
            refine OpsQ.val rfl rfl (fun _ _ => (r_mvB rfl)) ?_
            refine OpsQ.skipped rfl rfl (d := 80) rfl rfl rfl ?_
            refine OpsQ.skipped rfl rfl (d := 80) rfl rfl rfl ?_
            refine OpsQ.skipped rfl rfl (d := 80) rfl rfl rfl ?_
            refine OpsQ.val rfl rfl (fun _ _ => (r_pickF (v := (.bool _)) rfl rfl)) ?_
            refine OpsQ.val rfl rfl (fun _ _ => (r_mvB rfl)) ?_
            refine OpsQ.skipped rfl rfl (d := 85) rfl rfl rfl ?_
            refine OpsQ.skipped rfl rfl (d := 85) rfl rfl rfl ?_
            refine OpsQ.skipped rfl rfl (d := 85) rfl rfl rfl ?_
            refine OpsQ.val rfl rfl (fun _ _ => (r_pickF (v := (.bool _)) rfl rfl)) ?_
            refine OpsQ.val rfl rfl (fun _ _ => (r_mvB rfl)) ?_
            refine OpsQ.skipped rfl rfl (d := 90) rfl rfl rfl ?_
            refine OpsQ.skipped rfl rfl (d := 90) rfl rfl rfl ?_
            refine OpsQ.skipped rfl rfl (d := 90) rfl rfl rfl ?_
            refine OpsQ.val rfl rfl (fun _ _ => (r_pickF (v := (.bool _)) rfl rfl)) ?_
            refine OpsQ.val rfl rfl (fun _ _ => (r_asB rfl)) ?_
            refine OpsQ.nil ?_
            rintro w139 ⟨h140, s141⟩
            have st142 := st109.call0 s141
            refine Then.norm ?_
            refine W.ret ?_
            -- return r9
            refine Post.ret1 Tryz.results3 ?_
            refine ⟨h140, _, rfl, st142.done, ?_⟩
            refine bool_eq ?_
            simp_all
        ·
          replace g113 := of_decide_eq_false g113
          refine OpsQ.skipped rfl rfl (d := 65) rfl rfl rfl ?_
          refine OpsQ.skipped rfl rfl (d := 65) rfl rfl rfl ?_
          refine OpsQ.skipped rfl rfl (d := 65) rfl rfl rfl ?_
          refine OpsQ.val rfl rfl (fun _ _ => (r_pickF (v := (.bool _)) rfl rfl)) ?_
          refine OpsQ.val rfl rfl (fun _ _ => (r_mvB rfl)) ?_
          refine OpsQ.skipped rfl rfl (d := 70) rfl rfl rfl ?_
          refine OpsQ.skipped rfl rfl (d := 70) rfl rfl rfl ?_
          refine OpsQ.skipped rfl rfl (d := 70) rfl rfl rfl ?_
          refine OpsQ.val rfl rfl (fun _ _ => (r_pickF (v := (.bool _)) rfl rfl)) ?_
          refine OpsQ.val rfl rfl (fun _ _ => (r_mvB rfl)) ?_
          refine OpsQ.skipped rfl rfl (d := 75) rfl rfl rfl ?_
          refine OpsQ.skipped rfl rfl (d := 75) rfl rfl rfl ?_
          refine OpsQ.skipped rfl rfl (d := 75) rfl rfl rfl ?_
          refine OpsQ.val rfl rfl (fun _ _ => (r_pickF (v := (.bool _)) rfl rfl)) ?_
          refine OpsQ.val rfl rfl (fun _ _ => (r_mvB rfl)) ?_
          refine OpsQ.skipped rfl rfl (d := 80) rfl rfl rfl ?_
          refine OpsQ.skipped rfl rfl (d := 80) rfl rfl rfl ?_
          refine OpsQ.skipped rfl rfl (d := 80) rfl rfl rfl ?_
          refine OpsQ.val rfl rfl (fun _ _ => (r_pickF (v := (.bool _)) rfl rfl)) ?_
          refine OpsQ.val rfl rfl (fun _ _ => (r_mvB rfl)) ?_
          refine OpsQ.skipped rfl rfl (d := 85) rfl rfl rfl ?_
          refine OpsQ.skipped rfl rfl (d := 85) rfl rfl rfl ?_
          refine OpsQ.skipped rfl rfl (d := 85) rfl rfl rfl ?_
          refine OpsQ.val rfl rfl (fun _ _ => (r_pickF (v := (.bool _)) rfl rfl)) ?_
          refine OpsQ.val rfl rfl (fun _ _ => (r_mvB rfl)) ?_
          refine OpsQ.skipped rfl rfl (d := 90) rfl rfl rfl ?_
          refine OpsQ.skipped rfl rfl (d := 90) rfl rfl rfl ?_
          refine OpsQ.skipped rfl rfl (d := 90) rfl rfl rfl ?_
          refine OpsQ.val rfl rfl (fun _ _ => (r_pickF (v := (.bool _)) rfl rfl)) ?_
          refine OpsQ.val rfl rfl (fun _ _ => (r_asB rfl)) ?_
          refine OpsQ.nil ?_
          rintro w143 ⟨h144, s145⟩
          have st146 := st109.call0 s145
          refine Then.norm ?_
          refine W.ret ?_
          -- return r10
          refine Post.ret1 Tryz.results3 ?_
          refine ⟨h144, _, rfl, st146.done, ?_⟩
          refine bool_eq ?_
          simp_all
end Go.Pk
