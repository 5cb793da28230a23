/- A PART OF THE PROOF: contracts of functions, each walked once (much of it printed by a program of the author's own). -/
import Derived.Test.YtngmpkoobdkeiaaGreatDoorT11
import Derived.Test.YtngmpkoobdkeiaaGreatDoorT8
import Derived.Test.YtngmpkoobdkeiaaGreatDoorT3
namespace Go.Pk
open Go Go.RowKit Go.Proofs
set_option maxRecDepth 4000 in
set_option maxHeartbeats 4000000 in
theorem c_postillaw04_StemHeads {h : Heap} {w : World} (hs : Sub h w) {t : Text} {t_v0 : Value} (t_f0 : Sl LChapter h t_v0 t.chapters) {x : Lexicon} {x_v0 : Value} (x_f0 : Sl LRule h x_v0 x.rules) {x_v1 : Value} (x_f1 : Sl LDecision h x_v1 x.decisions) {p : Place} {hd : Head} (hd_l1 : hd.stem.length ≤ 281474976710656) (hd_l2 : 0 ≤ hd.mark ∧ hd.mark ≤ 255) (K0 : Cells h 0 0 Tryz.glob0) : Calls Tryz.prog 5 #[.agg #[t_v0], .agg #[x_v0, x_v1], .agg #[.int .i64 p.chapter, .int .i64 p.line, .int .i64 p.word], .agg #[strV hd.stem, .int .u8 hd.mark]] w (Rets h w (fun _ _ res_ => res_ = .bool (true))) := by
 refine zM (n := 167) (args := [.agg #[t_v0], .agg #[x_v0, x_v1], .agg #[.int .i64 p.chapter, .int .i64 p.line, .int .i64 p.word], .agg #[strV hd.stem, .int .u8 hd.mark]]) Tryz.func5 X X X ?_
 have st0 : St h w h w [] := St.start hs
 have t_f0_b := t_f0.le
 have x_f0_b := x_f0.le
 have x_f1_b := x_f1.le
 refine zd<|O<|zp st0 (cs := [t_v0]) X X X ?_
 intro b1 w2 h3 le4 hc5 st6
 refine zp st6 (cs := [x_v0, x_v1]) X X X ?_
 intro b7 w8 h9 le10 hc11 st12
 refine zp st12 (cs := [.int .i64 (p.chapter), .int .i64 (p.line), .int .i64 (p.word)]) X X X ?_
 intro b13 w14 h15 le16 hc17 st18
 refine zp st18 (cs := [strV (hd.stem), .int .u8 (hd.mark)]) X X X ?_
 intro b19 w20 h21 le22 hc23 st24
 refine Y X X (zH X)<|E<|M<|zd<|zd<|O<|Y X X (zf st24.sub (hc5.up ((le10.trans le16).trans le22)) X Tryz.isAgg24 Tryz.sizeOf24 X)<|zm st24 X X X Tryz.call6 X (c_postilref01_Great st24.sub (t := t) (t_f0.up (((le4.trans le10).trans le16).trans le22))) ?_
 intro r25 w26 h27 le28 st29 q30
 obtain rfl := q30
 refine Y X X (zN X) ?_
 refine zD (d := 29) rfl (fun g31 => ?_) (fun g31 => ?_)
 ·
  refine U X X (d := 29) X X X<|U X X (d := 29) X X X<|Y X X (zJ (v := (.bool _)) X X)<|Y X X (zN X)<|U X X (d := 33) X X X<|U X X (d := 33) X X X<|U X X (d := 33) X X X<|U X X (d := 33) X X X<|Y X X (zJ (v := (.bool _)) X X)<|E<|M ?_
  refine zr rfl (fun c32 => ?_) (fun c32 => ?_)
  ·
   refine zd<|O<|Y X X (zH X)<|E<|M<|zy<|zj<|zh Tryz.results5 ?_
   refine ⟨h27, _, rfl, st29.done, ?_⟩
   refine zt ?_
   simp_all
  ·
   cases c32
 ·
  refine za X X (d := 29) X<|Y X X (zf st29.sub (hc11.up ((le16.trans le22).trans le28)) X Tryz.isAgg28 Tryz.sizeOf28 X)<|za X X (d := 29) X<|zm st29 X X X Tryz.call7 X (c_postilref04_Great st29.sub (x := x) (x_f0.up ((((le4.trans le10).trans le16).trans le22).trans le28)) (x_f1.up ((((le4.trans le10).trans le16).trans le22).trans le28))) ?_
  intro r33 w34 h35 le36 st37 q38
  obtain rfl := q38
  refine Y X X (zw (v := (.bool _)) X X)<|Y X X (zN X) ?_
  refine zD (d := 33) rfl (fun g39 => ?_) (fun g39 => ?_)
  ·
   refine U X X (d := 33) X X X<|U X X (d := 33) X X X<|U X X (d := 33) X X X<|U X X (d := 33) X X X<|Y X X (zJ (v := (.bool _)) X X)<|E<|M ?_
   refine zr rfl (fun c40 => ?_) (fun c40 => ?_)
   ·
    refine zd<|O<|Y X X (zH X)<|E<|M<|zy<|zj<|zh Tryz.results5 ?_
    refine ⟨h35, _, rfl, st37.done, ?_⟩
    refine zt ?_
    simp_all
   ·
    cases c40
  ·
   refine za X X (d := 33) X<|Y X X (zc X Tryz.underlying54 X Tryz.sizeOf9 X)<|za X X (d := 33) X<|Y X X (zb (j := 0) st37.sub (hc23.up (le28.trans le36)) X X X Tryz.isAgg9)<|za X X (d := 33) X<|Y X X (zan X Tryz.underlying9)<|za X X (d := 33) X<|Y X X (r_gtr X X)<|Y X X (zw (v := (.bool _)) X X)<|E<|M ?_
   refine zr rfl (fun c41 => ?_) (fun c41 => ?_)
   ·
    replace c41 := of_decide_eq_true c41
    refine zd<|O<|Y X X (zH X)<|E<|M<|zy<|zj<|zh Tryz.results5 ?_
    refine ⟨h35, _, rfl, st37.done, ?_⟩
    refine zt ?_
    simp_all
   ·
    replace c41 := of_decide_eq_false c41
    refine zB<|M<|zd<|zac (er := ([], [], [], [], 0)) (dsts := [39, 40, 41, 42, 9, 10]) st37 Tryz.mixed<|zi 0 [] X t_kr t_kr X X (fun hD wD τD hL hS hO  => (zf (hL.sub hS) (hc5.up ((((le10.trans le16).trans le22).trans le28).trans le36)) X Tryz.isAgg24 Tryz.sizeOf24 X)) ?_
    refine zS 1 (.res (fun h' res_ => ∃ gv1_0, res_ = .agg #[gv1_0] ∧ Sl LChapter h' gv1_0 ((t)).chapters) (by rintro _ _ _ hl ⟨gv1_0, e_, gf1_0⟩; exact ⟨gv1_0, e_, gf1_0.up hl⟩)) [0] rfl t_kr t_kr ?_ ?_
    ·
     intro hD wD τD hL hS hO _ _
     have st42 := St.start hS
     refine zm st42 rfl rfl rfl Tryz.call8 rfl (c_postilref01_Twin st42.sub (t := t) (t_f0.up ((((((le4.trans le10).trans le16).trans le22).trans le28).trans le36).trans hL)) (by simpa using g31)) ?_
     intro r43 w44 h45 le46 st47 q48
     obtain ⟨v49, rfl, f50⟩ := q48
     have f50_b := f50.le
     exact E ⟨_, _, rfl, st47, _, rfl, ⟨_, rfl, f50⟩⟩
    refine zi 2 [] X t_kr t_kr X X (fun hD wD τD hL hS hO  => (zf (hL.sub hS) (hc11.up (((le16.trans le22).trans le28).trans le36)) X Tryz.isAgg28 Tryz.sizeOf28 X)) ?_
    refine zS 3 (.res (fun h' res_ => ∃ gv3_0 gv3_1, res_ = .agg #[gv3_0, gv3_1] ∧ Sl LRule h' gv3_0 ((x)).rules ∧ Sl LDecision h' gv3_1 ((x)).decisions) (by rintro _ _ _ hl ⟨gv3_0, gv3_1, e_, gf3_0, gf3_1⟩; exact ⟨gv3_0, gv3_1, e_, gf3_0.up hl, gf3_1.up hl⟩)) [0, 1] rfl t_kr t_kr ?_ ?_
    ·
     intro hD wD τD hL hS hO _ _ gv1_ gf1_
     obtain ⟨gv1_0, rfl, gf1_0⟩ := gf1_
     have st51 := St.start hS
     refine zm st51 rfl rfl rfl Tryz.call9 rfl (c_postilref04_Twin st51.sub (x := x) (x_f0.up ((((((le4.trans le10).trans le16).trans le22).trans le28).trans le36).trans hL)) (x_f1.up ((((((le4.trans le10).trans le16).trans le22).trans le28).trans le36).trans hL)) (by simpa using g39)) ?_
     intro r52 w53 h54 le55 st56 q57
     obtain ⟨v58, v60, rfl, f59, f61⟩ := q57
     have f59_b := f59.le
     have f61_b := f61.le
     exact E ⟨_, _, rfl, st56, _, rfl, ⟨_, _, rfl, f59, f61⟩⟩
    refine Drw.al Tryz.zeroValue24 X<|Drw.al Tryz.zeroValue28 X<|zaf<|zaf<|zaq X X X X X X ⟨t_kr, X, t_kr, X, t_kr, X, X, t_kr, (zY X (zY X cx_nil))⟩ ?_
    intro b62
    intro b63
    intro hE65 w66 _ le67 st68 gv3_x64 gf3_x64 _ _ gv1_x64 gf1_x64
    obtain ⟨gv3_0x64, gv3_1x64, rfl, gf3_0x64, gf3_1x64⟩ := gf3_x64
    obtain ⟨gv1_0x64, rfl, gf1_0x64⟩ := gf1_x64
    refine zI st68 (k := 0) X X X (zg gf1_0x64.one zX) Tryz.sizeOf24 X X X ?_
    intro w69 st70
    obtain ⟨h71, le72, hb73, st75⟩ := st70.freeze (k := 0) rfl
    have hc74 := Cells.of hb73
    refine E ⟨undef, rfl, _, _, le72, st75, ?_⟩
    intro hE77 w78 _ le79 st80 _ _ gv1_x76 gf1_x76 _ _ gv3_x76 gf3_x76
    obtain ⟨gv1_0x76, rfl, gf1_0x76⟩ := gf1_x76
    obtain ⟨gv3_0x76, gv3_1x76, rfl, gf3_0x76, gf3_1x76⟩ := gf3_x76
    refine zI st80 (k := 1) X X X (zg gf3_0x76.one (zg gf3_1x76.one zX)) Tryz.sizeOf28 X X X ?_
    intro w81 st82
    obtain ⟨h83, le84, hb85, st87⟩ := st82.freeze (k := 1) rfl
    have hc86 := Cells.of hb85
    refine E ⟨undef, rfl, _, _, le84, st87, ?_⟩
    intro hE88 w89 _ le90 st91 _ _ gv1_x92 gf1_x92 _ _ gv3_x92 gf3_x92
    obtain ⟨gv1_0x92, rfl, gf1_0x92⟩ := gf1_x92
    obtain ⟨gv3_0x92, gv3_1x92, rfl, gf3_0x92, gf3_1x92⟩ := gf3_x92
    refine AllDeps.fin X<|M<|zd<|O<|Y X X (zf st91.sub (hc74.up ((le79.trans le84).trans le90)) X Tryz.isAgg24 Tryz.sizeOf24 X)<|Y X X (zf st91.sub (hc86.up le90) X Tryz.isAgg28 Tryz.sizeOf28 X)<|Y X X (zf st91.sub (hc17.up (((((((le22.trans le28).trans le36).trans le67).trans le72).trans le79).trans le84).trans le90)) X Tryz.isAgg52 Tryz.sizeOf52 X)<|zm st91 X X X Tryz.call29 X (c_stem_HeadOf st91.sub (t := (t)) (gf1_0x64.up (((le72.trans le79).trans le84).trans le90)) (x := (x)) (gf3_0x76.up (le84.trans le90)) (gf3_1x76.up (le84.trans le90)) (p := p) (K0.up ((((((((((le4.trans le10).trans le16).trans le22).trans le28).trans le36).trans le67).trans le72).trans le79).trans le84).trans le90))) ?_
    intro r93 w94 h95 le96 st97 q98
    obtain rfl := q98
    refine Y X X (r_mvT X)<|Y X X (zC (v := (.agg (List.toArray _))) X X)<|Y X X (zC (v := (.int _ _)) X X)<|zR st97 Tryz.zeroValue54 X X ?_
    intro b99 w100 st101
    refine zI st101 (k := 2) X X X (zg X (zg X zX)) Tryz.sizeOf54 X X X ?_
    intro w102 st103
    obtain ⟨h104, le105, hb106, st108⟩ := st103.freeze (k := 2) rfl
    have hc107 := Cells.of hb106
    refine Y X X (zz X)<|E<|M<|zd<|O<|Y X X (zf st108.sub (hc5.up (((((((((((le10.trans le16).trans le22).trans le28).trans le36).trans le67).trans le72).trans le79).trans le84).trans le90).trans le96).trans le105)) X Tryz.isAgg24 Tryz.sizeOf24 X)<|Y X X (zf st108.sub (hc11.up ((((((((((le16.trans le22).trans le28).trans le36).trans le67).trans le72).trans le79).trans le84).trans le90).trans le96).trans le105)) X Tryz.isAgg28 Tryz.sizeOf28 X)<|Y X X (zf st108.sub (hc17.up (((((((((le22.trans le28).trans le36).trans le67).trans le72).trans le79).trans le84).trans le90).trans le96).trans le105)) X Tryz.isAgg52 Tryz.sizeOf52 X)<|zm st108 X X X Tryz.call30 X (c_postilref04_HeadOf st108.sub (t := t) (t_f0.up ((((((((((((le4.trans le10).trans le16).trans le22).trans le28).trans le36).trans le67).trans le72).trans le79).trans le84).trans le90).trans le96).trans le105)) (x := x) (x_f0.up ((((((((((((le4.trans le10).trans le16).trans le22).trans le28).trans le36).trans le67).trans le72).trans le79).trans le84).trans le90).trans le96).trans le105)) (x_f1.up ((((((((((((le4.trans le10).trans le16).trans le22).trans le28).trans le36).trans le67).trans le72).trans le79).trans le84).trans le90).trans le96).trans le105)) (p := p)) ?_
    intro r109 w110 h111 le112 st113 q114
    obtain rfl := q114
    refine Y X X (r_mvT X)<|Y X X (zC (v := (.agg (List.toArray _))) X X)<|Y X X (zC (v := (.int _ _)) X X)<|zR st113 Tryz.zeroValue54 X X ?_
    intro b115 w116 st117
    refine zI st117 (k := 3) X X X (zg X (zg X zX)) Tryz.sizeOf54 X X X ?_
    intro w118 st119
    obtain ⟨h120, le121, hb122, st124⟩ := st119.freeze (k := 3) rfl
    have hc123 := Cells.of hb122
    refine Y X X (zz X)<|E<|M<|zd<|O<|Y X X (zf st124.sub (hc74.up ((((((le79.trans le84).trans le90).trans le96).trans le105).trans le112).trans le121)) X Tryz.isAgg24 Tryz.sizeOf24 X)<|Y X X (zf st124.sub (hc86.up ((((le90.trans le96).trans le105).trans le112).trans le121)) X Tryz.isAgg28 Tryz.sizeOf28 X)<|Y X X (zf st124.sub (hc17.up (((((((((((le22.trans le28).trans le36).trans le67).trans le72).trans le79).trans le84).trans le90).trans le96).trans le105).trans le112).trans le121)) X Tryz.isAgg52 Tryz.sizeOf52 X)<|zm st124 X X X Tryz.call31 X (c_stem_By st124.sub (t := (t)) (gf1_0x64.up (((((((le72.trans le79).trans le84).trans le90).trans le96).trans le105).trans le112).trans le121)) (x := (x)) (gf3_0x76.up (((((le84.trans le90).trans le96).trans le105).trans le112).trans le121)) (gf3_1x76.up (((((le84.trans le90).trans le96).trans le105).trans le112).trans le121)) (p := p) (K0.up ((((((((((((((le4.trans le10).trans le16).trans le22).trans le28).trans le36).trans le67).trans le72).trans le79).trans le84).trans le90).trans le96).trans le105).trans le112).trans le121))) ?_
    intro r125 w126 h127 le128 st129 q130
    obtain rfl := q130
    refine Y X X (r_mvT X)<|Y X X (zC (v := (.int _ _)) X X)<|Y X X (zC (v := (.int _ _)) X X)<|Y X X (zz X)<|Y X X (zz X)<|E<|M<|zd<|O<|Y X X (zf st129.sub (hc5.up ((((((((((((((le10.trans le16).trans le22).trans le28).trans le36).trans le67).trans le72).trans le79).trans le84).trans le90).trans le96).trans le105).trans le112).trans le121).trans le128)) X Tryz.isAgg24 Tryz.sizeOf24 X)<|Y X X (zf st129.sub (hc11.up (((((((((((((le16.trans le22).trans le28).trans le36).trans le67).trans le72).trans le79).trans le84).trans le90).trans le96).trans le105).trans le112).trans le121).trans le128)) X Tryz.isAgg28 Tryz.sizeOf28 X)<|Y X X (zf st129.sub (hc17.up ((((((((((((le22.trans le28).trans le36).trans le67).trans le72).trans le79).trans le84).trans le90).trans le96).trans le105).trans le112).trans le121).trans le128)) X Tryz.isAgg52 Tryz.sizeOf52 X)<|zm st129 X X X Tryz.call32 X (c_postilref04_By st129.sub (t := t) (t_f0.up (((((((((((((((le4.trans le10).trans le16).trans le22).trans le28).trans le36).trans le67).trans le72).trans le79).trans le84).trans le90).trans le96).trans le105).trans le112).trans le121).trans le128)) (x := x) (x_f0.up (((((((((((((((le4.trans le10).trans le16).trans le22).trans le28).trans le36).trans le67).trans le72).trans le79).trans le84).trans le90).trans le96).trans le105).trans le112).trans le121).trans le128)) (x_f1.up (((((((((((((((le4.trans le10).trans le16).trans le22).trans le28).trans le36).trans le67).trans le72).trans le79).trans le84).trans le90).trans le96).trans le105).trans le112).trans le121).trans le128)) (p := p)) ?_
    intro r131 w132 h133 le134 st135 q136
    obtain rfl := q136
    refine Y X X (r_mvT X)<|Y X X (zC (v := (.int _ _)) X X)<|Y X X (zC (v := (.int _ _)) X X)<|Y X X (zz X)<|Y X X (zz X)<|E<|M<|zd<|zd<|O<|Y X X (zf st135.sub (hc107.up (((le112.trans le121).trans le128).trans le134)) X Tryz.isAgg54 Tryz.sizeOf54 X)<|Y X X (zf st135.sub (hc123.up (le128.trans le134)) X Tryz.isAgg54 Tryz.sizeOf54 X)<|Y X X (r_stneq X X Tryz.eqGuardType54 (Tryz.eq_Head (askR ((t)) ((x)) (p)).to (askR (t) (x) (p)).to))<|Y X X (zN X) ?_
    refine zD (d := 74) rfl (fun g137 => ?_) (fun g137 => ?_)
    ·
     replace g137 := of_decide_eq_true g137
     refine U X X (d := 74) X X X<|U X X (d := 74) X X X<|U X X (d := 74) X X X<|Y X X (zJ (v := (.bool _)) X X)<|Y X X (zN X)<|U X X (d := 79) X X X<|U X X (d := 79) X X X<|U X X (d := 79) X X X<|Y X X (zJ (v := (.bool _)) X X)<|Y X X (zN X)<|U X X (d := 84) X X X<|U X X (d := 84) X X X<|U X X (d := 84) X X X<|Y X X (zJ (v := (.bool _)) X X)<|E<|M ?_
     refine zr rfl (fun c138 => ?_) (fun c138 => ?_)
     ·
      refine zd<|O<|Y X X (zH X)<|E<|M<|zy<|zj<|zh Tryz.results5 ?_
      refine ⟨h133, _, rfl, st135.done, ?_⟩
      refine zt ?_
      simp_all
     ·
      cases c138
    ·
     replace g137 := of_decide_eq_false g137
     refine za X X (d := 74) X<|Y X X (zo X)<|za X X (d := 74) X<|Y X X (zo X)<|za X X (d := 74) X<|Y X X (r_neq X X)<|Y X X (zw (v := (.bool _)) X X)<|Y X X (zN X) ?_
     refine zD (d := 79) rfl (fun g139 => ?_) (fun g139 => ?_)
     ·
      replace g139 := of_decide_eq_true g139
      refine U X X (d := 79) X X X<|U X X (d := 79) X X X<|U X X (d := 79) X X X<|Y X X (zJ (v := (.bool _)) X X)<|Y X X (zN X)<|U X X (d := 84) X X X<|U X X (d := 84) X X X<|U X X (d := 84) X X X<|Y X X (zJ (v := (.bool _)) X X)<|E<|M ?_
      refine zr rfl (fun c140 => ?_) (fun c140 => ?_)
      ·
       refine zd<|O<|Y X X (zH X)<|E<|M<|zy<|zj<|zh Tryz.results5 ?_
       refine ⟨h133, _, rfl, st135.done, ?_⟩
       refine zt ?_
       simp_all
      ·
       cases c140
     ·
      replace g139 := of_decide_eq_false g139
      refine za X X (d := 79) X<|Y X X (zo X)<|za X X (d := 79) X<|Y X X (zo X)<|za X X (d := 79) X<|Y X X (r_neq X X)<|Y X X (zw (v := (.bool _)) X X)<|Y X X (zN X) ?_
      refine zD (d := 84) rfl (fun g141 => ?_) (fun g141 => ?_)
      ·
       replace g141 := of_decide_eq_true g141
       refine U X X (d := 84) X X X<|U X X (d := 84) X X X<|U X X (d := 84) X X X<|Y X X (zJ (v := (.bool _)) X X)<|E<|M ?_
       refine zr rfl (fun c142 => ?_) (fun c142 => ?_)
       ·
        refine zd<|O<|Y X X (zH X)<|E<|M<|zy<|zj<|zh Tryz.results5 ?_
        refine ⟨h133, _, rfl, st135.done, ?_⟩
        refine zt ?_
        simp_all
       ·
        cases c142
      ·
       replace g141 := of_decide_eq_false g141
       refine za X X (d := 84) X<|Y X X (zo X)<|za X X (d := 84) X<|Y X X (zo X)<|za X X (d := 84) X<|Y X X (r_neq X X)<|Y X X (zw (v := (.bool _)) X X)<|E<|M ?_
       refine zr rfl (fun c143 => ?_) (fun c143 => ?_)
       ·
        replace c143 := of_decide_eq_true c143
        refine zd<|O<|Y X X (zH X)<|E<|M<|zy<|zj<|zh Tryz.results5 ?_
        refine ⟨h133, _, rfl, st135.done, ?_⟩
        refine zt ?_
        simp_all
       ·
        replace c143 := of_decide_eq_false c143
        refine zB<|M<|zd<|O<|Y X X (zf st135.sub (hc74.up ((((((((le79.trans le84).trans le90).trans le96).trans le105).trans le112).trans le121).trans le128).trans le134)) X Tryz.isAgg24 Tryz.sizeOf24 X)<|Y X X (zf st135.sub (hc86.up ((((((le90.trans le96).trans le105).trans le112).trans le121).trans le128).trans le134)) X Tryz.isAgg28 Tryz.sizeOf28 X)<|zm st135 X X X Tryz.call33 X (c_stem_Heads st135.sub (t := (t)) (gf1_0x64.up (((((((((le72.trans le79).trans le84).trans le90).trans le96).trans le105).trans le112).trans le121).trans le128).trans le134)) (x := (x)) (gf3_0x76.up (((((((le84.trans le90).trans le96).trans le105).trans le112).trans le121).trans le128).trans le134)) (gf3_1x76.up (((((((le84.trans le90).trans le96).trans le105).trans le112).trans le121).trans le128).trans le134)) (K0.up ((((((((((((((((le4.trans le10).trans le16).trans le22).trans le28).trans le36).trans le67).trans le72).trans le79).trans le84).trans le90).trans le96).trans le105).trans le112).trans le121).trans le128).trans le134))) ?_
        intro r144 w145 h146 le147 st148 q149
        obtain ⟨v150, rfl, f151⟩ := q149
        have f151_b := f151.le
        refine Y X X (r_mvT X)<|Y X X (zC (v := v150) X X)<|Y X X (zC (v := (.int _ _)) X X)<|Y X X (zG (v := v150) X)<|Y X X (zz X)<|E<|M<|zd<|O<|Y X X (zf st148.sub (hc5.up ((((((((((((((((le10.trans le16).trans le22).trans le28).trans le36).trans le67).trans le72).trans le79).trans le84).trans le90).trans le96).trans le105).trans le112).trans le121).trans le128).trans le134).trans le147)) X Tryz.isAgg24 Tryz.sizeOf24 X)<|Y X X (zf st148.sub (hc11.up (((((((((((((((le16.trans le22).trans le28).trans le36).trans le67).trans le72).trans le79).trans le84).trans le90).trans le96).trans le105).trans le112).trans le121).trans le128).trans le134).trans le147)) X Tryz.isAgg28 Tryz.sizeOf28 X)<|zm st148 X X X Tryz.call34 X (c_postilref04_Heads st148.sub (t := t) (t_f0.up (((((((((((((((((le4.trans le10).trans le16).trans le22).trans le28).trans le36).trans le67).trans le72).trans le79).trans le84).trans le90).trans le96).trans le105).trans le112).trans le121).trans le128).trans le134).trans le147)) (x := x) (x_f0.up (((((((((((((((((le4.trans le10).trans le16).trans le22).trans le28).trans le36).trans le67).trans le72).trans le79).trans le84).trans le90).trans le96).trans le105).trans le112).trans le121).trans le128).trans le134).trans le147)) (x_f1.up (((((((((((((((((le4.trans le10).trans le16).trans le22).trans le28).trans le36).trans le67).trans le72).trans le79).trans le84).trans le90).trans le96).trans le105).trans le112).trans le121).trans le128).trans le134).trans le147))) ?_
        intro r152 w153 h154 le155 st156 q157
        obtain ⟨v158, rfl, f159⟩ := q157
        have f159_b := f159.le
        refine Y X X (r_mvT X)<|Y X X (zC (v := v158) X X)<|Y X X (zC (v := (.int _ _)) X X)<|Y X X (zG (v := v158) X)<|Y X X (zz X)<|E<|M<|zd<|O<|Y X X (zf st156.sub (hc74.up ((((((((((le79.trans le84).trans le90).trans le96).trans le105).trans le112).trans le121).trans le128).trans le134).trans le147).trans le155)) X Tryz.isAgg24 Tryz.sizeOf24 X)<|Y X X (zf st156.sub (hc86.up ((((((((le90.trans le96).trans le105).trans le112).trans le121).trans le128).trans le134).trans le147).trans le155)) X Tryz.isAgg28 Tryz.sizeOf28 X)<|Y X X (zf st156.sub (hc23.up ((((((((((((((le28.trans le36).trans le67).trans le72).trans le79).trans le84).trans le90).trans le96).trans le105).trans le112).trans le121).trans le128).trans le134).trans le147).trans le155)) X Tryz.isAgg54 Tryz.sizeOf54 X)<|zm st156 X X X Tryz.call35 X (c_stem_Under st156.sub (t := (t)) (gf1_0x64.up (((((((((((le72.trans le79).trans le84).trans le90).trans le96).trans le105).trans le112).trans le121).trans le128).trans le134).trans le147).trans le155)) (x := (x)) (gf3_0x76.up (((((((((le84.trans le90).trans le96).trans le105).trans le112).trans le121).trans le128).trans le134).trans le147).trans le155)) (gf3_1x76.up (((((((((le84.trans le90).trans le96).trans le105).trans le112).trans le121).trans le128).trans le134).trans le147).trans le155)) (hd := hd) zZ t_u8 (K0.up ((((((((((((((((((le4.trans le10).trans le16).trans le22).trans le28).trans le36).trans le67).trans le72).trans le79).trans le84).trans le90).trans le96).trans le105).trans le112).trans le121).trans le128).trans le134).trans le147).trans le155))) ?_
        intro r160 w161 h162 le163 st164 q165
        obtain ⟨v166, rfl, f167⟩ := q165
        have f167_b := f167.le
        refine Y X X (r_mvT X)<|Y X X (zC (v := v166) X X)<|Y X X (zC (v := (.int _ _)) X X)<|Y X X (zG (v := v166) X)<|Y X X (zz X)<|E<|M<|zd<|O<|Y X X (zf st164.sub (hc5.up ((((((((((((((((((le10.trans le16).trans le22).trans le28).trans le36).trans le67).trans le72).trans le79).trans le84).trans le90).trans le96).trans le105).trans le112).trans le121).trans le128).trans le134).trans le147).trans le155).trans le163)) X Tryz.isAgg24 Tryz.sizeOf24 X)<|Y X X (zf st164.sub (hc11.up (((((((((((((((((le16.trans le22).trans le28).trans le36).trans le67).trans le72).trans le79).trans le84).trans le90).trans le96).trans le105).trans le112).trans le121).trans le128).trans le134).trans le147).trans le155).trans le163)) X Tryz.isAgg28 Tryz.sizeOf28 X)<|Y X X (zf st164.sub (hc23.up (((((((((((((((le28.trans le36).trans le67).trans le72).trans le79).trans le84).trans le90).trans le96).trans le105).trans le112).trans le121).trans le128).trans le134).trans le147).trans le155).trans le163)) X Tryz.isAgg54 Tryz.sizeOf54 X)<|zm st164 X X X Tryz.call36 X (c_postilref04_Under st164.sub (t := t) (t_f0.up (((((((((((((((((((le4.trans le10).trans le16).trans le22).trans le28).trans le36).trans le67).trans le72).trans le79).trans le84).trans le90).trans le96).trans le105).trans le112).trans le121).trans le128).trans le134).trans le147).trans le155).trans le163)) (x := x) (x_f0.up (((((((((((((((((((le4.trans le10).trans le16).trans le22).trans le28).trans le36).trans le67).trans le72).trans le79).trans le84).trans le90).trans le96).trans le105).trans le112).trans le121).trans le128).trans le134).trans le147).trans le155).trans le163)) (x_f1.up (((((((((((((((((((le4.trans le10).trans le16).trans le22).trans le28).trans le36).trans le67).trans le72).trans le79).trans le84).trans le90).trans le96).trans le105).trans le112).trans le121).trans le128).trans le134).trans le147).trans le155).trans le163)) (hd := hd) zZ t_u8) ?_
        intro r168 w169 h170 le171 st172 q173
        obtain ⟨v174, rfl, f175⟩ := q173
        have f175_b := f175.le
        refine Y X X (r_mvT X)<|Y X X (zC (v := v174) X X)<|Y X X (zC (v := (.int _ _)) X X)<|Y X X (zG (v := v174) X)<|Y X X (zz X)<|E<|M<|zd<|O<|Y X X (zf st172.sub (hc74.up ((((((((((((le79.trans le84).trans le90).trans le96).trans le105).trans le112).trans le121).trans le128).trans le134).trans le147).trans le155).trans le163).trans le171)) X Tryz.isAgg24 Tryz.sizeOf24 X)<|Y X X (zf st172.sub (hc86.up ((((((((((le90.trans le96).trans le105).trans le112).trans le121).trans le128).trans le134).trans le147).trans le155).trans le163).trans le171)) X Tryz.isAgg28 Tryz.sizeOf28 X)<|Y X X (zf st172.sub (hc23.up ((((((((((((((((le28.trans le36).trans le67).trans le72).trans le79).trans le84).trans le90).trans le96).trans le105).trans le112).trans le121).trans le128).trans le134).trans le147).trans le155).trans le163).trans le171)) X Tryz.isAgg54 Tryz.sizeOf54 X)<|zm st172 X X X Tryz.call37 X (c_stem_Forms st172.sub (t := (t)) (gf1_0x64.up (((((((((((((le72.trans le79).trans le84).trans le90).trans le96).trans le105).trans le112).trans le121).trans le128).trans le134).trans le147).trans le155).trans le163).trans le171)) (x := (x)) (gf3_0x76.up (((((((((((le84.trans le90).trans le96).trans le105).trans le112).trans le121).trans le128).trans le134).trans le147).trans le155).trans le163).trans le171)) (gf3_1x76.up (((((((((((le84.trans le90).trans le96).trans le105).trans le112).trans le121).trans le128).trans le134).trans le147).trans le155).trans le163).trans le171)) (hd := hd) zZ t_u8 (K0.up ((((((((((((((((((((le4.trans le10).trans le16).trans le22).trans le28).trans le36).trans le67).trans le72).trans le79).trans le84).trans le90).trans le96).trans le105).trans le112).trans le121).trans le128).trans le134).trans le147).trans le155).trans le163).trans le171))) ?_
        intro r176 w177 h178 le179 st180 q181
        obtain ⟨v182, rfl, f183⟩ := q181
        have f183_b := f183.le
        refine Y X X (r_mvT X)<|Y X X (zC (v := v182) X X)<|Y X X (zC (v := (.int _ _)) X X)<|Y X X (zG (v := v182) X)<|Y X X (zz X)<|E<|M<|zd<|O<|Y X X (zf st180.sub (hc5.up ((((((((((((((((((((le10.trans le16).trans le22).trans le28).trans le36).trans le67).trans le72).trans le79).trans le84).trans le90).trans le96).trans le105).trans le112).trans le121).trans le128).trans le134).trans le147).trans le155).trans le163).trans le171).trans le179)) X Tryz.isAgg24 Tryz.sizeOf24 X)<|Y X X (zf st180.sub (hc11.up (((((((((((((((((((le16.trans le22).trans le28).trans le36).trans le67).trans le72).trans le79).trans le84).trans le90).trans le96).trans le105).trans le112).trans le121).trans le128).trans le134).trans le147).trans le155).trans le163).trans le171).trans le179)) X Tryz.isAgg28 Tryz.sizeOf28 X)<|Y X X (zf st180.sub (hc23.up (((((((((((((((((le28.trans le36).trans le67).trans le72).trans le79).trans le84).trans le90).trans le96).trans le105).trans le112).trans le121).trans le128).trans le134).trans le147).trans le155).trans le163).trans le171).trans le179)) X Tryz.isAgg54 Tryz.sizeOf54 X)<|zm st180 X X X Tryz.call38 X (c_postilref04_Forms st180.sub (t := t) (t_f0.up (((((((((((((((((((((le4.trans le10).trans le16).trans le22).trans le28).trans le36).trans le67).trans le72).trans le79).trans le84).trans le90).trans le96).trans le105).trans le112).trans le121).trans le128).trans le134).trans le147).trans le155).trans le163).trans le171).trans le179)) (x := x) (x_f0.up (((((((((((((((((((((le4.trans le10).trans le16).trans le22).trans le28).trans le36).trans le67).trans le72).trans le79).trans le84).trans le90).trans le96).trans le105).trans le112).trans le121).trans le128).trans le134).trans le147).trans le155).trans le163).trans le171).trans le179)) (x_f1.up (((((((((((((((((((((le4.trans le10).trans le16).trans le22).trans le28).trans le36).trans le67).trans le72).trans le79).trans le84).trans le90).trans le96).trans le105).trans le112).trans le121).trans le128).trans le134).trans le147).trans le155).trans le163).trans le171).trans le179)) (hd := hd) zZ t_u8) ?_
        intro r184 w185 h186 le187 st188 q189
        obtain ⟨v190, rfl, f191⟩ := q189
        have f191_b := f191.le
        refine Y X X (r_mvT X)<|Y X X (zC (v := v190) X X)<|Y X X (zC (v := (.int _ _)) X X)<|Y X X (zG (v := v190) X)<|Y X X (zz X)<|E<|M<|zd<|O<|Y X X (zA (v := v150) X)<|Y X X (zA (v := v158) X)<|zm st188 X X X Tryz.call39 X (c_postilref04_SameHeads st188.sub (f151.up ((((le155.trans le163).trans le171).trans le179).trans le187)) (f159.up (((le163.trans le171).trans le179).trans le187))) ?_
        intro r192 w193 h194 le195 st196 q197
        obtain rfl := q197
        refine Y X X (zN X) ?_
        refine zD (d := 132) rfl (fun g198 => ?_) (fun g198 => ?_)
        ·
         refine za X X (d := 132) X<|Y X X (zo X)<|za X X (d := 132) X<|Y X X (zo X)<|za X X (d := 132) X<|Y X X (r_eql X X)<|Y X X (zJ (v := (.bool _)) X X)<|Y X X (zN X) ?_
         refine zD (d := 137) rfl (fun g199 => ?_) (fun g199 => ?_)
         ·
          replace g199 := of_decide_eq_true g199
          refine za X X (d := 137) X<|Y X X (zA (v := v166) X)<|za X X (d := 137) X<|Y X X (zA (v := v174) X)<|za X X (d := 137) X<|zm st196 X X X Tryz.call28 X (c_postilref01_SamePlaces st196.sub (f167.up (((le171.trans le179).trans le187).trans le195)) (f175.up ((le179.trans le187).trans le195))) ?_
          intro r200 w201 h202 le203 st204 q205
          obtain rfl := q205
          refine Y X X (zJ (v := (.bool _)) X X)<|Y X X (zN X) ?_
          refine zD (d := 142) rfl (fun g206 => ?_) (fun g206 => ?_)
          ·
           refine za X X (d := 142) X<|Y X X (zo X)<|za X X (d := 142) X<|Y X X (zo X)<|za X X (d := 142) X<|Y X X (r_eql X X)<|Y X X (zJ (v := (.bool _)) X X)<|Y X X (zN X) ?_
           refine zD (d := 147) rfl (fun g207 => ?_) (fun g207 => ?_)
           ·
            replace g207 := of_decide_eq_true g207
            refine za X X (d := 147) X<|Y X X (zA (v := v182) X)<|za X X (d := 147) X<|Y X X (zA (v := v190) X)<|za X X (d := 147) X<|zm st204 X X X Tryz.call16 X (c_postilref01_SameWords st204.sub (f183.up ((le187.trans le195).trans le203)) (f191.up (le195.trans le203))) ?_
            intro r208 w209 h210 le211 st212 q213
            obtain rfl := q213
            refine Y X X (zJ (v := (.bool _)) X X)<|Y X X (zN X) ?_
            refine zD (d := 152) rfl (fun g214 => ?_) (fun g214 => ?_)
            ·
             refine za X X (d := 152) X<|Y X X (zo X)<|za X X (d := 152) X<|Y X X (zo X)<|za X X (d := 152) X<|Y X X (r_eql X X)<|Y X X (zJ (v := (.bool _)) X X)<|Y X X (zN X) ?_
             refine zD (d := 157) rfl (fun g215 => ?_) (fun g215 => ?_)
             ·
              replace g215 := of_decide_eq_true g215
              refine za X X (d := 157) X<|Y X X (zf st212.sub (hc74.up (((((((((((((((((le79.trans le84).trans le90).trans le96).trans le105).trans le112).trans le121).trans le128).trans le134).trans le147).trans le155).trans le163).trans le171).trans le179).trans le187).trans le195).trans le203).trans le211)) X Tryz.isAgg24 Tryz.sizeOf24 X)<|za X X (d := 157) X<|Y X X (zf st212.sub (hc5.up ((((((((((((((((((((((((le10.trans le16).trans le22).trans le28).trans le36).trans le67).trans le72).trans le79).trans le84).trans le90).trans le96).trans le105).trans le112).trans le121).trans le128).trans le134).trans le147).trans le155).trans le163).trans le171).trans le179).trans le187).trans le195).trans le203).trans le211)) X Tryz.isAgg24 Tryz.sizeOf24 X)<|za X X (d := 157) X<|zm st212 X X X Tryz.call18 X (c_postilref01_Same st212.sub (a := (t)) (gf1_0x64.up ((((((((((((((((((le72.trans le79).trans le84).trans le90).trans le96).trans le105).trans le112).trans le121).trans le128).trans le134).trans le147).trans le155).trans le163).trans le171).trans le179).trans le187).trans le195).trans le203).trans le211)) (b := t) (t_f0.up (((((((((((((((((((((((((le4.trans le10).trans le16).trans le22).trans le28).trans le36).trans le67).trans le72).trans le79).trans le84).trans le90).trans le96).trans le105).trans le112).trans le121).trans le128).trans le134).trans le147).trans le155).trans le163).trans le171).trans le179).trans le187).trans le195).trans le203).trans le211))) ?_
              intro r216 w217 h218 le219 st220 q221
              obtain rfl := q221
              refine Y X X (zJ (v := (.bool _)) X X)<|Y X X (zN X) ?_
              refine zD (d := 162) rfl (fun g222 => ?_) (fun g222 => ?_)
              ·
               refine za X X (d := 162) X<|Y X X (zf st220.sub (hc86.up ((((((((((((((((le90.trans le96).trans le105).trans le112).trans le121).trans le128).trans le134).trans le147).trans le155).trans le163).trans le171).trans le179).trans le187).trans le195).trans le203).trans le211).trans le219)) X Tryz.isAgg28 Tryz.sizeOf28 X)<|za X X (d := 162) X<|Y X X (zf st220.sub (hc11.up ((((((((((((((((((((((((le16.trans le22).trans le28).trans le36).trans le67).trans le72).trans le79).trans le84).trans le90).trans le96).trans le105).trans le112).trans le121).trans le128).trans le134).trans le147).trans le155).trans le163).trans le171).trans le179).trans le187).trans le195).trans le203).trans le211).trans le219)) X Tryz.isAgg28 Tryz.sizeOf28 X)<|za X X (d := 162) X<|zm st220 X X X Tryz.call19 X (c_postilref04_Same st220.sub (a := (x)) (gf3_0x76.up (((((((((((((((((le84.trans le90).trans le96).trans le105).trans le112).trans le121).trans le128).trans le134).trans le147).trans le155).trans le163).trans le171).trans le179).trans le187).trans le195).trans le203).trans le211).trans le219)) (gf3_1x76.up (((((((((((((((((le84.trans le90).trans le96).trans le105).trans le112).trans le121).trans le128).trans le134).trans le147).trans le155).trans le163).trans le171).trans le179).trans le187).trans le195).trans le203).trans le211).trans le219)) (b := x) (x_f0.up ((((((((((((((((((((((((((le4.trans le10).trans le16).trans le22).trans le28).trans le36).trans le67).trans le72).trans le79).trans le84).trans le90).trans le96).trans le105).trans le112).trans le121).trans le128).trans le134).trans le147).trans le155).trans le163).trans le171).trans le179).trans le187).trans le195).trans le203).trans le211).trans le219)) (x_f1.up ((((((((((((((((((((((((((le4.trans le10).trans le16).trans le22).trans le28).trans le36).trans le67).trans le72).trans le79).trans le84).trans le90).trans le96).trans le105).trans le112).trans le121).trans le128).trans le134).trans le147).trans le155).trans le163).trans le171).trans le179).trans le187).trans le195).trans le203).trans le211).trans le219))) ?_
               intro r223 w224 h225 le226 st227 q228
               obtain rfl := q228
               refine Y X X (zJ (v := (.bool _)) X X)<|Y X X (zH X)<|E<|M<|zy<|zh Tryz.results5 ?_
               refine ⟨h225, _, rfl, st227.done, ?_⟩
               refine zt ?_
               simp_all
              ·
               refine U X X (d := 162) X X X<|U X X (d := 162) X X X<|U X X (d := 162) X X X<|Y X X (zw (v := (.bool _)) X X)<|Y X X (zH X)<|E<|M<|zy<|zh Tryz.results5 ?_
               refine ⟨h218, _, rfl, st220.done, ?_⟩
               refine zt ?_
               simp_all
             ·
              replace g215 := of_decide_eq_false g215
              refine U X X (d := 157) X X X<|U X X (d := 157) X X X<|U X X (d := 157) X X X<|Y X X (zw (v := (.bool _)) X X)<|Y X X (zN X)<|U X X (d := 162) X X X<|U X X (d := 162) X X X<|U X X (d := 162) X X X<|Y X X (zw (v := (.bool _)) X X)<|Y X X (zH X)<|E<|M<|zy<|zh Tryz.results5 ?_
              refine ⟨h210, _, rfl, st212.done, ?_⟩
              refine zt ?_
              simp_all
            ·
             refine U X X (d := 152) X X X<|U X X (d := 152) X X X<|U X X (d := 152) X X X<|Y X X (zw (v := (.bool _)) X X)<|Y X X (zN X)<|U X X (d := 157) X X X<|U X X (d := 157) X X X<|U X X (d := 157) X X X<|Y X X (zw (v := (.bool _)) X X)<|Y X X (zN X)<|U X X (d := 162) X X X<|U X X (d := 162) X X X<|U X X (d := 162) X X X<|Y X X (zw (v := (.bool _)) X X)<|Y X X (zH X)<|E<|M<|zy<|zh Tryz.results5 ?_
             refine ⟨h210, _, rfl, st212.done, ?_⟩
             refine zt ?_
             simp_all
           ·
            replace g207 := of_decide_eq_false g207
            refine U X X (d := 147) X X X<|U X X (d := 147) X X X<|U X X (d := 147) X X X<|Y X X (zw (v := (.bool _)) X X)<|Y X X (zN X)<|U X X (d := 152) X X X<|U X X (d := 152) X X X<|U X X (d := 152) X X X<|Y X X (zw (v := (.bool _)) X X)<|Y X X (zN X)<|U X X (d := 157) X X X<|U X X (d := 157) X X X<|U X X (d := 157) X X X<|Y X X (zw (v := (.bool _)) X X)<|Y X X (zN X)<|U X X (d := 162) X X X<|U X X (d := 162) X X X<|U X X (d := 162) X X X<|Y X X (zw (v := (.bool _)) X X)<|Y X X (zH X)<|E<|M<|zy<|zh Tryz.results5 ?_
            refine ⟨h202, _, rfl, st204.done, ?_⟩
            refine zt ?_
            simp_all
          ·
           refine U X X (d := 142) X X X<|U X X (d := 142) X X X<|U X X (d := 142) X X X<|Y X X (zw (v := (.bool _)) X X)<|Y X X (zN X)<|U X X (d := 147) X X X<|U X X (d := 147) X X X<|U X X (d := 147) X X X<|Y X X (zw (v := (.bool _)) X X)<|Y X X (zN X)<|U X X (d := 152) X X X<|U X X (d := 152) X X X<|U X X (d := 152) X X X<|Y X X (zw (v := (.bool _)) X X)<|Y X X (zN X)<|U X X (d := 157) X X X<|U X X (d := 157) X X X<|U X X (d := 157) X X X<|Y X X (zw (v := (.bool _)) X X)<|Y X X (zN X)<|U X X (d := 162) X X X<|U X X (d := 162) X X X<|U X X (d := 162) X X X<|Y X X (zw (v := (.bool _)) X X)<|Y X X (zH X)<|E<|M<|zy<|zh Tryz.results5 ?_
           refine ⟨h202, _, rfl, st204.done, ?_⟩
           refine zt ?_
           simp_all
         ·
          replace g199 := of_decide_eq_false g199
          refine U X X (d := 137) X X X<|U X X (d := 137) X X X<|U X X (d := 137) X X X<|Y X X (zw (v := (.bool _)) X X)<|Y X X (zN X)<|U X X (d := 142) X X X<|U X X (d := 142) X X X<|U X X (d := 142) X X X<|Y X X (zw (v := (.bool _)) X X)<|Y X X (zN X)<|U X X (d := 147) X X X<|U X X (d := 147) X X X<|U X X (d := 147) X X X<|Y X X (zw (v := (.bool _)) X X)<|Y X X (zN X)<|U X X (d := 152) X X X<|U X X (d := 152) X X X<|U X X (d := 152) X X X<|Y X X (zw (v := (.bool _)) X X)<|Y X X (zN X)<|U X X (d := 157) X X X<|U X X (d := 157) X X X<|U X X (d := 157) X X X<|Y X X (zw (v := (.bool _)) X X)<|Y X X (zN X)<|U X X (d := 162) X X X<|U X X (d := 162) X X X<|U X X (d := 162) X X X<|Y X X (zw (v := (.bool _)) X X)<|Y X X (zH X) ?_
          refine E<|M<|zy<|zh Tryz.results5 ?_
          refine ⟨h194, _, rfl, st196.done, ?_⟩
          refine zt ?_
          simp_all
        ·
         refine U X X (d := 132) X X X<|U X X (d := 132) X X X<|U X X (d := 132) X X X<|Y X X (zw (v := (.bool _)) X X)<|Y X X (zN X)<|U X X (d := 137) X X X<|U X X (d := 137) X X X<|U X X (d := 137) X X X<|Y X X (zw (v := (.bool _)) X X)<|Y X X (zN X)<|U X X (d := 142) X X X<|U X X (d := 142) X X X<|U X X (d := 142) X X X<|Y X X (zw (v := (.bool _)) X X)<|Y X X (zN X)<|U X X (d := 147) X X X<|U X X (d := 147) X X X<|U X X (d := 147) X X X<|Y X X (zw (v := (.bool _)) X X)<|Y X X (zN X)<|U X X (d := 152) X X X<|U X X (d := 152) X X X<|U X X (d := 152) X X X<|Y X X (zw (v := (.bool _)) X X)<|Y X X (zN X)<|U X X (d := 157) X X X<|U X X (d := 157) X X X<|U X X (d := 157) X X X<|Y X X (zw (v := (.bool _)) X X)<|Y X X (zN X) ?_
         refine U X X (d := 162) X X X<|U X X (d := 162) X X X<|U X X (d := 162) X X X<|Y X X (zw (v := (.bool _)) X X)<|Y X X (zH X)<|E<|M<|zy<|zh Tryz.results5 ?_
         refine ⟨h194, _, rfl, st196.done, ?_⟩
         refine zt ?_
         simp_all
end Go.Pk
