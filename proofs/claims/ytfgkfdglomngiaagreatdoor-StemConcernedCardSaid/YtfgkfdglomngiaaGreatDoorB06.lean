/- A PART OF THE PROOF: contracts of functions, each walked once (much of it printed by a program of the author's own). -/
import Derived.Test.YtfgkfdglomngiaaGreatDoorT10
import Derived.Test.YtfgkfdglomngiaaGreatDoorT3
set_option linter.unusedSimpArgs false
set_option linter.unusedVariables false
namespace Go.Pk
open Go Go.RowKit Go.Proofs
set_option maxRecDepth 4000 in
set_option maxHeartbeats 4000000 in
theorem c_postillaw04_StemConcerned {h : Heap} {w : World} (hs : Sub h w) {t : Text} {t_v0 : Value} (t_f0 : Sl LChapter h t_v0 t.chapters) {x : Lexicon} {x_v0 : Value} (x_f0 : Sl LRule h x_v0 x.rules) {x_v1 : Value} (x_f1 : Sl LDecision h x_v1 x.decisions) {d : Decision} (d_l2 : 0 ≤ d.kind ∧ d.kind ≤ 255) (d_l3 : d.form.length ≤ 281474976710656) (d_l7 : d.to.stem.length ≤ 281474976710656) (d_l8 : 0 ≤ d.to.mark ∧ d.to.mark ≤ 255) (K0 : Cells h 0 0 Tryz.glob0) : Calls Tryz.prog 3 #[.agg #[t_v0], .agg #[x_v0, x_v1], .agg #[.int .i64 d.number, .int .u8 d.kind, strV d.form, .int .i64 d.at_.chapter, .int .i64 d.at_.line, .int .i64 d.at_.word, strV d.to.stem, .int .u8 d.to.mark, .int .i64 d.of_]] w (Rets h w (fun _ _ res_ => res_ = .bool (true))) := by
 refine zB (n := 277) (args := [.agg #[t_v0], .agg #[x_v0, x_v1], .agg #[.int .i64 d.number, .int .u8 d.kind, strV d.form, .int .i64 d.at_.chapter, .int .i64 d.at_.line, .int .i64 d.at_.word, strV d.to.stem, .int .u8 d.to.mark, .int .i64 d.of_]]) Tryz.func3 X X X ?_
 have st0 : St h w h w [] := St.start hs
 have t_f0_b := t_f0.le
 have x_f0_b := x_f0.le
 have x_f1_b := x_f1.le
 refine W.sr<|zn st0 (cs := [t_v0]) X X X ?_
 intro b1 w2 h3 le4 hc5 st6
 refine zn st6 (cs := [x_v0, x_v1]) X X X ?_
 intro b7 w8 h9 le10 hc11 st12
 refine zn st12 (cs := [.int .i64 (d.number), .int .u8 (d.kind), strV (d.form), .int .i64 (d.at_.chapter), .int .i64 (d.at_.line), .int .i64 (d.at_.word), strV (d.to.stem), .int .u8 (d.to.mark), .int .i64 (d.of_)]) X X X ?_
 intro b13 w14 h15 le16 hc17 st18
 refine v_asB X X<|M<|W.sr<|O st18 X X X Tryz.call13 X (c_postillaw04_alive st18.sub (K0.up ((le4.trans le10).trans le16))) ?_
 intro r19 w20 h21 le22 st23 q24
 obtain rfl := q24
 refine v_asB X X<|M<|zl<|W.sr<|v_load_call st23.sub (hc5.up ((le10.trans le16).trans le22)) X Tryz.isAgg24 Tryz.sizeOf24 X X<|v_load_call st23.sub (hc11.up (le16.trans le22)) X Tryz.isAgg28 Tryz.sizeOf28 X X<|O st23 X X X Tryz.call14 X (zae st23.sub (t := t) (t_f0.up (((le4.trans le10).trans le16).trans le22)) (x := x) (x_f0.up (((le4.trans le10).trans le16).trans le22)) (x_f1.up (((le4.trans le10).trans le16).trans le22))) ?_
 intro r25 w26 h27 le28 st29 q30
 obtain rfl := q30
 refine v_not X X<|v_mvB X X ?_
 refine zk (d := 42) rfl (fun g31 => ?_) (fun g31 => ?_)
 ·
  refine Z X X X X X<|Z X X X X X<|Z X X X X X<|Z X X X X X<|v_pickT (v := (.bool _)) X X X<|v_mvB X X<|Z X X X X X<|Z X X X X X<|Z X X X X X<|Z X X X X X<|Z X X X X X<|v_pickT (v := (.bool _)) X X X<|v_mvB X X<|Z X X X X X<|Z X X X X X<|v_pickT (v := (.bool _)) X X X<|M ?_
  refine zh rfl (fun c32 => ?_) (fun c32 => ?_)
  ·
   refine W.sr<|v_mvB X X<|v_asB X X<|M<|zq<|zc<|za Tryz.results3 ?_
   refine ⟨h27, _, rfl, st29.done, ?_⟩
   refine zj ?_
   first | (simp_all; done) | (rcases add_cases hx0 (by assumption) with ⟨q1, q2⟩ | q1 <;> simp_all; done) | (rw [cntQ_all (by omega), changes_ch hz0]; simp)
  ·
   cases c32
 ·
  refine Y X X (d := 42) X<|v_field_addr X Tryz.underlying34 X Tryz.sizeOf9 X X<|Y X X (d := 42) X<|v_load_cells1 (j := 2) st29.sub (hc17.up (le22.trans le28)) X X X Tryz.isAgg9 X<|Y X X (d := 42) X<|v_len_str X Tryz.underlying9 X<|Y X X (d := 42) X<|v_gtr X X X<|v_pickF (v := (.bool _)) X X X<|v_mvB X X ?_
  refine zk (d := 48) rfl (fun g33 => ?_) (fun g33 => ?_)
  ·
   replace g33 := of_decide_eq_true g33
   refine Z X X X X X<|Z X X X X X<|Z X X X X X<|Z X X X X X<|Z X X X X X<|v_pickT (v := (.bool _)) X X X<|v_mvB X X<|Z X X X X X<|Z X X X X X<|v_pickT (v := (.bool _)) X X X<|M ?_
   refine zh rfl (fun c34 => ?_) (fun c34 => ?_)
   ·
    refine W.sr<|v_mvB X X<|v_asB X X<|M<|zq<|zc<|za Tryz.results3 ?_
    refine ⟨h27, _, rfl, st29.done, ?_⟩
    refine zj ?_
    first | (simp_all; done) | (rcases add_cases hx0 (by assumption) with ⟨q1, q2⟩ | q1 <;> simp_all; done) | (rw [cntQ_all (by omega), changes_ch hz0]; simp)
   ·
    cases c34
  ·
   replace g33 := of_decide_eq_false g33
   refine Y X X (d := 48) X<|v_field_addr X Tryz.underlying34 X Tryz.sizeOf32 X X<|Y X X (d := 48) X<|v_field_addr X Tryz.underlying32 X Tryz.sizeOf9 X X<|Y X X (d := 48) X<|v_load_cells1 (j := 6) st29.sub (hc17.up (le22.trans le28)) X X X Tryz.isAgg9 X<|Y X X (d := 48) X<|v_len_str X Tryz.underlying9 X<|Y X X (d := 48) X<|v_gtr X X X<|v_pickF (v := (.bool _)) X X X<|v_mvB X X ?_
   refine zk (d := 55) rfl (fun g35 => ?_) (fun g35 => ?_)
   ·
    replace g35 := of_decide_eq_true g35
    refine Z X X X X X<|Z X X X X X<|v_pickT (v := (.bool _)) X X X<|M ?_
    refine zh rfl (fun c36 => ?_) (fun c36 => ?_)
    ·
     refine W.sr<|v_mvB X X<|v_asB X X<|M<|zq<|zc<|za Tryz.results3 ?_
     refine ⟨h27, _, rfl, st29.done, ?_⟩
     refine zj ?_
     first | (simp_all; done) | (rcases add_cases hx0 (by assumption) with ⟨q1, q2⟩ | q1 <;> simp_all; done) | (rw [cntQ_all (by omega), changes_ch hz0]; simp)
    ·
     cases c36
   ·
    replace g35 := of_decide_eq_false g35
    refine Y X X (d := 55) X<|v_mvB X X<|Y X X (d := 55) X<|v_not X X<|v_pickF (v := (.bool _)) X X X<|M ?_
    refine zh rfl (fun c37 => ?_) (fun c37 => ?_)
    ·
     cases c37
    ·
     refine zo<|U<|zl ?_
     obtain ⟨⟨hs1, hs2⟩, hx0⟩ : (smallT t = true ∧ smallX x = true) ∧ checkN t x = 0 := by simpa using g31
     have ht0 := check_text hx0
     have hok := okD_of hx0
     have hpl := places_len ht0
     have hpp := places_pos ht0
     have hdl := lexicon_20 hx0
     have hrl := lexicon_12 hx0
     have hfl := g33
     have htl := g35
     refine zg<|v_load_call st29.sub (hc5.up (((le10.trans le16).trans le22).trans le28)) X Tryz.isAgg24 Tryz.sizeOf24 X X<|v_load_call st29.sub (hc11.up ((le16.trans le22).trans le28)) X Tryz.isAgg28 Tryz.sizeOf28 X X<|v_load_call st29.sub (hc17.up (le22.trans le28)) X Tryz.isAgg34 Tryz.sizeOf34 X X<|O st29 X X X Tryz.call15 X (c_stem_Changes st29.sub (t := t) (t_f0.up ((((le4.trans le10).trans le16).trans le22).trans le28)) (x := x) (x_f0.up ((((le4.trans le10).trans le16).trans le22).trans le28)) (x_f1.up ((((le4.trans le10).trans le16).trans le22).trans le28)) (d := d) t_u8 zT zT t_u8 (K0.up ((((le4.trans le10).trans le16).trans le22).trans le28))) ?_
     intro r38 w39 h40 le41 st42 q43
     obtain ⟨v44, rfl, f45⟩ := q43
     have f45_b := f45.le
     refine v_mvT X X<|v_extract (v := v44) X X X<|v_extract (v := (.int _ _)) X X X<|v_assign (v := v44) X X<|v_asI X X<|M<|W.sr<|v_load_call st42.sub (hc5.up ((((le10.trans le16).trans le22).trans le28).trans le41)) X Tryz.isAgg24 Tryz.sizeOf24 X X<|v_load_call st42.sub (hc11.up (((le16.trans le22).trans le28).trans le41)) X Tryz.isAgg28 Tryz.sizeOf28 X X<|v_load_call st42.sub (hc17.up ((le22.trans le28).trans le41)) X Tryz.isAgg34 Tryz.sizeOf34 X X ?_
     refine zK rfl rfl (zW rfl Tryz.call16 rfl) ((c_stem_Add st42.sub (t := t) (t_f0.up (((((le4.trans le10).trans le16).trans le22).trans le28).trans le41)) (x := x) (x_f0.up (((((le4.trans le10).trans le16).trans le22).trans le28).trans le41)) (x_f1.up (((((le4.trans le10).trans le16).trans le22).trans le28).trans le41)) (d := d) t_u8 zT zT t_u8 (K0.up (((((le4.trans le10).trans le16).trans le22).trans le28).trans le41))).mono ?_)
     rintro _ w46 ⟨h47, v51, v54, o52, o55, rfl, le48, s50, f53, f56⟩
     refine ⟨_, rfl, ?_⟩
     have st49 := st42.call s50
     refine v_mvT X X<|v_extract (v := (.agg (List.toArray _))) X X X<|v_extract (v := (.int _ _)) X X X<|zy st49 Tryz.zeroValue28 X X ?_
     intro b57 w58 st59
     refine zp st59 (k := 2) X X X (E f53.one (E f56.one zJ)) Tryz.sizeOf28 X X X ?_
     intro w60 st61
     obtain ⟨h62, le63, hb64, st66⟩ := st61.freeze (k := 2) rfl
     have hc65 := Cells.of hb64
     refine v_asI X X<|M<|zl<|W.sr<|v_mvI X X<|v_mvI X X<|v_neq X X X<|M ?_
     refine zh rfl (fun c67 => ?_) (fun c67 => ?_)
     ·
      replace c67 := of_decide_eq_true c67
      exfalso
      have sure_ : (decide ((addE (t) (x) (d)) ≠ ((addE (t) (x) (d))))) = false := by simp
      exact of_decide_eq_false sure_ c67
     ·
      replace c67 := of_decide_eq_false c67
      refine zo<|U<|zl<|W.sr<|v_mvI X X<|v_neq X X X<|M ?_
      refine zh rfl (fun c68 => ?_) (fun c68 => ?_)
      ·
       replace c68 := of_decide_eq_true c68
       refine W.sr<|v_mvB X X<|v_mvB X X<|Y X X (d := 80) X<|v_mvI X X<|Y X X (d := 80) X<|v_eql X X X<|Y X X (d := 80) X<|v_mvB X X ?_
       refine zk (d := 83) rfl (fun g69 => ?_) (fun g69 => ?_)
       ·
        replace g69 := of_decide_eq_true g69
        refine Y X X (d := 83) X<|v_field_addr X Tryz.underlying28 X Tryz.sizeOf26 X X<|Y X X (d := 83) X<|v_load_cells1 (j := 1) st66.sub (hc11.up (((((le16.trans le22).trans le28).trans le41).trans le48).trans le63)) X X X Tryz.isAgg26 X<|Y X X (d := 83) X<|v_len (x_f1.up (((((((le4.trans le10).trans le16).trans le22).trans le28).trans le41).trans le48).trans le63)) X Tryz.underlying26 X<|Y X X (d := 83) X<|v_eql X X X<|Y X X (d := 80) X<|v_pickT (v := (.bool _)) X X X<|Y X X (d := 80) X<|v_mvB X X ?_
        refine zk (d := 89) rfl (fun g70 => ?_) (fun g70 => ?_)
        ·
         replace g70 := of_decide_eq_true g70
         refine Z X X X X X<|Z X X X X X<|Y X X (d := 80) X<|v_pickT (v := (.bool _)) X X X<|v_pickT (v := (.bool _)) X X X<|v_asB X X<|M<|zq<|zc<|za Tryz.results3 ?_
         refine ⟨h62, _, rfl, st66.done, ?_⟩
         refine zj ?_
         first | (simp_all; done) | (rcases add_cases hx0 (by assumption) with ⟨q1, q2⟩ | q1 <;> simp_all; done) | (rw [cntQ_all (by omega), changes_ch hz0]; simp)
        ·
         replace g70 := of_decide_eq_false g70
         refine Y X X (d := 89) X<|v_mvI X X<|Y X X (d := 89) X<|v_eql X X X<|Y X X (d := 80) X<|v_pickF (v := (.bool _)) X X X<|v_pickT (v := (.bool _)) X X X<|v_asB X X<|M<|zq<|zc<|za Tryz.results3 ?_
         refine ⟨h62, _, rfl, st66.done, ?_⟩
         refine zj ?_
         first | (simp_all; done) | (rcases add_cases hx0 (by assumption) with ⟨q1, q2⟩ | q1 <;> simp_all; done) | (rw [cntQ_all (by omega), changes_ch hz0]; simp)
       ·
        replace g69 := of_decide_eq_false g69
        refine Z X X X X X<|Z X X X X X<|Z X X X X X<|Z X X X X X<|Y X X (d := 80) X<|v_pickF (v := (.bool _)) X X X<|Y X X (d := 80) X<|v_mvB X X<|Y X X (d := 89) X<|v_mvI X X<|Y X X (d := 89) X<|v_eql X X X<|Y X X (d := 80) X<|v_pickF (v := (.bool _)) X X X<|v_pickT (v := (.bool _)) X X X<|v_asB X X<|M<|zq<|zc<|za Tryz.results3 ?_
        refine ⟨h62, _, rfl, st66.done, ?_⟩
        refine zj ?_
        first | (simp_all; done) | (rcases add_cases hx0 (by assumption) with ⟨q1, q2⟩ | q1 <;> simp_all; done) | (rw [cntQ_all (by omega), changes_ch hz0]; simp)
      ·
       replace c68 := of_decide_eq_false c68
       refine zo<|U<|zl<|zl ?_
       have hz0 : addE t x d = 0 := by have q := c68; simpa using q
       have hy0 := addN_check hz0
       have hoy := okD_of hy0
       have hyl := lexicon_20 hy0
       have hyr := lexicon_12 hy0
       have hcl : (changesR t x d).length ≤ 600 := by rw [changes_ch hz0]; exact Nat.le_trans (List.length_filter_le _ _) hpl
       have hl1 := heads_length t x
       have hl2 := heads_length t (addN t x d)
       refine zg<|v_load_call st66.sub (hc5.up ((((((le10.trans le16).trans le22).trans le28).trans le41).trans le48).trans le63)) X Tryz.isAgg24 Tryz.sizeOf24 X X<|v_load_call st66.sub hc65 X Tryz.isAgg28 Tryz.sizeOf28 X X ?_
       obtain ⟨h71, le72, f73, st74⟩ := OSl.freeze (k := 0) st66 (f53.up le63) rfl (by omega)
       obtain ⟨h75, le76, f77, st78⟩ := OSl.freeze (k := 1) st74 (f56.up (le63.trans le72)) rfl (by omega)
       have con := (zae st78.sub (t := t) (t_f0.up (((((((((le4.trans le10).trans le16).trans le22).trans le28).trans le41).trans le48).trans le63).trans le72).trans le76)) (x := (Lexicon.mk (((addN (t) (x) (d))).rules) (((addN (t) (x) (d))).decisions))) (f73.up le76) f77)
       rw [ready_ok hs1 hy0] at con
       refine O st78 X X X Tryz.call14 X con ?_
       intro r79 w80 h81 le82 st83 q84
       obtain rfl := q84
       clear con
       refine v_not X X<|M ?_
       refine zh rfl (fun c85 => ?_) (fun c85 => ?_)
       ·
        cases c85
       ·
        refine zo<|U<|W.sr<|v_load_call st83.sub (hc5.up (((((((((le10.trans le16).trans le22).trans le28).trans le41).trans le48).trans le63).trans le72).trans le76).trans le82)) X Tryz.isAgg24 Tryz.sizeOf24 X X<|v_load_call st83.sub (hc11.up ((((((((le16.trans le22).trans le28).trans le41).trans le48).trans le63).trans le72).trans le76).trans le82)) X Tryz.isAgg28 Tryz.sizeOf28 X X ?_
        refine O st83 rfl rfl rfl Tryz.call17 rfl (zag st83.sub (t := t) (t_f0.up ((((((((((le4.trans le10).trans le16).trans le22).trans le28).trans le41).trans le48).trans le63).trans le72).trans le76).trans le82)) (x := x) (x_f0.up ((((((((((le4.trans le10).trans le16).trans le22).trans le28).trans le41).trans le48).trans le63).trans le72).trans le76).trans le82)) (x_f1.up ((((((((((le4.trans le10).trans le16).trans le22).trans le28).trans le41).trans le48).trans le63).trans le72).trans le76).trans le82)) (K0.up ((((((((((le4.trans le10).trans le16).trans le22).trans le28).trans le41).trans le48).trans le63).trans le72).trans le76).trans le82)) (by exact hx0)) ?_
        intro r86 w87 h88 le89 st90 q91
        obtain ⟨v92, rfl, f93⟩ := q91
        have f93_b := f93.le
        refine v_mvT X X<|v_extract (v := v92) X X X<|v_extract (v := (.bool _)) X X X<|v_assign (v := v92) X X<|v_asB X X<|M<|W.sr<|v_load_call st90.sub (hc5.up ((((((((((le10.trans le16).trans le22).trans le28).trans le41).trans le48).trans le63).trans le72).trans le76).trans le82).trans le89)) X Tryz.isAgg24 Tryz.sizeOf24 X X<|v_load_call st90.sub (hc65.up (((le72.trans le76).trans le82).trans le89)) X Tryz.isAgg28 Tryz.sizeOf28 X X ?_
        refine O st90 rfl rfl rfl Tryz.call17 rfl (zag st90.sub (t := t) (t_f0.up (((((((((((le4.trans le10).trans le16).trans le22).trans le28).trans le41).trans le48).trans le63).trans le72).trans le76).trans le82).trans le89)) (x := ((addN (t) (x) (d)))) (f73.up ((le76.trans le82).trans le89)) (f77.up (le82.trans le89)) (K0.up (((((((((((le4.trans le10).trans le16).trans le22).trans le28).trans le41).trans le48).trans le63).trans le72).trans le76).trans le82).trans le89)) (by exact hy0)) ?_
        intro r94 w95 h96 le97 st98 q99
        obtain ⟨v100, rfl, f101⟩ := q99
        have f101_b := f101.le
        refine v_mvT X X<|v_extract (v := v100) X X X<|v_extract (v := (.bool _)) X X X<|v_assign (v := v100) X X<|v_asB X X<|M<|W.sr<|v_load_call st98.sub (hc5.up (((((((((((le10.trans le16).trans le22).trans le28).trans le41).trans le48).trans le63).trans le72).trans le76).trans le82).trans le89).trans le97)) X Tryz.isAgg24 Tryz.sizeOf24 X X<|v_load_call st98.sub (hc11.up ((((((((((le16.trans le22).trans le28).trans le41).trans le48).trans le63).trans le72).trans le76).trans le82).trans le89).trans le97)) X Tryz.isAgg28 Tryz.sizeOf28 X X ?_
        have con := (c_stem_Standing st98.sub (t := t) (t_f0.up ((((((((((((le4.trans le10).trans le16).trans le22).trans le28).trans le41).trans le48).trans le63).trans le72).trans le76).trans le82).trans le89).trans le97)) (x := x) (x_f0.up ((((((((((((le4.trans le10).trans le16).trans le22).trans le28).trans le41).trans le48).trans le63).trans le72).trans le76).trans le82).trans le89).trans le97)) (x_f1.up ((((((((((((le4.trans le10).trans le16).trans le22).trans le28).trans le41).trans le48).trans le63).trans le72).trans le76).trans le82).trans le89).trans le97)) (K0.up ((((((((((((le4.trans le10).trans le16).trans le22).trans le28).trans le41).trans le48).trans le63).trans le72).trans le76).trans le82).trans le89).trans le97)))
        rw [standN_eq hx0, hx0] at con
        refine O st98 X X X Tryz.call18 X con ?_
        intro r102 w103 h104 le105 st106 q107
        obtain ⟨v108, rfl, f109⟩ := q107
        have f109_b := f109.le
        clear con
        refine v_mvT X X<|v_extract (v := v108) X X X<|v_extract (v := (.int _ _)) X X X<|v_assign (v := v108) X X<|v_asI X X<|M<|W.sr<|v_load_call st106.sub (hc5.up ((((((((((((le10.trans le16).trans le22).trans le28).trans le41).trans le48).trans le63).trans le72).trans le76).trans le82).trans le89).trans le97).trans le105)) X Tryz.isAgg24 Tryz.sizeOf24 X X<|v_load_call st106.sub (hc65.up (((((le72.trans le76).trans le82).trans le89).trans le97).trans le105)) X Tryz.isAgg28 Tryz.sizeOf28 X X ?_
        have con := (c_stem_Standing st106.sub (t := t) (t_f0.up (((((((((((((le4.trans le10).trans le16).trans le22).trans le28).trans le41).trans le48).trans le63).trans le72).trans le76).trans le82).trans le89).trans le97).trans le105)) (x := ((addN (t) (x) (d)))) (f73.up ((((le76.trans le82).trans le89).trans le97).trans le105)) (f77.up (((le82.trans le89).trans le97).trans le105)) (K0.up (((((((((((((le4.trans le10).trans le16).trans le22).trans le28).trans le41).trans le48).trans le63).trans le72).trans le76).trans le82).trans le89).trans le97).trans le105)))
        rw [standN_eq hy0, hy0] at con
        refine O st106 X X X Tryz.call18 X con ?_
        intro r110 w111 h112 le113 st114 q115
        obtain ⟨v116, rfl, f117⟩ := q115
        have f117_b := f117.le
        clear con
        refine v_mvT X X<|v_extract (v := v116) X X X<|v_extract (v := (.int _ _)) X X X<|v_assign (v := v116) X X<|v_asI X X<|M<|zl<|W.sr<|v_mvB X X<|v_not X X<|v_mvB X X<|Y X X (d := 124) X<|v_mvB X X<|Y X X (d := 124) X<|v_not X X<|v_pickF (v := (.bool _)) X X X<|v_mvB X X<|Y X X (d := 128) X<|v_mvI X X<|Y X X (d := 128) X<|v_neq X X X<|v_pickF (v := (.bool _)) X X X<|v_mvB X X<|Y X X (d := 132) X<|v_mvI X X<|Y X X (d := 132) X<|v_neq X X X<|v_pickF (v := (.bool _)) X X X ?_
        refine M ?_
        refine zh rfl (fun c118 => ?_) (fun c118 => ?_)
        ·
         exact absurd c118 (by decide)
        ·
         refine zo<|U<|W.sr<|OpsL.makeMap (κ := Int) (υ := Bool) (ek := (fun n : Int => .int .i64 n)) (eu := (fun b : Bool => .bool b)) st114 X ?_
         intro v119 o120 w121 f122 st123
         obtain ⟨mb124, rfl⟩ := f122.form
         have nd125 : (([] : List (Int × Bool)).map (·.1)).Nodup := by simp
         refine OpsL.makeMap (κ := Int) (υ := Bool) (ek := (fun n : Int => .int .i64 n)) (eu := (fun b : Bool => .bool b)) st123 X ?_
         intro v126 o127 w128 f129 st130
         obtain ⟨mb131, rfl⟩ := f129.form
         have nd132 : (([] : List (Int × Bool)).map (·.1)).Nodup := by simp
         refine v_assign (v := (.map (some mb124))) X X<|v_assign (v := (.map (some mb131))) X X<|M<|zl<|W.sr<|v_move (v := v108) X X<|v_len (f109.up le113) X Tryz.underlying46 X<|v_mvI X X<|M<|zw ?_
         refine zQ [23, 140, 141, 142, 143, 144, 145, 146] (G := Nat × List (Nat × Obj) × Heap) (fun ⟨k, o_20, h133⟩ => [(140, .int .i64 (k : Int))]) (fun ⟨k, o_20, h133⟩ w' => Le h112 h133 ∧ St h w h133 w' [[], [], [], o_20, o127] ∧ (OM (fun n : Int => .int .i64 n) (fun b : Bool => .bool b) (trM ((standS x).take k)) o_20 (.map (some mb124))) ∧ (((trM ((standS x).take k)).map (·.1)).Nodup) ∧ (k ≤ (standS x).length)) (fun ⟨k, o_20, h133⟩ => (standS x).length - k) ⟨0, o120, h112⟩ ⟨rfl, trivial⟩ ⟨Le.refl _, st130, (by have q := f122; exact q), (by have q := nd125; exact q), zZ⟩ ?_
         rintro ⟨k, o_20, h133⟩ _ w136 ⟨le134, st135, hM_20, hN_20, hk⟩
         refine W.sr<|v_lss X X X<|M<|zl ?_
         refine zh rfl (fun c137 => ?_) (fun c137 => ?_)
         ·
          replace c137 := of_decide_eq_true c137
          refine zo<|U<|zl<|zw<|W.sr ?_
          have hn : ∃ y_, ((standS x))[k]? = some y_ := ⟨_, List.getElem?_eq_getElem (by omega)⟩
          obtain ⟨n, hn⟩ := hn
          obtain ⟨b138, o139, _, he141, hc140, hr_n⟩ := Sl.elem (f109.up (le113.trans le134)) hn
          obtain rfl := hr_n
          refine v_index_el he141 X X (hk := X) (hu := Tryz.underlying46) (hz := Tryz.sizeOf3) X<|v_load_cells1 (j := 0) st135.sub hc140 X X X Tryz.isAgg3 X<|v_asI X X<|M<|zg<|v_move (v := (.map (some mb124))) X X<|v_mvI X X<|OpsL.mapUpdate (i := 3) st135 hM_20 X hN_20 (key_int Tryz.underlying3) Tryz.underlying49 X (k := n) X (u := true) X ?_
          intro o142 w143 _ e144 f145 nd146 st147
          subst e144
          refine zm<|zt<|U<|zg<|v_add X X t_om X<|v_mvI X X<|M ?_
          refine ⟨⟨k + 1, o142, h133⟩, ⟨rfl, trivial⟩, ?_, ⟨le134, st147, ?_, ?_, ?_⟩, ?_⟩
          ·exact zU
          ·have q := f145
           rw [tr_fill (standS_nodup hok) hn] at q; exact q
          ·have q := nd146
           rw [tr_fill (standS_nodup hok) hn] at q; exact q
          ·first | omega | (simp; omega)
          ·show (standS x).length - ((k + 1)) < (standS x).length - k
           omega
         ·
          replace c137 := of_decide_eq_false c137
          refine zS<|zi<|zi<|zM<|U<|zl<|zl ?_
          have f148 : OM (fun n : Int => .int .i64 n) (fun b : Bool => .bool b) ((trM (standS x))) o_20 (.map (some mb124)) := by have q := hM_20; rw [List.take_of_length_le (by omega)] at q; exact q
          have nd149 : (((trM (standS x))).map (·.1)).Nodup := by have q := hN_20; rw [List.take_of_length_le (by omega)] at q; exact q
          refine zg<|v_move (v := v116) X X<|v_len (f117.up le134) X Tryz.underlying46 X<|v_mvI X X<|M<|zw ?_
          refine zQ [25, 149, 150, 151, 152, 153, 154, 155] (G := Nat × List (Nat × Obj) × Heap) (fun ⟨k, o_21, h150⟩ => [(149, .int .i64 (k : Int))]) (fun ⟨k, o_21, h150⟩ w' => Le h133 h150 ∧ St h w h150 w' [[], [], [], o_20, o_21] ∧ (OM (fun n : Int => .int .i64 n) (fun b : Bool => .bool b) (trM ((standS (addN t x d)).take k)) o_21 (.map (some mb131))) ∧ (((trM ((standS (addN t x d)).take k)).map (·.1)).Nodup) ∧ (k ≤ (standS (addN t x d)).length)) (fun ⟨k, o_21, h150⟩ => (standS (addN t x d)).length - k) ⟨0, o127, h133⟩ ⟨rfl, trivial⟩ ⟨Le.refl _, st135, (by have q := f129; exact q), (by have q := nd132; exact q), zZ⟩ ?_
          rintro ⟨k, o_21, h150⟩ _ w153 ⟨le151, st152, hM_21, hN_21, hk⟩
          refine W.sr<|v_lss X X X<|M<|zl ?_
          refine zh rfl (fun c154 => ?_) (fun c154 => ?_)
          ·
           replace c154 := of_decide_eq_true c154
           refine zo<|U<|zl<|zw<|W.sr ?_
           have hn : ∃ y_, ((standS (addN t x d)))[k]? = some y_ := ⟨_, List.getElem?_eq_getElem (by omega)⟩
           obtain ⟨n, hn⟩ := hn
           obtain ⟨b155, o156, _, he158, hc157, hr_n⟩ := Sl.elem (f117.up (le134.trans le151)) hn
           obtain rfl := hr_n
           refine v_index_el he158 X X (hk := X) (hu := Tryz.underlying46) (hz := Tryz.sizeOf3) X<|v_load_cells1 (j := 0) st152.sub hc157 X X X Tryz.isAgg3 X<|v_asI X X<|M<|zg<|v_move (v := (.map (some mb131))) X X<|v_mvI X X<|OpsL.mapUpdate (i := 4) st152 hM_21 X hN_21 (key_int Tryz.underlying3) Tryz.underlying49 X (k := n) X (u := true) X ?_
           intro o159 w160 _ e161 f162 nd163 st164
           subst e161
           refine zm<|zt<|U<|zg<|v_add X X t_om X<|v_mvI X X<|M ?_
           refine ⟨⟨k + 1, o159, h150⟩, ⟨rfl, trivial⟩, ?_, ⟨le151, st164, ?_, ?_, ?_⟩, ?_⟩
           ·exact zU
           ·have q := f162
            rw [tr_fill (standS_nodup hoy) hn] at q; exact q
           ·have q := nd163
            rw [tr_fill (standS_nodup hoy) hn] at q; exact q
           ·first | omega | (simp; omega)
           ·show (standS (addN t x d)).length - ((k + 1)) < (standS (addN t x d)).length - k
            omega
          ·
           replace c154 := of_decide_eq_false c154
           refine zS<|zi<|zi<|zM<|U<|zl ?_
           have f165 : OM (fun n : Int => .int .i64 n) (fun b : Bool => .bool b) ((trM (standS (addN t x d)))) o_21 (.map (some mb131)) := by have q := hM_21; rw [List.take_of_length_le (by omega)] at q; exact q
           have nd166 : (((trM (standS (addN t x d)))).map (·.1)).Nodup := by have q := hN_21; rw [List.take_of_length_le (by omega)] at q; exact q
           refine zg<|v_asI X X<|M<|zl<|W.sr<|v_load_call st152.sub (hc5.up (((((((((((((((le10.trans le16).trans le22).trans le28).trans le41).trans le48).trans le63).trans le72).trans le76).trans le82).trans le89).trans le97).trans le105).trans le113).trans le134).trans le151)) X Tryz.isAgg24 Tryz.sizeOf24 X X ?_
           refine O st152 rfl rfl rfl Tryz.call19 rfl (c_postilref01_All st152.sub (t := t) (t_f0.up ((((((((((((((((le4.trans le10).trans le16).trans le22).trans le28).trans le41).trans le48).trans le63).trans le72).trans le76).trans le82).trans le89).trans le97).trans le105).trans le113).trans le134).trans le151)) (by exact ht0)) ?_
           intro r167 w168 h169 le170 st171 q172
           obtain ⟨v173, e175, f174⟩ := q172
           rw [← e175] at f174
           have f174_b := f174.le
           refine v_len f174 X Tryz.underlying37 X<|v_mvI X X<|M<|zw ?_
           refine zQ [6, 26, 27, 28, 29, 30, 31, 32, 34, 35, 36, 159, 160, 161, 162, 163, 164, 165, 166, 167, 168, 169, 170, 171, 172, 173, 174, 175, 176, 177, 178, 179, 180, 181, 182, 183, 184, 185, 186, 187, 188, 189, 190, 191, 192, 193, 194, 195, 196, 197, 198, 199, 200, 201, 202, 203, 204, 205, 206, 207, 208, 209, 210, 211, 212, 213, 214, 215, 216, 217, 218, 219, 220, 221, 222, 223, 224, 225, 226, 227, 228, 229, 230, 231, 232, 233, 234, 235, 236, 237, 238, 239, 240, 241, 242, 243, 244, 245, 246, 247, 248, 249, 250, 251, 252, 253, 254, 255, 256, 257, 258, 259, 260, 261, 262, 263, 264, 265, 266, 267, 268, 269] (G := Nat × Heap) (fun ⟨i, h176⟩ => [(26, .int .i64 ((cntQ (chQ t x d) (placesT t) i) : Int)), (159, .int .i64 (i : Int))]) (fun ⟨i, h176⟩ w' => Le h169 h176 ∧ St h w h176 w' [[], [], [], o_20, o_21] ∧ (i ≤ (placesT t).length)) (fun ⟨i, h176⟩ => (placesT t).length - i) ⟨0, h169⟩ ⟨rfl, rfl, trivial⟩ ⟨Le.refl _, st171, zZ⟩ ?_
           rintro ⟨i, h176⟩ _ w179 ⟨le177, st178, hi⟩
           refine W.sr<|v_lss X X X<|M<|zl ?_
           refine zh rfl (fun c180 => ?_) (fun c180 => ?_)
           ·
            replace c180 := of_decide_eq_true c180
            refine zo<|U<|zl<|zw<|W.sr<|v_mvI X X ?_
            have hp : ∃ y_, ((placesT (t)))[i]? = some y_ := ⟨_, List.getElem?_eq_getElem (by omega)⟩
            obtain ⟨p, hp⟩ := hp
            obtain ⟨b181, o182, _, he184, hc183, hr_p⟩ := Sl.elem (f174.up le177) hp
            obtain rfl := hr_p
            refine v_index_el he184 X X (hk := X) (hu := Tryz.underlying37) (hz := Tryz.sizeOf30) X<|v_load_call st178.sub hc183 X Tryz.isAgg30 Tryz.sizeOf30 X X<|zy st178 Tryz.zeroValue30 X X ?_
            intro b185 w186 st187
            refine v_asI X X<|zp st187 (k := 5) X X X (E X (E X (E X zJ))) Tryz.sizeOf30 X X X ?_
            intro w188 st189
            obtain ⟨h190, le191, hb192, st194⟩ := st189.freeze (k := 5) rfl
            have hc193 := Cells.of hb192
            refine M<|zl ?_
            have hp0 : placeB t p = true := placesT_mem (List.mem_of_getElem? hp)
            have hw12 := wordD_len ht0 hp0
            have hcl2 := cntQ_le (q := chQ t x d) (l := placesT t) i
            refine zg<|v_load_call st194.sub (hc5.up ((((((((((((((((((le10.trans le16).trans le22).trans le28).trans le41).trans le48).trans le63).trans le72).trans le76).trans le82).trans le89).trans le97).trans le105).trans le113).trans le134).trans le151).trans le170).trans le177).trans le191)) X Tryz.isAgg24 Tryz.sizeOf24 X X<|v_load_call st194.sub hc193 X Tryz.isAgg30 Tryz.sizeOf30 X X ?_
            have con := (c_leaf_At st194.sub (t := t) (t_f0.up (((((((((((((((((((le4.trans le10).trans le16).trans le22).trans le28).trans le41).trans le48).trans le63).trans le72).trans le76).trans le82).trans le89).trans le97).trans le105).trans le113).trans le134).trans le151).trans le170).trans le177).trans le191)) (p := p))
            rw [at_word ht0, at_err ht0 hp0] at con
            refine O st194 X X X Tryz.call20 X con ?_
            intro r195 w196 h197 le198 st199 q200
            obtain rfl := q200
            clear con
            refine v_mvT X X<|v_extract (v := (strV _)) X X X<|v_extract (v := (.int _ _)) X X X<|v_asS X X<|v_asI X X<|M<|zl<|W.sr<|v_mvI X X<|v_neq X X X<|M ?_
            refine zh rfl (fun c201 => ?_) (fun c201 => ?_)
            ·
             exact absurd c201 (by decide)
            ·
             refine zo<|U<|zl<|zad Tryz.mixed t_kr (Cls h197 _) (Cls.drew st199)<|u_mvI X X<|u_move (v := v44) X X<|u_len (f45.up ((((((((((((((le48.trans le63).trans le72).trans le76).trans le82).trans le89).trans le97).trans le105).trans le113).trans le134).trans le151).trans le170).trans le177).trans le191).trans le198)) X Tryz.underlying37 X<|u_lss X X X<|u_mvB X X ?_
             refine OpsQ.split (d := 176) rfl (fun g202 => ?_) (fun g202 => ?_)
             ·
              replace g202 := of_decide_eq_true g202
              refine zx X X (d := 176) X<|u_move (v := v44) X X<|zx X X (d := 176) X<|u_mvI X X<|zx X X (d := 176) X ?_
              have hc : ∃ y_, ((changesR (t) (x) (d)))[(cntQ (chQ t x d) (placesT t) i)]? = some y_ := ⟨_, List.getElem?_eq_getElem (by omega)⟩
              obtain ⟨c, hc⟩ := hc
              obtain ⟨b203, o204, _, he206, hc205, hr_c⟩ := Sl.elem (f45.up ((((((((((((((le48.trans le63).trans le72).trans le76).trans le82).trans le89).trans le97).trans le105).trans le113).trans le134).trans le151).trans le170).trans le177).trans le191).trans le198)) hc
              obtain rfl := hr_c
              refine zr rfl rfl (fun _ _ => (zR he206 rfl rfl (hk := (show _ = (((cntQ (chQ t x d) (placesT t) i) : Nat) : Int) by rfl)) (hu := Tryz.underlying37) (hz := Tryz.sizeOf30))) ?_
              refine zx X X (d := 176) X<|zr X X (fun _ hC => (zA hC.sub hc205 X Tryz.isAgg30 Tryz.sizeOf30 X))<|zx X X (d := 176) X<|zr X X (fun _ hC => (zA hC.sub (hc193.up le198) X Tryz.isAgg30 Tryz.sizeOf30 X))<|zx X X (d := 176) X<|zr X X (fun _ _ => (r_steql X X Tryz.eqGuardType30 (Tryz.eq_Place c p)))<|u_pickT (v := (.bool _)) X X X<|u_asB X X<|zac ?_
              rintro w207 ⟨h208, s209⟩
              have st210 := st199.call0 s209
              refine U<|zl<|W.sr<|v_mvB X X<|M ?_
              refine zh rfl (fun c211 => ?_) (fun c211 => ?_)
              ·
               replace c211 := of_decide_eq_true c211
               rw [decide_eq_true c211]
               refine zg<|v_mvI X X<|v_add X X t_om X<|v_asI X X<|M<|zl<|zl<|zad Tryz.mixed t_kr (Cls h208 _) (Cls.drew st210)<|u_mvB X X<|u_move (v := v92) X X<|u_mvI X X ?_
               have ha : ∃ y_, ((headsL (t) (x)))[i]? = some y_ := ⟨_, List.getElem?_eq_getElem (by omega)⟩
               obtain ⟨a, ha⟩ := ha
               obtain ⟨b212, o213, _, he215, hc214, hr_a⟩ := Sl.elem (f93.up (((((((((le97.trans le105).trans le113).trans le134).trans le151).trans le170).trans le177).trans le191).trans le198).trans s209.le)) ha
               obtain ⟨rfl, ls216, lu217⟩ := hr_a
               simp only [big] at ls216
               refine u_index_el he215 X X (hk := X) (hu := Tryz.underlying43) (hz := Tryz.sizeOf32) X<|zr X X (fun _ hC => (zA hC.sub hc214 X Tryz.isAgg32 Tryz.sizeOf32 X))<|u_move (v := v100) X X<|u_mvI X X ?_
               have hb : ∃ y_, ((headsL (t) (((addN (t) (x) (d))))))[i]? = some y_ := ⟨_, List.getElem?_eq_getElem (by omega)⟩
               obtain ⟨b, hb⟩ := hb
               obtain ⟨b218, o219, _, he221, hc220, hr_b⟩ := Sl.elem (f101.up ((((((((le105.trans le113).trans le134).trans le151).trans le170).trans le177).trans le191).trans le198).trans s209.le)) hb
               obtain ⟨rfl, ls222, lu223⟩ := hr_b
               simp only [big] at ls222
               refine u_index_el he221 X X (hk := X) (hu := Tryz.underlying43) (hz := Tryz.sizeOf32) X<|zr X X (fun _ hC => (zA hC.sub hc220 X Tryz.isAgg32 Tryz.sizeOf32 X))<|zr X X (fun _ _ => (r_stneq X X Tryz.eqGuardType32 (Tryz.eq_Head a b)))<|zr X X (fun _ _ => (r_bneq X X Tryz.underlying4))<|zac ?_
               rintro w224 ⟨h225, s226⟩
               have st227 := st210.call0 s226
               refine U ?_
               refine zh rfl (fun c228 => ?_) (fun c228 => ?_)
               ·
                exfalso
                have sure_ : ((!(true == (decide (a ≠ b))))) = false := by rw [← ch_h hz0 hp ha hb]; first | (rw [← ch_a hz0 hp hc]; simp_all; done) | (rw [ch_b hz0 hp (by assumption)]; simp_all)
                exact absurd (c228.symm.trans sure_) (by decide)
               ·
                refine zo<|U<|zl<|W.sr<|v_mvB X X<|v_not X X<|M ?_
                refine zh rfl (fun c229 => ?_) (fun c229 => ?_)
                ·
                 cases c229
                ·
                 refine zo<|U<|zl ?_
                 have hq : chQ t x d p = true := by first | exact (ch_a hz0 hp hc).symm.trans (decide_eq_true (by assumption)) | simp_all
                 have hcd := cd_any hz0 hq
                 have hbw := (head_pl hp hb).trans rfl
                 refine zg<|v_asB X X<|M<|zl<|W.sr<|v_field_addr X Tryz.underlying28 X Tryz.sizeOf26 X X<|v_load_cells1 (j := 1) st227.sub (hc65.up ((((((((((((((le72.trans le76).trans le82).trans le89).trans le97).trans le105).trans le113).trans le134).trans le151).trans le170).trans le177).trans le191).trans le198).trans s209.le).trans s226.le)) X X X Tryz.isAgg26 X<|v_len (f77.up ((((((((((((le82.trans le89).trans le97).trans le105).trans le113).trans le134).trans le151).trans le170).trans le177).trans le191).trans le198).trans s209.le).trans s226.le)) X Tryz.underlying26 X<|v_mvI X X<|M<|zw ?_
                 refine zQ [32, 34, 203, 204, 205, 206, 207, 208, 209, 210, 211, 212, 213, 214, 215, 216, 217, 218, 219, 220, 221, 222, 223, 224, 225] (G := Nat × Heap) (fun ⟨k, h230⟩ => [(32, .bool (((addN t x d).decisions.take k).any (cdQ x (addN t x d) p (wordD t p)))), (203, .int .i64 (k : Int))]) (fun ⟨k, h230⟩ w' => Le h225 h230 ∧ St h w h230 w' [[], [], [], o_20, o_21, []] ∧ (k ≤ (addN t x d).decisions.length)) (fun ⟨k, h230⟩ => (addN t x d).decisions.length - k) ⟨0, h225⟩ ⟨rfl, rfl, trivial⟩ ⟨Le.refl _, st227, zZ⟩ ?_
                 rintro ⟨k, h230⟩ _ w233 ⟨le231, st232, hk⟩
                 refine W.sr<|v_lss X X X<|M<|zl ?_
                 refine zh rfl (fun c234 => ?_) (fun c234 => ?_)
                 ·
                  replace c234 := of_decide_eq_true c234
                  refine zo<|U<|zl<|zw<|W.sr ?_
                  have ho : ∃ y_, ((((addN (t) (x) (d))).decisions))[k]? = some y_ := ⟨_, List.getElem?_eq_getElem (by omega)⟩
                  obtain ⟨o, ho⟩ := ho
                  obtain ⟨b235, o236, _, he238, hc237, hr_o⟩ := Sl.elem (f77.up (((((((((((((le82.trans le89).trans le97).trans le105).trans le113).trans le134).trans le151).trans le170).trans le177).trans le191).trans le198).trans s209.le).trans s226.le).trans le231)) ho
                  obtain ⟨rfl, lu239, ls240, ls241, lu242⟩ := hr_o
                  simp only [big] at ls240
                  simp only [big] at ls241
                  refine v_index_el he238 X X (hk := X) (hu := Tryz.underlying26) (hz := Tryz.sizeOf34) X<|v_load_call st232.sub hc237 X Tryz.isAgg34 Tryz.sizeOf34 X X<|zy st232 Tryz.zeroValue34 X X ?_
                  intro b243 w244 st245
                  refine zp st245 (k := 6) X X X (E X (E X (E X (E X (E X (E X (E X (E X (E X zJ))))))))) Tryz.sizeOf34 X X X ?_
                  intro w246 st247
                  obtain ⟨h248, le249, hb250, st252⟩ := st247.freeze (k := 6) rfl
                  have hc251 := Cells.of hb250
                  refine M<|zg<|v_mvB X X<|v_mvB X X ?_
                  refine zk (d := 208) rfl (fun g253 => ?_) (fun g253 => ?_)
                  ·
                   refine Z X X X X X<|Z X X X X X<|Z X X X X X<|Z X X X X X<|Z X X X X X<|Z X X X X X<|Z X X X X X<|Z X X X X X<|Z X X X X X<|Z X X X X X<|zd X X (d := 218) X X<|zd X X (d := 218) X X<|zd X X (d := 218) X X<|zd X X (d := 218) X X<|Z X X X X X<|v_pickT (v := (.bool _)) X X X<|v_asB X X<|zm<|zt<|U<|zg<|v_add X X t_om X<|v_mvI X X<|M ?_
                   refine ⟨⟨k + 1, h248⟩, ⟨?_, rfl, trivial⟩, ?_, ⟨(le231.trans le249), st252.take 6, ?_⟩, ?_⟩
                   ·exact zj (by rw [any_snoc ho]; first | (rw [g253]; rfl) | (have q := g253; rw [tr_look, tr_look] at q; rw [g202, cdQ]; first | (rw [show (decide (o.number ∈ standS x) != decide (o.number ∈ standS (addN t x d))) = true from q]; simp) | (rw [show (decide (o.number ∈ standS x) != decide (o.number ∈ standS (addN t x d))) = false from q]; simp)))
                   ·exact zU
                   ·first | omega | (simp; omega)
                   ·show (addN t x d).decisions.length - ((k + 1)) < (addN t x d).decisions.length - k
                    omega
                  ·
                   refine Y X X (d := 208) X<|v_move (v := (.map (some mb124))) X X<|Y X X (d := 208) X<|v_field_addr X Tryz.underlying34 X Tryz.sizeOf3 X X<|Y X X (d := 208) X<|v_load_cells1 (j := 0) st252.sub hc251 X X X Tryz.isAgg3 X<|Y X X (d := 208) X<|ze X X (r_look (k := (o.number)) (zu := false) (key_int Tryz.underlying3) Tryz.underlying49 f148 (st252.ent (k := 3) X) Tryz.zeroValue4 X X X)<|Y X X (d := 208) X<|v_move (v := (.map (some mb131))) X X<|Y X X (d := 208) X<|v_field_addr X Tryz.underlying34 X Tryz.sizeOf3 X X<|Y X X (d := 208) X<|v_load_cells1 (j := 0) st252.sub hc251 X X X Tryz.isAgg3 X<|Y X X (d := 208) X<|ze X X (r_look (k := (o.number)) (zu := false) (key_int Tryz.underlying3) Tryz.underlying49 f165 (st252.ent (k := 4) X) Tryz.zeroValue4 X X X)<|Y X X (d := 208) X<|ze X X (r_bneq X X Tryz.underlying4)<|Y X X (d := 208) X<|v_mvB X X ?_
                   refine zk (d := 218) rfl (fun g254 => ?_) (fun g254 => ?_)
                   ·
                    refine Y X X (d := 218) X<|v_load_call st252.sub hc251 X Tryz.isAgg34 Tryz.sizeOf34 X X<|Y X X (d := 218) X<|v_load_call st252.sub (hc193.up ((((le198.trans s209.le).trans s226.le).trans le231).trans le249)) X Tryz.isAgg30 Tryz.sizeOf30 X X<|Y X X (d := 218) X<|v_mvS X X<|Y X X (d := 218) X<|O st252 X X X Tryz.call21 X (c_postilref04_Concerns st252.sub (d := o) t_u8 zT zT t_u8 (p := p) _ zT) ?_
                    intro r255 w256 h257 le258 st259 q260
                    obtain rfl := q260
                    refine Y X X (d := 208) X<|v_pickT (v := (.bool _)) X X X<|v_pickF (v := (.bool _)) X X X<|v_asB X X<|zm<|zt<|U<|zg<|v_add X X t_om X<|v_mvI X X<|M ?_
                    refine ⟨⟨k + 1, h257⟩, ⟨?_, rfl, trivial⟩, ?_, ⟨((le231.trans le249).trans le258), st259.take 6, ?_⟩, ?_⟩
                    ·exact zj (by rw [any_snoc ho]; first | (rw [g254]; rfl) | (have q := g254; rw [tr_look, tr_look] at q; rw [g253, cdQ]; first | (rw [show (decide (o.number ∈ standS x) != decide (o.number ∈ standS (addN t x d))) = true from q]; simp) | (rw [show (decide (o.number ∈ standS x) != decide (o.number ∈ standS (addN t x d))) = false from q]; simp)))
                    ·exact zU
                    ·first | omega | (simp; omega)
                    ·show (addN t x d).decisions.length - ((k + 1)) < (addN t x d).decisions.length - k
                     omega
                   ·
                    refine Z X X X X X<|Z X X X X X<|Z X X X X X<|Z X X X X X<|Y X X (d := 208) X<|v_pickF (v := (.bool _)) X X X<|v_pickF (v := (.bool _)) X X X<|v_asB X X<|zm<|zt<|U<|zg<|v_add X X t_om X<|v_mvI X X<|M ?_
                    refine ⟨⟨k + 1, h248⟩, ⟨?_, rfl, trivial⟩, ?_, ⟨(le231.trans le249), st252.take 6, ?_⟩, ?_⟩
                    ·exact zj (by rw [any_snoc ho]; first | (rw [g254]; rfl) | (have q := g254; rw [tr_look, tr_look] at q; rw [g253, cdQ]; first | (rw [show (decide (o.number ∈ standS x) != decide (o.number ∈ standS (addN t x d))) = true from q]; simp) | (rw [show (decide (o.number ∈ standS x) != decide (o.number ∈ standS (addN t x d))) = false from q]; simp)))
                    ·exact zU
                    ·first | omega | (simp; omega)
                    ·show (addN t x d).decisions.length - ((k + 1)) < (addN t x d).decisions.length - k
                     omega
                 ·
                  replace c234 := of_decide_eq_false c234
                  refine zS<|zi<|zi<|zM<|U<|zl<|W.sr<|v_mvB X X<|v_not X X<|M ?_
                  refine zh rfl (fun c261 => ?_) (fun c261 => ?_)
                  ·
                   exfalso
                   have sure_ : ((!(((addN t x d).decisions.take k).any (cdQ x (addN t x d) p (wordD t p))))) = false := by rw [List.take_of_length_le (by omega)]; simpa [cdQ] using hcd
                   exact absurd (c261.symm.trans sure_) (by decide)
                  ·
                   refine zo<|U<|W.sr<|v_field_addr X Tryz.underlying34 X Tryz.sizeOf5 X X<|v_load_cells1 (j := 1) st232.sub (hc17.up ((((((((((((((((((((le22.trans le28).trans le41).trans le48).trans le63).trans le72).trans le76).trans le82).trans le89).trans le97).trans le105).trans le113).trans le134).trans le151).trans le170).trans le177).trans le191).trans le198).trans s209.le).trans s226.le).trans le231)) X X X Tryz.isAgg5 X<|v_neq X X X<|v_mvB X X ?_
                   refine zk (d := 231) rfl (fun g262 => ?_) (fun g262 => ?_)
                   ·
                    replace g262 := of_decide_eq_true g262
                    refine Y X X (d := 231) X<|v_move (v := (.map (some mb131))) X X<|Y X X (d := 231) X<|v_field_addr X Tryz.underlying34 X Tryz.sizeOf3 X X<|Y X X (d := 231) X<|v_load_cells1 (j := 0) st232.sub (hc17.up ((((((((((((((((((((le22.trans le28).trans le41).trans le48).trans le63).trans le72).trans le76).trans le82).trans le89).trans le97).trans le105).trans le113).trans le134).trans le151).trans le170).trans le177).trans le191).trans le198).trans s209.le).trans s226.le).trans le231)) X X X Tryz.isAgg3 X<|Y X X (d := 231) X<|ze X X (r_look (k := (d.number)) (zu := false) (key_int Tryz.underlying3) Tryz.underlying49 f165 (st232.ent (k := 4) X) Tryz.zeroValue4 X X X)<|v_pickT (v := (.bool _)) X X X<|M ?_
                    refine zh rfl (fun c263 => ?_) (fun c263 => ?_)
                    ·
                     refine zl ?_
                     have hk4 : ¬ d.kind = 4 := g262
                     have hby := cd_by hz0 hk4 hq
                     have hbd : b = d.to := by rw [hbw, headAt, hby]
                     refine zg<|v_load_call st232.sub (hc5.up ((((((((((((((((((((((le10.trans le16).trans le22).trans le28).trans le41).trans le48).trans le63).trans le72).trans le76).trans le82).trans le89).trans le97).trans le105).trans le113).trans le134).trans le151).trans le170).trans le177).trans le191).trans le198).trans s209.le).trans s226.le).trans le231)) X Tryz.isAgg24 Tryz.sizeOf24 X X<|v_load_call st232.sub (hc65.up (((((((((((((((le72.trans le76).trans le82).trans le89).trans le97).trans le105).trans le113).trans le134).trans le151).trans le170).trans le177).trans le191).trans le198).trans s209.le).trans s226.le).trans le231)) X Tryz.isAgg28 Tryz.sizeOf28 X X<|v_load_call st232.sub (hc193.up (((le198.trans s209.le).trans s226.le).trans le231)) X Tryz.isAgg30 Tryz.sizeOf30 X X ?_
                     have con := (c_stem_By st232.sub (t := t) (t_f0.up (((((((((((((((((((((((le4.trans le10).trans le16).trans le22).trans le28).trans le41).trans le48).trans le63).trans le72).trans le76).trans le82).trans le89).trans le97).trans le105).trans le113).trans le134).trans le151).trans le170).trans le177).trans le191).trans le198).trans s209.le).trans s226.le).trans le231)) (x := ((addN (t) (x) (d)))) (f73.up ((((((((((((((le76.trans le82).trans le89).trans le97).trans le105).trans le113).trans le134).trans le151).trans le170).trans le177).trans le191).trans le198).trans s209.le).trans s226.le).trans le231)) (f77.up (((((((((((((le82.trans le89).trans le97).trans le105).trans le113).trans le134).trans le151).trans le170).trans le177).trans le191).trans le198).trans s209.le).trans s226.le).trans le231)) (p := p) (K0.up (((((((((((((((((((((((le4.trans le10).trans le16).trans le22).trans le28).trans le41).trans le48).trans le63).trans le72).trans le76).trans le82).trans le89).trans le97).trans le105).trans le113).trans le134).trans le151).trans le170).trans le177).trans le191).trans le198).trans s209.le).trans s226.le).trans le231)))
                     rw [askE_eq hy0 hp0, askR_win hy0 hp0, hby] at con
                     refine O st232 X X X Tryz.call22 X con ?_
                     intro r264 w265 h266 le267 st268 q269
                     obtain rfl := q269
                     clear con
                     refine v_mvT X X<|v_extract (v := (.int _ _)) X X X<|v_extract (v := (.int _ _)) X X X<|v_asI X X<|v_asI X X<|M<|zl<|zad Tryz.mixed t_kr (Cls h266 _) (Cls.drew st268)<|u_mvI X X<|u_neq X X X<|u_mvB X X<|zx X X (d := 246) X<|u_move (v := v108) X X<|zx X X (d := 246) X<|u_len (f109.up ((((((((((le113.trans le134).trans le151).trans le170).trans le177).trans le191).trans le198).trans s209.le).trans s226.le).trans le231).trans le267)) X Tryz.underlying46 X<|zx X X (d := 246) X<|u_add X X t_om X<|zx X X (d := 246) X<|u_move (v := v116) X X<|zx X X (d := 246) X<|u_len (f117.up (((((((((le134.trans le151).trans le170).trans le177).trans le191).trans le198).trans s209.le).trans s226.le).trans le231).trans le267)) X Tryz.underlying46 X<|zx X X (d := 246) X<|u_eql X X X<|zx X X (d := 246) X<|u_mvB X X ?_
                     refine OpsQ.split (d := 253) rfl (fun g270 => ?_) (fun g270 => ?_)
                     ·
                      replace g270 := of_decide_eq_true g270
                      refine zx X X (d := 253) X<|u_mvI X X<|zx X X (d := 253) X<|u_field_addr X Tryz.underlying34 X Tryz.sizeOf3 X X<|zx X X (d := 253) X<|zr X X (fun _ hC => (zf (j := 0) hC.sub (hc17.up (((((((((((((((((((((le22.trans le28).trans le41).trans le48).trans le63).trans le72).trans le76).trans le82).trans le89).trans le97).trans le105).trans le113).trans le134).trans le151).trans le170).trans le177).trans le191).trans le198).trans s209.le).trans s226.le).trans le231).trans le267)) X X X Tryz.isAgg3))<|zx X X (d := 253) X<|u_neq X X X<|zx X X (d := 253) X<|u_mvB X X ?_
                      refine OpsQ.split (d := 258) rfl (fun g271 => ?_) (fun g271 => ?_)
                      ·
                       replace g271 := of_decide_eq_true g271
                       refine zD X X (d := 258) X X X<|zD X X (d := 258) X X X<|zD X X (d := 258) X X X<|zD X X (d := 258) X X X<|zD X X (d := 258) X X X<|zD X X (d := 258) X X X<|zD X X (d := 258) X X X<|zx X X (d := 253) X<|u_pickT (v := (.bool _)) X X X<|zx X X (d := 246) X<|u_pickT (v := (.bool _)) X X X<|u_pickF (v := (.bool _)) X X X<|zac ?_
                       rintro w272 ⟨h273, s274⟩
                       have st275 := st268.call0 s274
                       refine U ?_
                       refine zh rfl (fun c276 => ?_) (fun c276 => ?_)
                       ·
                        refine W.sr<|v_asB X X<|M<|zq<|zz<|zc<|zc<|zz<|zc<|za Tryz.results3 ?_
                        refine ⟨h273, _, rfl, st275.done, ?_⟩
                        refine zj ?_
                        first | (simp_all; done) | (rcases add_cases hx0 (by assumption) with ⟨q1, q2⟩ | q1 <;> simp_all; done) | (rw [cntQ_all (by omega), changes_ch hz0]; simp)
                       ·
                        cases c276
                      ·
                       replace g271 := of_decide_eq_false g271
                       refine zx X X (d := 258) X<|u_move (v := v100) X X<|zx X X (d := 258) X<|u_mvI X X<|zx X X (d := 258) X<|u_index_el he221 X X (hk := X) (hu := Tryz.underlying43) (hz := Tryz.sizeOf32) X<|zx X X (d := 258) X<|zr X X (fun _ hC => (zA hC.sub (hc220.up ((s226.le.trans le231).trans le267)) X Tryz.isAgg32 Tryz.sizeOf32 X))<|zx X X (d := 258) X<|u_field_addr X Tryz.underlying34 X Tryz.sizeOf32 X X<|zx X X (d := 258) X<|zr X X (fun _ hC => (r_load_cellsN (j := 6) hC.sub (hc17.up (((((((((((((((((((((le22.trans le28).trans le41).trans le48).trans le63).trans le72).trans le76).trans le82).trans le89).trans le97).trans le105).trans le113).trans le134).trans le151).trans le170).trans le177).trans le191).trans le198).trans s209.le).trans s226.le).trans le231).trans le267)) (us := [strV (d.to.stem), .int .u8 (d.to.mark)]) X X Tryz.isAgg32 Tryz.sizeOf32 X X))<|zx X X (d := 258) X<|zr X X (fun _ _ => (r_stneq X X Tryz.eqGuardType32 (Tryz.eq_Head b d.to)))<|zx X X (d := 253) X<|u_pickF (v := (.bool _)) X X X<|zx X X (d := 246) X<|u_pickT (v := (.bool _)) X X X<|u_pickF (v := (.bool _)) X X X<|zac ?_
                       rintro w277 ⟨h278, s279⟩
                       have st280 := st268.call0 s279
                       refine U ?_
                       refine zh rfl (fun c281 => ?_) (fun c281 => ?_)
                       ·
                        replace c281 := of_decide_eq_true c281
                        exfalso
                        have sure_ : (decide (b ≠ d.to)) = false := by exact decide_eq_false (fun q => q hbd)
                        exact of_decide_eq_false sure_ c281
                       ·
                        replace c281 := of_decide_eq_false c281
                        refine zo<|zt<|U<|zg<|v_add X X t_om X<|v_mvI X X<|M ?_
                        refine ⟨⟨i + 1, h278⟩, ⟨?_, rfl, trivial⟩, ?_, ⟨(((((((le177.trans le191).trans le198).trans s209.le).trans s226.le).trans le231).trans le267).trans s279.le), st280.take 5, ?_⟩, ?_⟩
                        ·exact zP (by rw [cntQ_succ hp]; first | (rw [← ch_a hz0 hp hc]; simp_all; done) | (rw [ch_b hz0 hp (by assumption)]; simp_all))
                        ·exact zU
                        ·first | omega | (simp; omega)
                        ·show (placesT t).length - ((i + 1)) < (placesT t).length - i
                         omega
                     ·
                      replace g270 := of_decide_eq_false g270
                      refine zD X X (d := 253) X X X<|zD X X (d := 253) X X X<|zD X X (d := 253) X X X<|zD X X (d := 253) X X X<|zD X X (d := 253) X X X<|OpsQ.skippedU X X (d := 258) X X<|OpsQ.skippedU X X (d := 258) X X<|OpsQ.skippedU X X (d := 258) X X<|OpsQ.skippedU X X (d := 258) X X<|OpsQ.skippedU X X (d := 258) X X<|OpsQ.skippedU X X (d := 258) X X<|OpsQ.skippedU X X (d := 258) X X<|zD X X (d := 253) X X X<|zx X X (d := 246) X<|u_pickF (v := (.bool _)) X X X<|u_pickF (v := (.bool _)) X X X<|zac ?_
                      rintro w282 ⟨h283, s284⟩
                      have st285 := st268.call0 s284
                      refine U ?_
                      refine zh rfl (fun c286 => ?_) (fun c286 => ?_)
                      ·
                       cases c286
                      ·
                       refine zo<|zt<|U<|zg<|v_add X X t_om X<|v_mvI X X<|M ?_
                       refine ⟨⟨i + 1, h283⟩, ⟨?_, rfl, trivial⟩, ?_, ⟨(((((((le177.trans le191).trans le198).trans s209.le).trans s226.le).trans le231).trans le267).trans s284.le), st285.take 5, ?_⟩, ?_⟩
                       ·exact zP (by rw [cntQ_succ hp]; first | (rw [← ch_a hz0 hp hc]; simp_all; done) | (rw [ch_b hz0 hp (by assumption)]; simp_all))
                       ·exact zU
                       ·first | omega | (simp; omega)
                       ·show (placesT t).length - ((i + 1)) < (placesT t).length - i
                        omega
                    ·
                     refine zo<|zt<|U<|zg<|v_add X X t_om X<|v_mvI X X<|M ?_
                     refine ⟨⟨i + 1, h230⟩, ⟨?_, rfl, trivial⟩, ?_, ⟨(((((le177.trans le191).trans le198).trans s209.le).trans s226.le).trans le231), st232.take 5, ?_⟩, ?_⟩
                     ·exact zP (by rw [cntQ_succ hp]; first | (rw [← ch_a hz0 hp hc]; simp_all; done) | (rw [ch_b hz0 hp (by assumption)]; simp_all))
                     ·exact zU
                     ·first | omega | (simp; omega)
                     ·show (placesT t).length - ((i + 1)) < (placesT t).length - i
                      omega
                   ·
                    replace g262 := of_decide_eq_false g262
                    refine Z X X X X X<|Z X X X X X<|Z X X X X X<|Z X X X X X<|v_pickF (v := (.bool _)) X X X<|M ?_
                    refine zh rfl (fun c287 => ?_) (fun c287 => ?_)
                    ·
                     cases c287
                    ·
                     refine zo<|zt<|U<|zg<|v_add X X t_om X<|v_mvI X X<|M ?_
                     refine ⟨⟨i + 1, h230⟩, ⟨?_, rfl, trivial⟩, ?_, ⟨(((((le177.trans le191).trans le198).trans s209.le).trans s226.le).trans le231), st232.take 5, ?_⟩, ?_⟩
                     ·exact zP (by rw [cntQ_succ hp]; first | (rw [← ch_a hz0 hp hc]; simp_all; done) | (rw [ch_b hz0 hp (by assumption)]; simp_all))
                     ·exact zU
                     ·first | omega | (simp; omega)
                     ·show (placesT t).length - ((i + 1)) < (placesT t).length - i
                      omega
              ·
               replace c211 := of_decide_eq_false c211
               rw [decide_eq_false c211]
               refine zo<|U<|zl<|zl<|zad Tryz.mixed t_kr (Cls h208 _) (Cls.drew st210)<|u_mvB X X<|u_move (v := v92) X X<|u_mvI X X ?_
               have ha : ∃ y_, ((headsL (t) (x)))[i]? = some y_ := ⟨_, List.getElem?_eq_getElem (by omega)⟩
               obtain ⟨a, ha⟩ := ha
               obtain ⟨b288, o289, _, he291, hc290, hr_a⟩ := Sl.elem (f93.up (((((((((le97.trans le105).trans le113).trans le134).trans le151).trans le170).trans le177).trans le191).trans le198).trans s209.le)) ha
               obtain ⟨rfl, ls292, lu293⟩ := hr_a
               simp only [big] at ls292
               refine u_index_el he291 X X (hk := X) (hu := Tryz.underlying43) (hz := Tryz.sizeOf32) X<|zr X X (fun _ hC => (zA hC.sub hc290 X Tryz.isAgg32 Tryz.sizeOf32 X))<|u_move (v := v100) X X<|u_mvI X X ?_
               have hb : ∃ y_, ((headsL (t) (((addN (t) (x) (d))))))[i]? = some y_ := ⟨_, List.getElem?_eq_getElem (by omega)⟩
               obtain ⟨b, hb⟩ := hb
               obtain ⟨b294, o295, _, he297, hc296, hr_b⟩ := Sl.elem (f101.up ((((((((le105.trans le113).trans le134).trans le151).trans le170).trans le177).trans le191).trans le198).trans s209.le)) hb
               obtain ⟨rfl, ls298, lu299⟩ := hr_b
               simp only [big] at ls298
               refine u_index_el he297 X X (hk := X) (hu := Tryz.underlying43) (hz := Tryz.sizeOf32) X<|zr X X (fun _ hC => (zA hC.sub hc296 X Tryz.isAgg32 Tryz.sizeOf32 X))<|zr X X (fun _ _ => (r_stneq X X Tryz.eqGuardType32 (Tryz.eq_Head a b)))<|zr X X (fun _ _ => (r_bneq X X Tryz.underlying4))<|zac ?_
               rintro w300 ⟨h301, s302⟩
               have st303 := st210.call0 s302
               refine U ?_
               refine zh rfl (fun c304 => ?_) (fun c304 => ?_)
               ·
                exfalso
                have sure_ : ((!(false == (decide (a ≠ b))))) = false := by rw [← ch_h hz0 hp ha hb]; first | (rw [← ch_a hz0 hp hc]; simp_all; done) | (rw [ch_b hz0 hp (by assumption)]; simp_all)
                exact absurd (c304.symm.trans sure_) (by decide)
               ·
                refine zo<|U<|zl<|W.sr<|v_mvB X X<|v_not X X<|M ?_
                refine zh rfl (fun c305 => ?_) (fun c305 => ?_)
                ·
                 refine zS<|zi<|zM<|U<|zg<|v_add X X t_om X<|v_mvI X X<|M ?_
                 refine ⟨⟨i + 1, h301⟩, ⟨?_, rfl, trivial⟩, ?_, ⟨((((le177.trans le191).trans le198).trans s209.le).trans s302.le), st303.take 5, ?_⟩, ?_⟩
                 ·exact zP (by rw [cntQ_succ hp]; first | (rw [← ch_a hz0 hp hc]; simp_all; done) | (rw [ch_b hz0 hp (by assumption)]; simp_all))
                 ·exact zU
                 ·first | omega | (simp; omega)
                 ·show (placesT t).length - ((i + 1)) < (placesT t).length - i
                  omega
                ·
                 cases c305
             ·
              replace g202 := of_decide_eq_false g202
              refine zD X X (d := 176) X X X<|zD X X (d := 176) X X X<|zD X X (d := 176) X X X<|zD X X (d := 176) X X X<|zD X X (d := 176) X X X<|zD X X (d := 176) X X X<|u_pickF (v := (.bool _)) X X X<|u_asB X X<|zac ?_
              rintro w306 ⟨h307, s308⟩
              have st309 := st199.call0 s308
              refine U<|zl<|W.sr<|v_mvB X X<|M ?_
              refine zh rfl (fun c310 => ?_) (fun c310 => ?_)
              ·
               cases c310
              ·
               refine zo<|U<|zl<|zl<|zad Tryz.mixed t_kr (Cls h307 _) (Cls.drew st309)<|u_mvB X X<|u_move (v := v92) X X<|u_mvI X X ?_
               have ha : ∃ y_, ((headsL (t) (x)))[i]? = some y_ := ⟨_, List.getElem?_eq_getElem (by omega)⟩
               obtain ⟨a, ha⟩ := ha
               obtain ⟨b311, o312, _, he314, hc313, hr_a⟩ := Sl.elem (f93.up (((((((((le97.trans le105).trans le113).trans le134).trans le151).trans le170).trans le177).trans le191).trans le198).trans s308.le)) ha
               obtain ⟨rfl, ls315, lu316⟩ := hr_a
               simp only [big] at ls315
               refine u_index_el he314 X X (hk := X) (hu := Tryz.underlying43) (hz := Tryz.sizeOf32) X<|zr X X (fun _ hC => (zA hC.sub hc313 X Tryz.isAgg32 Tryz.sizeOf32 X))<|u_move (v := v100) X X<|u_mvI X X ?_
               have hb : ∃ y_, ((headsL (t) (((addN (t) (x) (d))))))[i]? = some y_ := ⟨_, List.getElem?_eq_getElem (by omega)⟩
               obtain ⟨b, hb⟩ := hb
               obtain ⟨b317, o318, _, he320, hc319, hr_b⟩ := Sl.elem (f101.up ((((((((le105.trans le113).trans le134).trans le151).trans le170).trans le177).trans le191).trans le198).trans s308.le)) hb
               obtain ⟨rfl, ls321, lu322⟩ := hr_b
               simp only [big] at ls321
               refine u_index_el he320 X X (hk := X) (hu := Tryz.underlying43) (hz := Tryz.sizeOf32) X<|zr X X (fun _ hC => (zA hC.sub hc319 X Tryz.isAgg32 Tryz.sizeOf32 X))<|zr X X (fun _ _ => (r_stneq X X Tryz.eqGuardType32 (Tryz.eq_Head a b)))<|zr X X (fun _ _ => (r_bneq X X Tryz.underlying4))<|zac ?_
               rintro w323 ⟨h324, s325⟩
               have st326 := st309.call0 s325
               refine U ?_
               refine zh rfl (fun c327 => ?_) (fun c327 => ?_)
               ·
                exfalso
                have sure_ : ((!(false == (decide (a ≠ b))))) = false := by rw [← ch_h hz0 hp ha hb]; first | (rw [← ch_a hz0 hp hc]; simp_all; done) | (rw [ch_b hz0 hp (by assumption)]; simp_all)
                exact absurd (c327.symm.trans sure_) (by decide)
               ·
                refine zo<|U<|zl<|W.sr<|v_mvB X X<|v_not X X<|M ?_
                refine zh rfl (fun c328 => ?_) (fun c328 => ?_)
                ·
                 refine zS<|zi<|zM<|U<|zg<|v_add X X t_om X<|v_mvI X X<|M ?_
                 refine ⟨⟨i + 1, h324⟩, ⟨?_, rfl, trivial⟩, ?_, ⟨((((le177.trans le191).trans le198).trans s308.le).trans s325.le), st326.take 5, ?_⟩, ?_⟩
                 ·exact zP (by rw [cntQ_succ hp]; first | (rw [← ch_a hz0 hp hc]; simp_all; done) | (rw [ch_b hz0 hp (by assumption)]; simp_all))
                 ·exact zU
                 ·first | omega | (simp; omega)
                 ·show (placesT t).length - ((i + 1)) < (placesT t).length - i
                  omega
                ·
                 cases c328
           ·
            replace c180 := of_decide_eq_false c180
            refine zS<|zi<|zi<|zM<|U<|W.sr<|v_mvB X X<|v_mvB X X<|Y X X (d := 271) X<|v_mvI X X<|Y X X (d := 271) X<|v_move (v := v44) X X<|Y X X (d := 271) X<|v_len (f45.up ((((((((((((le48.trans le63).trans le72).trans le76).trans le82).trans le89).trans le97).trans le105).trans le113).trans le134).trans le151).trans le170).trans le177)) X Tryz.underlying37 X<|Y X X (d := 271) X<|v_eql X X X<|v_pickT (v := (.bool _)) X X X<|v_asB X X<|M<|zq<|za Tryz.results3 ?_
            refine ⟨h176, _, rfl, st178.done, ?_⟩
            refine zj ?_
            first | (simp_all; done) | (rcases add_cases hx0 (by assumption) with ⟨q1, q2⟩ | q1 <;> simp_all; done) | (rw [cntQ_all (by omega), changes_ch hz0]; simp)
end Go.Pk
