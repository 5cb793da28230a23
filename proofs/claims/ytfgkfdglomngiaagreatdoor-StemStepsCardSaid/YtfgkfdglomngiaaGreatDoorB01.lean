/- A PART OF THE PROOF: contracts of functions, each walked once (much of it printed by a program of the author's own). -/
import Derived.Test.YtfgkfdglomngiaaGreatDoorT10
import Derived.Test.YtfgkfdglomngiaaGreatDoorT3
set_option linter.unusedSimpArgs false
set_option linter.unusedVariables false
namespace Go.Pk
open Go Go.RowKit Go.Proofs
set_option maxRecDepth 4000 in
theorem c_postillaw04_StemSteps {h : Heap} {w : World} (hs : Sub h w) {t : Text} {t_v0 : Value} (t_f0 : Sl LChapter h t_v0 t.chapters) {x : Lexicon} {x_v0 : Value} (x_f0 : Sl LRule h x_v0 x.rules) {x_v1 : Value} (x_f1 : Sl LDecision h x_v1 x.decisions) (word : Str) (word_le : word.length ≤ 281474976710656) (K0 : Cells h 0 0 Tryz.glob0) : Calls Tryz.prog 5 #[.agg #[t_v0], .agg #[x_v0, x_v1], strV word] w (Rets h w (fun _ _ res_ => res_ = .bool (true))) := by
 refine zB (n := 134) (args := [.agg #[t_v0], .agg #[x_v0, x_v1], strV word]) Tryz.func5 X X X ?_
 have st0 : St h w h w [] := St.start hs
 have t_f0_b := t_f0.le
 have x_f0_b := x_f0.le
 have x_f1_b := x_f1.le
 refine W.sr<|zn st0 (cs := [t_v0]) X X X ?_
 intro b1 w2 h3 le4 hc5 st6
 refine zn st6 (cs := [x_v0, x_v1]) X X X ?_
 intro b7 w8 h9 le10 hc11 st12
 refine v_asB X X<|M<|W.sr<|O st12 X X X Tryz.call13 X (c_postillaw04_alive st12.sub (K0.up (le4.trans le10))) ?_
 intro r13 w14 h15 le16 st17 q18
 obtain rfl := q18
 refine v_asB X X<|M<|zl<|W.sr<|v_load_call st17.sub (hc5.up (le10.trans le16)) X Tryz.isAgg24 Tryz.sizeOf24 X X<|v_load_call st17.sub (hc11.up le16) X Tryz.isAgg28 Tryz.sizeOf28 X X<|O st17 X X X Tryz.call14 X (zae st17.sub (t := t) (t_f0.up ((le4.trans le10).trans le16)) (x := x) (x_f0.up ((le4.trans le10).trans le16)) (x_f1.up ((le4.trans le10).trans le16))) ?_
 intro r19 w20 h21 le22 st23 q24
 obtain rfl := q24
 refine v_not X X<|v_mvB X X ?_
 refine zk (d := 25) rfl (fun g25 => ?_) (fun g25 => ?_)
 ·
  refine Z X X X X X<|Z X X X X X<|Z X X X X X<|v_pickT (v := (.bool _)) X X X<|v_mvB X X<|Z X X X X X<|Z X X X X X<|v_pickT (v := (.bool _)) X X X<|M ?_
  refine zh rfl (fun c26 => ?_) (fun c26 => ?_)
  ·
   refine W.sr<|v_mvB X X<|v_asB X X<|M<|zq<|zc<|za Tryz.results5 ?_
   refine ⟨h21, _, rfl, st23.done, ?_⟩
   refine zj ?_
   first | exact hz.elim | (simp_all; done) | (exfalso; simp_all; done) | (exfalso; omega)
  ·
   cases c26
 ·
  refine Y X X (d := 25) X<|v_mvS X X<|Y X X (d := 25) X<|O st23 X X X Tryz.call30 X (c_postilref01_Word st23.sub _ zT) ?_
  intro r27 w28 h29 le30 st31 q32
  obtain rfl := q32
  refine Y X X (d := 25) X<|v_not X X<|v_pickF (v := (.bool _)) X X X<|v_mvB X X ?_
  refine zk (d := 30) rfl (fun g33 => ?_) (fun g33 => ?_)
  ·
   refine Z X X X X X<|Z X X X X X<|v_pickT (v := (.bool _)) X X X<|M ?_
   refine zh rfl (fun c34 => ?_) (fun c34 => ?_)
   ·
    refine W.sr<|v_mvB X X<|v_asB X X<|M<|zq<|zc<|za Tryz.results5 ?_
    refine ⟨h29, _, rfl, st31.done, ?_⟩
    refine zj ?_
    first | exact hz.elim | (simp_all; done) | (exfalso; simp_all; done) | (exfalso; omega)
   ·
    cases c34
  ·
   refine Y X X (d := 30) X<|v_mvB X X<|Y X X (d := 30) X<|v_not X X<|v_pickF (v := (.bool _)) X X X<|M ?_
   refine zh rfl (fun c35 => ?_) (fun c35 => ?_)
   ·
    cases c35
   ·
    refine zo<|U<|zl ?_
    obtain ⟨⟨hs1, hs2⟩, hx0⟩ : (smallT t = true ∧ smallX x = true) ∧ checkN t x = 0 := by simpa using g25
    have ht0 := check_text hx0
    have hok := okD_of hx0
    have hpl := places_len ht0
    have hpp := places_pos ht0
    have hdl := lexicon_20 hx0
    have hrl := lexicon_12 hx0
    have hw : wordB word = true := by simpa using g33
    have hbx : checkN t ⟨x.rules, []⟩ = 0 := bare_check hx0
    have hsl := stepsN_len x.rules 4 word
    refine zg<|v_load_call st31.sub (hc5.up (((le10.trans le16).trans le22).trans le30)) X Tryz.isAgg24 Tryz.sizeOf24 X X<|v_load_call st31.sub (hc11.up ((le16.trans le22).trans le30)) X Tryz.isAgg28 Tryz.sizeOf28 X X<|v_mvS X X ?_
    have con := (c_stem_Steps st31.sub (t := t) (t_f0.up ((((le4.trans le10).trans le16).trans le22).trans le30)) (x := x) (x_f0.up ((((le4.trans le10).trans le16).trans le22).trans le30)) (x_f1.up ((((le4.trans le10).trans le16).trans le22).trans le30)) (word := word) zT (K0.up ((((le4.trans le10).trans le16).trans le22).trans le30)))
    rw [stepsR_eq hx0 hw, stepsE_eq hx0 hw] at con
    refine O st31 X X X Tryz.call31 X con ?_
    intro r36 w37 h38 le39 st40 q41
    obtain ⟨v42, rfl, f43⟩ := q41
    have f43_b := f43.le
    clear con
    refine v_mvT X X<|v_extract (v := v42) X X X<|v_extract (v := (.int _ _)) X X X<|v_assign (v := v42) X X<|v_asI X X<|M<|W.sr<|v_load_call st40.sub (hc11.up (((le16.trans le22).trans le30).trans le39)) X Tryz.isAgg28 Tryz.sizeOf28 X X<|zy st40 Tryz.zeroValue28 X X ?_
    intro b44 w45 st46
    refine zp st46 (k := 0) X X X (E x_f0.one (E x_f1.one zJ)) Tryz.sizeOf28 X X X ?_
    intro w47 st48
    refine M<|W.sr<|v_field_addr X Tryz.underlying28 X Tryz.sizeOf26 X X<|OpsL.store1 st48 (k := 0) X X X X Tryz.sizeOf26 X X X ?_
    intro w49 st50
    refine M<|W.sr<|v_load_call st50.sub (hc5.up ((((le10.trans le16).trans le22).trans le30).trans le39)) X Tryz.isAgg24 Tryz.sizeOf24 X X<|v_load_ball (st50.get (k := 0) X) X Tryz.isAgg28 Tryz.sizeOf28 X X<|v_mvS X X ?_
    have con := (c_stem_Steps st50.sub (t := t) (t_f0.up (((((le4.trans le10).trans le16).trans le22).trans le30).trans le39)) (x := (Lexicon.mk x.rules [])) (x_f0.up (((((le4.trans le10).trans le16).trans le22).trans le30).trans le39)) (Sl.nil _ _) (word := word) zT (K0.up (((((le4.trans le10).trans le16).trans le22).trans le30).trans le39)))
    rw [show stepsR t ⟨x.rules, []⟩ word = stepsN x.rules 4 word from stepsR_eq hbx hw, stepsE_eq hbx hw] at con
    refine O st50 X X X Tryz.call31 X con ?_
    intro r51 w52 h53 le54 st55 q56
    obtain ⟨v57, rfl, f58⟩ := q56
    have f58_b := f58.le
    clear con
    refine v_mvT X X<|v_extract (v := v57) X X X<|v_extract (v := (.int _ _)) X X X<|v_assign (v := v57) X X<|v_asI X X<|M<|zl<|W.sr<|v_mvI X X<|v_neq X X X<|v_mvB X X<|Y X X (d := 53) X<|v_mvI X X<|Y X X (d := 53) X<|v_neq X X X<|v_pickF (v := (.bool _)) X X X<|v_mvB X X<|Y X X (d := 57) X<|v_move (v := v42) X X<|Y X X (d := 57) X<|v_move (v := v57) X X<|Y X X (d := 57) X ?_
    have con := (c_postilref01_SameWords st55.sub (f43.up le54) f58)
    rw [show decide ((stepsN x.rules 4 word) = (stepsN x.rules 4 word)) = true from decide_eq_true rfl] at con
    refine O st55 X X X Tryz.call29 X con ?_
    intro r59 w60 h61 le62 st63 q64
    obtain rfl := q64
    clear con
    refine Y X X (d := 57) X<|v_not X X<|v_pickF (v := (.bool _)) X X X<|v_mvB X X<|Y X X (d := 63) X<|v_move (v := v42) X X<|Y X X (d := 63) X<|v_len (f43.up (le54.trans le62)) X Tryz.underlying62 X<|Y X X (d := 63) X<|v_lss X X X<|v_pickF (v := (.bool _)) X X X<|v_mvB X X ?_
    refine zk (d := 68) rfl (fun g65 => ?_) (fun g65 => ?_)
    ·
     replace g65 := of_decide_eq_true g65
     exfalso
     have sure_ : (decide (((stepsN x.rules 4 word).length : Int) < 1)) = false := by exact decide_eq_false (by omega)
     exact of_decide_eq_false sure_ g65
    ·
     replace g65 := of_decide_eq_false g65
     refine Y X X (d := 68) X<|v_move (v := v42) X X<|Y X X (d := 68) X<|v_len (f43.up (le54.trans le62)) X Tryz.underlying62 X<|Y X X (d := 68) X<|v_gtr X X X<|v_pickF (v := (.bool _)) X X X<|v_mvB X X ?_
     refine zk (d := 73) rfl (fun g66 => ?_) (fun g66 => ?_)
     ·
      replace g66 := of_decide_eq_true g66
      exfalso
      have sure_ : (decide (((stepsN x.rules 4 word).length : Int) > 5)) = false := by exact decide_eq_false (by omega)
      exact of_decide_eq_false sure_ g66
     ·
      replace g66 := of_decide_eq_false g66
      refine Y X X (d := 73) X<|v_move (v := v42) X X<|Y X X (d := 73) X ?_
      have hw0 : ∃ y_, ((stepsN x.rules 4 word))[0]? = some y_ := ⟨_, List.getElem?_eq_getElem (by omega)⟩
      obtain ⟨w0, hw0⟩ := hw0
      obtain ⟨b67, o68, _, he70, hc69, hr_w0⟩ := Sl.elem (f43.up (le54.trans le62)) hw0
      obtain ⟨rfl, ls71⟩ := hr_w0
      simp only [big] at ls71
      refine v_index_el he70 X X (hk := X) (hu := Tryz.underlying62) (hz := Tryz.sizeOf9) X<|Y X X (d := 73) X<|v_load_cells1 (j := 0) st63.sub hc69 X X X Tryz.isAgg9 X<|Y X X (d := 73) X<|v_mvS X X<|Y X X (d := 73) X<|ze X X (r_sneq X X)<|v_pickF (v := (.bool _)) X X X<|M ?_
      refine zh rfl (fun c72 => ?_) (fun c72 => ?_)
      ·
       replace c72 := of_decide_eq_true c72
       exfalso
       have sure_ : (decide (w0 ≠ word)) = false := by rw [stepsN_head] at hw0; cases hw0; simp
       exact of_decide_eq_false sure_ c72
      ·
       replace c72 := of_decide_eq_false c72
       refine zo<|U<|zl<|W.sr<|v_move (v := v42) X X<|v_len (f43.up (le54.trans le62)) X Tryz.underlying62 X<|v_mvI X X<|M<|zw ?_
       refine zQ [6, 13, 14, 15, 17, 18, 19, 82, 83, 84, 85, 86, 87, 88, 89, 90, 91, 92, 93, 94, 95, 96, 97, 98, 99, 100, 101, 102, 103, 104, 105, 106, 107, 108, 109, 110, 111, 112, 113, 114, 115, 116, 117, 118, 119, 120, 121, 122, 123, 124, 125, 126, 127, 128, 129, 130, 131, 132] (G := Nat × Heap) (fun ⟨i, h73⟩ => [(82, .int .i64 (i : Int))]) (fun ⟨i, h73⟩ w' => Le h61 h73 ∧ St h w h73 w' [[(b44, .cells (List.toArray [x_v0, (.slice none 0 0)]) 28)]] ∧ (i ≤ (stepsN x.rules 4 word).length)) (fun ⟨i, h73⟩ => (stepsN x.rules 4 word).length - i) ⟨0, h61⟩ ⟨rfl, trivial⟩ ⟨Le.refl _, st63, zZ⟩ ?_
       rintro ⟨i, h73⟩ _ w76 ⟨le74, st75, hi⟩
       refine W.sr<|v_lss X X X<|M<|zl ?_
       refine zh rfl (fun c77 => ?_) (fun c77 => ?_)
       ·
        replace c77 := of_decide_eq_true c77
        refine zo<|U<|zl<|zw<|W.sr<|v_mvI X X ?_
        have hu : ∃ y_, ((stepsN x.rules 4 word))[i]? = some y_ := ⟨_, List.getElem?_eq_getElem (by omega)⟩
        obtain ⟨u, hu⟩ := hu
        obtain ⟨b78, o79, _, he81, hc80, hr_u⟩ := Sl.elem (f43.up ((le54.trans le62).trans le74)) hu
        obtain ⟨rfl, ls82⟩ := hr_u
        simp only [big] at ls82
        refine v_index_el he81 X X (hk := X) (hu := Tryz.underlying62) (hz := Tryz.sizeOf9) X<|v_load_cells1 (j := 0) st75.sub hc80 X X X Tryz.isAgg9 X<|v_asI X X<|v_asS X X<|M<|W.sr<|v_asS X X<|M<|zl<|W.sr<|v_field_addr X Tryz.underlying28 X Tryz.sizeOf25 X X<|v_load_cells1 (j := 0) st75.sub (hc11.up ((((((le16.trans le22).trans le30).trans le39).trans le54).trans le62).trans le74)) X X X Tryz.isAgg25 X<|v_len (x_f0.up ((((((((le4.trans le10).trans le16).trans le22).trans le30).trans le39).trans le54).trans le62).trans le74)) X Tryz.underlying25 X<|v_mvI X X<|M<|zw ?_
        refine zQ [15, 17, 18, 19, 90, 91, 92, 93, 94, 95, 96, 97, 98, 99, 100, 101, 102] (G := Nat × Heap) (fun ⟨k, h83⟩ => [(15, strV []), (90, .int .i64 (k : Int))]) (fun ⟨k, h83⟩ w' => Le h73 h83 ∧ St h w h83 w' [[(b44, .cells (List.toArray [x_v0, (.slice none 0 0)]) 28)]] ∧ (k ≤ x.rules.length) ∧ (∀ r ∈ x.rules.take k, made r u = none)) (fun ⟨k, h83⟩ => x.rules.length - k) ⟨0, h73⟩ ⟨rfl, rfl, trivial⟩ ⟨Le.refl _, st75, zZ, zZ⟩ ?_
        rintro ⟨k, h83⟩ _ w86 ⟨le84, st85, hk, hm⟩
        refine W.sr<|v_lss X X X<|M<|zl ?_
        refine zh rfl (fun c87 => ?_) (fun c87 => ?_)
        ·
         replace c87 := of_decide_eq_true c87
         refine zo<|U<|zl<|zw<|W.sr ?_
         have hr : ∃ y_, (x.rules)[k]? = some y_ := ⟨_, List.getElem?_eq_getElem (by omega)⟩
         obtain ⟨r, hr⟩ := hr
         obtain ⟨b88, o89, _, he91, hc90, hr_r⟩ := Sl.elem (x_f0.up (((((((((le4.trans le10).trans le16).trans le22).trans le30).trans le39).trans le54).trans le62).trans le74).trans le84)) hr
         obtain ⟨rfl, ls92, ls93⟩ := hr_r
         simp only [big] at ls92
         simp only [big] at ls93
         refine v_index_el he91 X X (hk := X) (hu := Tryz.underlying25) (hz := Tryz.sizeOf70) X<|v_load_call st85.sub hc90 X Tryz.isAgg70 Tryz.sizeOf70 X X<|zy st85 Tryz.zeroValue70 X X ?_
         intro b94 w95 st96
         refine zp st96 (k := 1) X X X (E X (E X (E X zJ))) Tryz.sizeOf70 X X X ?_
         intro w97 st98
         obtain ⟨h99, le100, hb101, st103⟩ := st98.freeze (k := 1) rfl
         have hc102 := Cells.of hb101
         refine M<|W.sr<|v_load_call st103.sub hc102 X Tryz.isAgg70 Tryz.sizeOf70 X X<|v_mvS X X ?_
         refine O st103 rfl rfl rfl Tryz.call32 rfl (c_postilref04_Made st103.sub (r := r) zT zT _ zT (by have q := lexicon_rs hx0 r (List.mem_of_getElem? hr); simp only [ruleB, inB, Bool.and_eq_true, decide_eq_true_eq] at q; omega)) ?_
         intro r104 w105 h106 le107 st108 q109
         obtain rfl := q109
         refine v_mvT X X<|v_extract (v := (strV _)) X X X<|v_extract (v := (.bool _)) X X X<|v_asS X X<|v_asB X X<|M<|W.sr<|v_mvB X X<|M ?_
         refine zh rfl (fun c110 => ?_) (fun c110 => ?_)
         ·
          refine W.sr<|v_mvS X X<|v_asS X X<|M<|zS<|Blk.miss X<|zi<|zi<|zM<|U<|zw<|W.sr<|v_mvS X X<|O st108 X X X Tryz.call30 X (c_postilref01_Word st108.sub _ zT) ?_
          intro r111 w112 h113 le114 st115 q116
          obtain rfl := q116
          refine v_not X X<|v_asB X X<|M ?_
          refine zh rfl (fun c117 => ?_) (fun c117 => ?_)
          ·
           exfalso
           have sure_ : ((!(wordB (u)))) = false := by rw [stepsN_word (lexicon_rs hx0) 4 word hw u (List.mem_of_getElem? hu)]; rfl
           exact absurd (c117.symm.trans sure_) (by decide)
          ·
           refine W.sr<|v_mvI X X<|v_add X X t_om X<|v_move (v := v42) X X<|v_len (f43.up ((((((le54.trans le62).trans le74).trans le84).trans le100).trans le107).trans le114)) X Tryz.underlying62 X<|v_lss X X X<|v_asB X X<|M ?_
           refine zh rfl (fun c118 => ?_) (fun c118 => ?_)
           ·
            replace c118 := of_decide_eq_true c118
            refine zl ?_
            obtain ⟨nw, hnw⟩ : ∃ y, ((stepsN x.rules 4 word))[(i + 1)]? = some y := ⟨_, List.getElem?_eq_getElem (by omega)⟩
            refine zg ?_
            have hso := stepsN_next hu hnw
            have hnwd := stepsN_word (lexicon_rs hx0) 4 word hw nw (List.mem_of_getElem? hnw)
            have hnwl : nw ≠ [] := by rintro rfl; exact absurd hnwd (by decide)
            first | have hz : False := (by have q := stepOf_no (show ∀ r ∈ x.rules, made r u = none by rw [← List.take_of_length_le (show x.rules.length ≤ k by omega)]; exact hm); rw [q] at hso; cases hso) | have hz : (made r u).getD [] = nw := (Option.some.inj ((stepOf_take hm hr (made_some (by assumption))).symm.trans hso))
            refine v_mvS X X<|v_seql X X X<|v_mvB X X ?_
            refine zk (d := 115) rfl (fun g119 => ?_) (fun g119 => ?_)
            ·
             replace g119 := of_decide_eq_true g119
             refine Z X X X X X<|Z X X X X X<|Z X X X X X<|Z X X X X X<|Z X X X X X<|Z X X X X X<|Z X X X X X<|v_pickT (v := (.bool _)) X X X<|M ?_
             refine zh rfl (fun c120 => ?_) (fun c120 => ?_)
             ·
              refine W.sr<|v_asB X X<|M<|zq<|zz<|zz<|zc<|zc<|zz<|zc<|za Tryz.results5 ?_
              refine ⟨h113, _, rfl, st115.done, ?_⟩
              refine zj ?_
              first | exact hz.elim | (simp_all; done) | (exfalso; simp_all; done) | (exfalso; omega)
             ·
              cases c120
            ·
             replace g119 := of_decide_eq_false g119
             refine Y X X (d := 115) X<|v_move (v := v42) X X<|Y X X (d := 115) X<|v_mvI X X<|Y X X (d := 115) X<|v_add X X t_om X<|Y X X (d := 115) X ?_
             obtain ⟨b121, o122, _, he124, hc123, hr_nw⟩ := Sl.elem (f43.up ((((((le54.trans le62).trans le74).trans le84).trans le100).trans le107).trans le114)) hnw
             obtain ⟨rfl, ls125⟩ := hr_nw
             simp only [big] at ls125
             refine ze rfl rfl (zR he124 rfl rfl (hk := (show _ = (((i + 1) : Nat) : Int) by omega)) (hu := Tryz.underlying62) (hz := Tryz.sizeOf9)) ?_
             refine Y X X (d := 115) X<|v_load_cells1 (j := 0) st115.sub hc123 X X X Tryz.isAgg9 X<|Y X X (d := 115) X<|v_mvS X X<|Y X X (d := 115) X<|ze X X (r_sneq X X)<|v_pickF (v := (.bool _)) X X X<|M ?_
             refine zh rfl (fun c126 => ?_) (fun c126 => ?_)
             ·
              replace c126 := of_decide_eq_true c126
              refine W.sr<|v_asB X X<|M<|zq<|zz<|zz<|zc<|zc<|zz<|zc<|za Tryz.results5 ?_
              refine ⟨h113, _, rfl, st115.done, ?_⟩
              refine zj ?_
              first | exact hz.elim | (simp_all; done) | (exfalso; simp_all; done) | (exfalso; omega)
             ·
              replace c126 := of_decide_eq_false c126
              refine zo<|zt<|zt<|U<|zg<|v_add X X t_om X<|v_mvI X X<|M ?_
              refine ⟨⟨i + 1, h113⟩, ⟨rfl, trivial⟩, ?_, ⟨((((le74.trans le84).trans le100).trans le107).trans le114), st115.take 1, ?_⟩, ?_⟩
              ·exact zU
              ·first | omega | (simp; omega)
              ·show (stepsN x.rules 4 word).length - ((i + 1)) < (stepsN x.rules 4 word).length - i
               omega
           ·
            replace c118 := of_decide_eq_false c118
            refine W.sr ?_
            first | have hz : (stepsN x.rules 4 word).length = 5 := stepsN_last hu (by omega) (stepOf_take hm hr (made_some (by assumption))) | have hz : True := trivial
            refine v_mvS X X<|ze X X (r_sneq X X)<|v_mvB X X ?_
            refine zk (d := 127) rfl (fun g127 => ?_) (fun g127 => ?_)
            ·
             replace g127 := of_decide_eq_true g127
             refine Y X X (d := 127) X<|v_move (v := v42) X X<|Y X X (d := 127) X<|v_len (f43.up ((((((le54.trans le62).trans le74).trans le84).trans le100).trans le107).trans le114)) X Tryz.underlying62 X<|Y X X (d := 127) X<|v_neq X X X<|v_pickT (v := (.bool _)) X X X<|v_asB X X<|M ?_
             refine zh rfl (fun c128 => ?_) (fun c128 => ?_)
             ·
              replace c128 := of_decide_eq_true c128
              refine W.sr<|v_asB X X<|M<|zq<|zz<|zz<|zc<|zc<|zz<|zc<|za Tryz.results5 ?_
              refine ⟨h113, _, rfl, st115.done, ?_⟩
              refine zj ?_
              first | exact hz.elim | (simp_all; done) | (exfalso; simp_all; done) | (exfalso; omega)
             ·
              replace c128 := of_decide_eq_false c128
              refine zo<|zt<|zt<|U<|zg<|v_add X X t_om X<|v_mvI X X<|M ?_
              refine ⟨⟨i + 1, h113⟩, ⟨rfl, trivial⟩, ?_, ⟨((((le74.trans le84).trans le100).trans le107).trans le114), st115.take 1, ?_⟩, ?_⟩
              ·exact zU
              ·first | omega | (simp; omega)
              ·show (stepsN x.rules 4 word).length - ((i + 1)) < (stepsN x.rules 4 word).length - i
               omega
            ·
             replace g127 := of_decide_eq_false g127
             refine Z X X X X X<|Z X X X X X<|Z X X X X X<|v_pickF (v := (.bool _)) X X X<|v_asB X X<|M ?_
             refine zh rfl (fun c129 => ?_) (fun c129 => ?_)
             ·
              cases c129
             ·
              refine zo<|zt<|zt<|U<|zg<|v_add X X t_om X<|v_mvI X X<|M ?_
              refine ⟨⟨i + 1, h113⟩, ⟨rfl, trivial⟩, ?_, ⟨((((le74.trans le84).trans le100).trans le107).trans le114), st115.take 1, ?_⟩, ?_⟩
              ·exact zU
              ·first | omega | (simp; omega)
              ·show (stepsN x.rules 4 word).length - ((i + 1)) < (stepsN x.rules 4 word).length - i
               omega
         ·
          refine zo<|zt<|U<|zg<|v_add X X t_om X<|v_mvI X X<|M ?_
          refine ⟨⟨k + 1, h106⟩, ⟨rfl, rfl, trivial⟩, ?_, ⟨((le84.trans le100).trans le107), st108.take 1, ?_, ?_⟩, ?_⟩
          ·exact zU
          ·first | omega | (simp; omega)
          ·exact all_snoc hm hr (made_none (by assumption))
          ·show x.rules.length - ((k + 1)) < x.rules.length - k
           omega
        ·
         replace c87 := of_decide_eq_false c87
         refine zS<|zi<|zi<|zM<|U<|zw<|W.sr<|v_mvS X X<|O st85 X X X Tryz.call30 X (c_postilref01_Word st85.sub _ zT) ?_
         intro r130 w131 h132 le133 st134 q135
         obtain rfl := q135
         refine v_not X X<|v_asB X X<|M ?_
         refine zh rfl (fun c136 => ?_) (fun c136 => ?_)
         ·
          exfalso
          have sure_ : ((!(wordB (u)))) = false := by rw [stepsN_word (lexicon_rs hx0) 4 word hw u (List.mem_of_getElem? hu)]; rfl
          exact absurd (c136.symm.trans sure_) (by decide)
         ·
          refine W.sr<|v_mvI X X<|v_add X X t_om X<|v_move (v := v42) X X<|v_len (f43.up ((((le54.trans le62).trans le74).trans le84).trans le133)) X Tryz.underlying62 X<|v_lss X X X<|v_asB X X<|M ?_
          refine zh rfl (fun c137 => ?_) (fun c137 => ?_)
          ·
           replace c137 := of_decide_eq_true c137
           refine zl ?_
           obtain ⟨nw, hnw⟩ : ∃ y, ((stepsN x.rules 4 word))[(i + 1)]? = some y := ⟨_, List.getElem?_eq_getElem (by omega)⟩
           refine zg ?_
           have hso := stepsN_next hu hnw
           have hnwd := stepsN_word (lexicon_rs hx0) 4 word hw nw (List.mem_of_getElem? hnw)
           have hnwl : nw ≠ [] := by rintro rfl; exact absurd hnwd (by decide)
           first | have hz : False := (by have q := stepOf_no (show ∀ r ∈ x.rules, made r u = none by rw [← List.take_of_length_le (show x.rules.length ≤ k by omega)]; exact hm); rw [q] at hso; cases hso) | have hz : (made r u).getD [] = nw := (Option.some.inj ((stepOf_take hm hr (made_some (by assumption))).symm.trans hso))
           refine v_mvS X X<|v_seql X X X<|v_mvB X X ?_
           refine zk (d := 115) rfl (fun g138 => ?_) (fun g138 => ?_)
           ·
            replace g138 := of_decide_eq_true g138
            refine Z X X X X X<|Z X X X X X<|Z X X X X X<|Z X X X X X<|Z X X X X X<|Z X X X X X<|Z X X X X X<|v_pickT (v := (.bool _)) X X X<|M ?_
            refine zh rfl (fun c139 => ?_) (fun c139 => ?_)
            ·
             refine W.sr<|v_asB X X<|M<|zq<|zz<|zz<|zc<|zc<|zz<|zc<|za Tryz.results5 ?_
             refine ⟨h132, _, rfl, st134.done, ?_⟩
             refine zj ?_
             first | exact hz.elim | (simp_all; done) | (exfalso; simp_all; done) | (exfalso; omega)
            ·
             cases c139
           ·
            replace g138 := of_decide_eq_false g138
            refine Y X X (d := 115) X<|v_move (v := v42) X X<|Y X X (d := 115) X<|v_mvI X X<|Y X X (d := 115) X<|v_add X X t_om X<|Y X X (d := 115) X ?_
            obtain ⟨b140, o141, _, he143, hc142, hr_nw⟩ := Sl.elem (f43.up ((((le54.trans le62).trans le74).trans le84).trans le133)) hnw
            obtain ⟨rfl, ls144⟩ := hr_nw
            simp only [big] at ls144
            refine ze rfl rfl (zR he143 rfl rfl (hk := (show _ = (((i + 1) : Nat) : Int) by omega)) (hu := Tryz.underlying62) (hz := Tryz.sizeOf9)) ?_
            refine Y X X (d := 115) X<|v_load_cells1 (j := 0) st134.sub hc142 X X X Tryz.isAgg9 X<|Y X X (d := 115) X<|v_mvS X X<|Y X X (d := 115) X<|ze X X (r_sneq X X)<|v_pickF (v := (.bool _)) X X X<|M ?_
            refine zh rfl (fun c145 => ?_) (fun c145 => ?_)
            ·
             replace c145 := of_decide_eq_true c145
             refine W.sr<|v_asB X X<|M<|zq<|zz<|zz<|zc<|zc<|zz<|zc<|za Tryz.results5 ?_
             refine ⟨h132, _, rfl, st134.done, ?_⟩
             refine zj ?_
             first | exact hz.elim | (simp_all; done) | (exfalso; simp_all; done) | (exfalso; omega)
            ·
             replace c145 := of_decide_eq_false c145
             refine zo<|zt<|zt<|U<|zg<|v_add X X t_om X<|v_mvI X X<|M ?_
             refine ⟨⟨i + 1, h132⟩, ⟨rfl, trivial⟩, ?_, ⟨((le74.trans le84).trans le133), st134, ?_⟩, ?_⟩
             ·exact zU
             ·first | omega | (simp; omega)
             ·show (stepsN x.rules 4 word).length - ((i + 1)) < (stepsN x.rules 4 word).length - i
              omega
          ·
           replace c137 := of_decide_eq_false c137
           refine W.sr ?_
           first | have hz : (stepsN x.rules 4 word).length = 5 := stepsN_last hu (by omega) (stepOf_take hm hr (made_some (by assumption))) | have hz : True := trivial
           refine v_mvS X X<|ze X X (r_sneq X X)<|v_mvB X X ?_
           refine zk (d := 127) rfl (fun g146 => ?_) (fun g146 => ?_)
           ·
            replace g146 := of_decide_eq_true g146
            refine Y X X (d := 127) X<|v_move (v := v42) X X<|Y X X (d := 127) X<|v_len (f43.up ((((le54.trans le62).trans le74).trans le84).trans le133)) X Tryz.underlying62 X<|Y X X (d := 127) X<|v_neq X X X<|v_pickT (v := (.bool _)) X X X<|v_asB X X<|M ?_
            refine zh rfl (fun c147 => ?_) (fun c147 => ?_)
            ·
             replace c147 := of_decide_eq_true c147
             refine W.sr<|v_asB X X<|M<|zq<|zz<|zz<|zc<|zc<|zz<|zc<|za Tryz.results5 ?_
             refine ⟨h132, _, rfl, st134.done, ?_⟩
             refine zj ?_
             first | exact hz.elim | (simp_all; done) | (exfalso; simp_all; done) | (exfalso; omega)
            ·
             replace c147 := of_decide_eq_false c147
             refine zo<|zt<|zt<|U<|zg<|v_add X X t_om X<|v_mvI X X<|M ?_
             refine ⟨⟨i + 1, h132⟩, ⟨rfl, trivial⟩, ?_, ⟨((le74.trans le84).trans le133), st134, ?_⟩, ?_⟩
             ·exact zU
             ·first | omega | (simp; omega)
             ·show (stepsN x.rules 4 word).length - ((i + 1)) < (stepsN x.rules 4 word).length - i
              omega
           ·
            replace g146 := of_decide_eq_false g146
            refine Z X X X X X<|Z X X X X X<|Z X X X X X<|v_pickF (v := (.bool _)) X X X<|v_asB X X<|M ?_
            refine zh rfl (fun c148 => ?_) (fun c148 => ?_)
            ·
             cases c148
            ·
             refine zo<|zt<|zt<|U<|zg<|v_add X X t_om X<|v_mvI X X<|M ?_
             refine ⟨⟨i + 1, h132⟩, ⟨rfl, trivial⟩, ?_, ⟨((le74.trans le84).trans le133), st134, ?_⟩, ?_⟩
             ·exact zU
             ·first | omega | (simp; omega)
             ·show (stepsN x.rules 4 word).length - ((i + 1)) < (stepsN x.rules 4 word).length - i
              omega
       ·
        replace c77 := of_decide_eq_false c77
        refine zS<|zi<|zi<|zM<|U<|W.sr<|v_mvB X X<|v_asB X X<|M<|zq<|za Tryz.results5 ?_
        refine ⟨h73, _, rfl, st75.done, ?_⟩
        refine zj ?_
        first | exact hz.elim | (simp_all; done) | (exfalso; simp_all; done) | (exfalso; omega)
end Go.Pk
