/- A PART OF THE PROOF: contracts of functions, each walked once (much of it printed by a program of the author's own). -/
import Derived.Test.YtfgkfdglomngiaaGreatDoorT10
import Derived.Test.YtfgkfdglomngiaaGreatDoorT3
set_option linter.unusedSimpArgs false
set_option linter.unusedVariables false
namespace Go.Pk
open Go Go.RowKit Go.Proofs
set_option maxRecDepth 4000 in
theorem c_postillaw04_lexicon_own {h : Heap} {w : World} (hs : Sub h w) {more_v : Value} {more : (List Decision)} (more_f : Sl LDecision h more_v more) (hl : more.length ≤ 1000) : Calls Tryz.prog 40 #[more_v] w (fun e_ w' => ∃ h' v0_ v1_ o0_ o1_, e_ = .returned (.agg #[v0_, v1_]) ∧ Le h h' ∧ St h w h' w' [o0_, o1_] ∧ OSl LRule 70 h' v0_ (((lexE more)).rules) o0_ ∧ OSl LDecision 34 h' v1_ (((lexE more)).decisions) o1_) := by
 refine zB (n := 18) (args := [more_v]) Tryz.func40 X X X ?_
 have st0 : St h w h w [] := St.start hs
 have more_f_b := more_f.le
 refine W.sr<|zy st0 Tryz.zeroValue28 X X ?_
 intro b1 w2 st3
 refine M<|W.sr<|ze X X (zX (cs := [strV ([115] : Str), strV [], .int .i64 2]) t_kr)<|ze X X (zX (cs := [strV ([108, 100] : Str), strV ([108, 100, 101] : Str), .int .i64 1]) t_kr) ?_
 refine OpsL.sliceO (L := LRule) (xs := [({ zRule with cut := ([115] : Str), least := 2 } : Rule), (Rule.mk (([108, 100] : Str)) (([108, 100, 101] : Str)) (1))]) (cs := [strV ([115] : Str), strV [], .int .i64 2, strV ([108, 100] : Str), strV ([108, 100, 101] : Str), .int .i64 1]) st3 (Enc.cons (L := LRule) (vs := [strV ([115] : Str), strV [], .int .i64 2]) (x := ({ zRule with cut := ([115] : Str), least := 2 } : Rule)) (h := h) (⟨rfl, by first | assumption | decide | omega | (simp [big]; done) | (simp [big]; omega), by first | assumption | decide | omega | (simp [big]; done) | (simp [big]; omega)⟩) (Enc.cons (L := LRule) (vs := [strV ([108, 100] : Str), strV ([108, 100, 101] : Str), .int .i64 1]) (x := (Rule.mk (([108, 100] : Str)) (([108, 100, 101] : Str)) (1))) (h := h) (⟨rfl, by first | assumption | decide | omega | (simp [big]; done) | (simp [big]; omega), by first | assumption | decide | omega | (simp [big]; done) | (simp [big]; omega)⟩) Enc.nil)) rfl rfl rfl Tryz.underlying25 Tryz.info70 rfl rfl rfl rfl t_kr ?_
 intro v4 o8 w5 f6 st7
 refine O st7 rfl rfl rfl Tryz.call34 rfl (zH st7.sub _ (by first | assumption | decide | omega | (simp [big]; done) | (simp [big]; omega)) _ (by omega)) ?_
 intro r9 w10 h11 le12 st13 q14
 obtain rfl := q14
 refine ze X X (zX (cs := [.int .i64 1, .int .u8 1, strV wSea, .int .i64 0, .int .i64 0, .int .i64 0, strV ((Head.mk (wSea) (1)).stem), .int .u8 ((Head.mk (wSea) (1)).mark), .int .i64 0]) t_kr)<|O st13 X X X Tryz.call41 X (zV st13.sub _ _ _) ?_
 intro r15 w16 h17 le18 st19 q20
 obtain rfl := q20
 refine O st19 rfl rfl rfl Tryz.call34 rfl (zH st19.sub _ (by first | assumption | decide | omega | (simp [big]; done) | (simp [big]; omega)) _ (by omega)) ?_
 intro r21 w22 h23 le24 st25 q26
 obtain rfl := q26
 refine ze X X (zX (cs := [.int .i64 2, .int .u8 2, strV wOld, .int .i64 ((Place.mk (0) (1) (0)).chapter), .int .i64 ((Place.mk (0) (1) (0)).line), .int .i64 ((Place.mk (0) (1) (0)).word), strV ((Head.mk (wAge) (3)).stem), .int .u8 ((Head.mk (wAge) (3)).mark), .int .i64 0]) t_kr)<|O st25 X X X Tryz.call41 X (zV st25.sub _ _ _) ?_
 intro r27 w28 h29 le30 st31 q32
 obtain rfl := q32
 refine O st31 rfl rfl rfl Tryz.call34 rfl (zH st31.sub _ (by first | assumption | decide | omega | (simp [big]; done) | (simp [big]; omega)) _ (by omega)) ?_
 intro r33 w34 h35 le36 st37 q38
 obtain rfl := q38
 refine ze X X (zX (cs := [.int .i64 3, .int .u8 3, strV [], .int .i64 ((Place.mk (1) (0) (2)).chapter), .int .i64 ((Place.mk (1) (0) (2)).line), .int .i64 ((Place.mk (1) (0) (2)).word), strV ((Head.mk (wSee) (2)).stem), .int .u8 ((Head.mk (wSee) (2)).mark), .int .i64 0]) t_kr) ?_
 refine OpsL.sliceO (L := LDecision) (xs := [({ zDecision with number := 1, kind := 1, form := wSea, to := (Head.mk (wSea) (1)) } : Decision), ({ zDecision with number := 2, kind := 2, form := wOld, at_ := (Place.mk (0) (1) (0)), to := (Head.mk (wAge) (3)) } : Decision), ({ zDecision with number := 3, kind := 3, at_ := (Place.mk (1) (0) (2)), to := (Head.mk (wSee) (2)) } : Decision)]) (cs := [.int .i64 1, .int .u8 1, strV wSea, .int .i64 0, .int .i64 0, .int .i64 0, strV ((Head.mk (wSea) (1)).stem), .int .u8 ((Head.mk (wSea) (1)).mark), .int .i64 0, .int .i64 2, .int .u8 2, strV wOld, .int .i64 ((Place.mk (0) (1) (0)).chapter), .int .i64 ((Place.mk (0) (1) (0)).line), .int .i64 ((Place.mk (0) (1) (0)).word), strV ((Head.mk (wAge) (3)).stem), .int .u8 ((Head.mk (wAge) (3)).mark), .int .i64 0, .int .i64 3, .int .u8 3, strV [], .int .i64 ((Place.mk (1) (0) (2)).chapter), .int .i64 ((Place.mk (1) (0) (2)).line), .int .i64 ((Place.mk (1) (0) (2)).word), strV ((Head.mk (wSee) (2)).stem), .int .u8 ((Head.mk (wSee) (2)).mark), .int .i64 0]) st37 (Enc.cons (L := LDecision) (vs := [.int .i64 1, .int .u8 1, strV wSea, .int .i64 0, .int .i64 0, .int .i64 0, strV ((Head.mk (wSea) (1)).stem), .int .u8 ((Head.mk (wSea) (1)).mark), .int .i64 0]) (x := ({ zDecision with number := 1, kind := 1, form := wSea, to := (Head.mk (wSea) (1)) } : Decision)) (h := h35) (⟨rfl, t_u8, by first | assumption | decide | omega | (simp [big]; done) | (simp [big]; omega), by first | assumption | decide | omega | (simp [big]; done) | (simp [big]; omega), t_u8⟩) (Enc.cons (L := LDecision) (vs := [.int .i64 2, .int .u8 2, strV wOld, .int .i64 ((Place.mk (0) (1) (0)).chapter), .int .i64 ((Place.mk (0) (1) (0)).line), .int .i64 ((Place.mk (0) (1) (0)).word), strV ((Head.mk (wAge) (3)).stem), .int .u8 ((Head.mk (wAge) (3)).mark), .int .i64 0]) (x := ({ zDecision with number := 2, kind := 2, form := wOld, at_ := (Place.mk (0) (1) (0)), to := (Head.mk (wAge) (3)) } : Decision)) (h := h35) (⟨rfl, t_u8, by first | assumption | decide | omega | (simp [big]; done) | (simp [big]; omega), by first | assumption | decide | omega | (simp [big]; done) | (simp [big]; omega), t_u8⟩) (Enc.cons (L := LDecision) (vs := [.int .i64 3, .int .u8 3, strV [], .int .i64 ((Place.mk (1) (0) (2)).chapter), .int .i64 ((Place.mk (1) (0) (2)).line), .int .i64 ((Place.mk (1) (0) (2)).word), strV ((Head.mk (wSee) (2)).stem), .int .u8 ((Head.mk (wSee) (2)).mark), .int .i64 0]) (x := ({ zDecision with number := 3, kind := 3, at_ := (Place.mk (1) (0) (2)), to := (Head.mk (wSee) (2)) } : Decision)) (h := h35) (⟨rfl, t_u8, by first | assumption | decide | omega | (simp [big]; done) | (simp [big]; omega), by first | assumption | decide | omega | (simp [big]; done) | (simp [big]; omega), t_u8⟩) Enc.nil))) rfl rfl rfl Tryz.underlying26 Tryz.info34 rfl rfl rfl rfl t_kr ?_
 intro v39 o43 w40 f41 st42
 refine v_move (v := more_v) X X ?_
 refine zab (k := 2) (nb := 88) st42 f41 rfl (more_f.up ((((le12.trans le18).trans le24).trans le30).trans le36)) rfl rfl rfl Tryz.underlying26 Tryz.info34 rfl rfl rfl (by decide) rfl (by simp only [List.length_append, List.length_cons, List.length_nil]; omega) (by simp only [List.length_append, List.length_cons, List.length_nil]; omega) ?_
 intro v44 o45 w46 _ e47 f48 st49
 subst e47
 refine ze rfl rfl (zX (cs := [v4, v44]) (by obtain ⟨_, _, rfl⟩ := OSl.form f6; obtain ⟨_, _, rfl⟩ := OSl.form f48; kernel_rfl)) ?_
 refine zp st49 (k := 0) X X X (E f6.one (E f48.one zJ)) Tryz.sizeOf28 X X X ?_
 intro w50 st51
 obtain ⟨h52, le53, hb54, st56⟩ := st51.freeze (k := 0) rfl
 have hc55 := Cells.of hb54
 refine M<|zq<|Post.retcellF Tryz.results40 X Tryz.isAgg28 Tryz.sizeOf28 X st56.sub hc55 ?_
 refine ⟨h52, v4, v44, _, _, congrArg Ending.returned (rfl), (((((le12.trans le18).trans le24).trans le30).trans le36).trans le53), st56.sublist (own' := [o8, o45]) (.cons _ (.cons_cons _ (.cons_cons _ (.slnil)))), OSl.to (f6.up (((((le12.trans le18).trans le24).trans le30).trans le36).trans le53)) ?_, OSl.to (f48.up le53) ?_⟩
 all_goals rfl
set_option maxRecDepth 4000 in
set_option maxHeartbeats 4000000 in
theorem c_postillaw04_StemExamples {h : Heap} {w : World} (hs : Sub h w) (K0 : Cells h 0 0 Tryz.glob0) : Calls Tryz.prog 9 #[] w (Rets h w (fun _ _ res_ => res_ = .bool (true))) := by
 refine zB (n := 198) (args := []) Tryz.func9 X X X ?_
 have st0 : St h w h w [] := St.start hs
 refine W.sr<|v_asB X X<|M<|zl<|W.sr<|v_mvB X X<|Y X X (d := 17) X<|O st0 X X X Tryz.call13 X (c_postillaw04_alive st0.sub K0) ?_
 intro r1 w2 h3 le4 st5 q6
 obtain rfl := q6
 refine Y X X (d := 17) X<|v_not X X<|v_pickF (v := (.bool _)) X X X<|v_mvB X X<|Y X X (d := 21) X ?_
 refine zG (L := LStr) (xs := [([115, 101, 97, 115] : Str), wSea]) (cs := [strV ([115, 101, 97, 115] : Str), strV wSea]) st5 (Enc.cons (L := LStr) (vs := [strV ([115, 101, 97, 115] : Str)]) (x := ([115, 101, 97, 115] : Str)) (h := h3) (⟨rfl, by first | assumption | decide | omega | (simp [big]; done) | (simp [big]; omega)⟩) (Enc.cons (L := LStr) (vs := [strV wSea]) (x := wSea) (h := h3) (⟨rfl, by first | assumption | decide | omega | (simp [big]; done) | (simp [big]; omega)⟩) Enc.nil)) rfl rfl rfl Tryz.underlying62 Tryz.info9 rfl rfl rfl t_kr ?_
 intro v7 w8 h11 le12 f9 st10
 refine Y X X (d := 21) X ?_
 refine O st10 rfl rfl rfl Tryz.call38 rfl (c_postillaw04_steps st10.sub _ (by first | assumption | decide | omega | (simp [big]; done) | (simp [big]; omega)) f9 (K0.up (le4.trans le12))) ?_
 intro r13 w14 h15 le16 st17 q18
 obtain rfl := q18
 refine Y X X (d := 21) X<|v_not X X<|v_pickF (v := (.bool _)) X X X<|v_mvB X X ?_
 refine zk (d := 26) rfl (fun g19 => ?_) (fun g19 => ?_)
 ·
  exfalso
  have sure_ : ((!((decide (stepsE textE (lexE []) (([115, 101, 97, 115] : Str)) = 0) && decide (stepsR textE (lexE []) (([115, 101, 97, 115] : Str)) = ([([115, 101, 97, 115] : Str), wSea])))))) = false := by decide +kernel
  exact absurd (g19.symm.trans sure_) (by decide)
 ·
  refine Y X X (d := 26) X ?_
  refine zG (L := LStr) (xs := [wIs]) (cs := [strV wIs]) st17 (Enc.cons (L := LStr) (vs := [strV wIs]) (x := wIs) (h := h15) (⟨rfl, by first | assumption | decide | omega | (simp [big]; done) | (simp [big]; omega)⟩) Enc.nil) rfl rfl rfl Tryz.underlying62 Tryz.info9 rfl rfl rfl t_kr ?_
  intro v20 w21 h24 le25 f22 st23
  refine Y X X (d := 26) X ?_
  refine O st23 rfl rfl rfl Tryz.call38 rfl (c_postillaw04_steps st23.sub _ (by first | assumption | decide | omega | (simp [big]; done) | (simp [big]; omega)) f22 (K0.up (((le4.trans le12).trans le16).trans le25))) ?_
  intro r26 w27 h28 le29 st30 q31
  obtain rfl := q31
  refine Y X X (d := 26) X<|v_not X X<|v_pickF (v := (.bool _)) X X X<|v_mvB X X ?_
  refine zk (d := 31) rfl (fun g32 => ?_) (fun g32 => ?_)
  ·
   exfalso
   have sure_ : ((!((decide (stepsE textE (lexE []) (wIs) = 0) && decide (stepsR textE (lexE []) (wIs) = ([wIs])))))) = false := by decide +kernel
   exact absurd (g32.symm.trans sure_) (by decide)
  ·
   refine Y X X (d := 31) X ?_
   refine O st30 rfl rfl rfl Tryz.call40 rfl (zF st30.sub (Sl.nil _ _) (by decide)) ?_
   intro r33 w34 h35 le36 st37 q38
   obtain ⟨v39, v41, rfl, f40, f42⟩ := q38
   have f40_b := f40.le
   have f42_b := f42.le
   refine Y X X (d := 31) X<|O st37 X X X Tryz.call41 X (zV st37.sub _ _ _) ?_
   intro r43 w44 h45 le46 st47 q48
   obtain rfl := q48
   refine Y X X (d := 31) X ?_
   refine O st47 rfl rfl rfl Tryz.call34 rfl (zH st47.sub _ (by first | assumption | decide | omega | (simp [big]; done) | (simp [big]; omega)) _ (by omega)) ?_
   intro r49 w50 h51 le52 st53 q54
   obtain rfl := q54
   refine Y X X (d := 31) X ?_
   refine O st53 rfl rfl rfl Tryz.call39 rfl (c_postillaw04_is st53.sub (x := (lexE ([]))) (f40.up (le46.trans le52)) (f42.up (le46.trans le52)) (p := (Place.mk (1) (0) (0))) (hd := (Head.mk (wSea) (1))) (by first | assumption | decide | omega | (simp [big]; done) | (simp [big]; omega)) t_u8 _ (K0.up (((((((le4.trans le12).trans le16).trans le25).trans le29).trans le36).trans le46).trans le52))) ?_
   intro r55 w56 h57 le58 st59 q60
   obtain rfl := q60
   refine Y X X (d := 31) X<|v_not X X<|v_pickF (v := (.bool _)) X X X<|v_mvB X X ?_
   refine zk (d := 38) rfl (fun g61 => ?_) (fun g61 => ?_)
   ·
    exfalso
    have sure_ : ((!((decide (askE textE ((lexE ([]))) ((Place.mk (1) (0) (0))) = 0) && decide ((askR textE ((lexE ([]))) ((Place.mk (1) (0) (0)))).to = ((Head.mk (wSea) (1)))) && decide ((askR textE ((lexE ([]))) ((Place.mk (1) (0) (0)))).number = (1)))))) = false := by simp [ask4.1, ask4.2, d1E]
    exact absurd (g61.symm.trans sure_) (by decide)
   ·
    refine Y X X (d := 38) X<|O st59 X X X Tryz.call42 X (c_postillaw04_five st59.sub ) ?_
    intro r62 w63 h64 le65 st66 q67
    obtain rfl := q67
    refine Y X X (d := 38) X ?_
    refine zG (L := LDecision) (xs := [d5E]) (cs := [.int .i64 (d5E.number), .int .u8 (d5E.kind), strV (d5E.form), .int .i64 (d5E.at_.chapter), .int .i64 (d5E.at_.line), .int .i64 (d5E.at_.word), strV (d5E.to.stem), .int .u8 (d5E.to.mark), .int .i64 (d5E.of_)]) st66 (Enc.cons (L := LDecision) (vs := [.int .i64 (d5E.number), .int .u8 (d5E.kind), strV (d5E.form), .int .i64 (d5E.at_.chapter), .int .i64 (d5E.at_.line), .int .i64 (d5E.at_.word), strV (d5E.to.stem), .int .u8 (d5E.to.mark), .int .i64 (d5E.of_)]) (x := d5E) (h := h64) (⟨rfl, t_u8, by first | assumption | decide | omega | (simp [big]; done) | (simp [big]; omega), by first | assumption | decide | omega | (simp [big]; done) | (simp [big]; omega), t_u8⟩) Enc.nil) rfl rfl rfl Tryz.underlying26 Tryz.info34 rfl rfl rfl t_kr ?_
    intro v68 w69 h72 le73 f70 st71
    refine Y X X (d := 38) X ?_
    refine O st71 rfl rfl rfl Tryz.call40 rfl (zF st71.sub f70 (by decide)) ?_
    intro r74 w75 h76 le77 st78 q79
    obtain ⟨v80, v82, rfl, f81, f83⟩ := q79
    have f81_b := f81.le
    have f83_b := f83.le
    refine Y X X (d := 38) X<|O st78 X X X Tryz.call41 X (zV st78.sub _ _ _) ?_
    intro r84 w85 h86 le87 st88 q89
    obtain rfl := q89
    refine Y X X (d := 38) X ?_
    refine O st88 rfl rfl rfl Tryz.call34 rfl (zH st88.sub _ (by first | assumption | decide | omega | (simp [big]; done) | (simp [big]; omega)) _ (by omega)) ?_
    intro r90 w91 h92 le93 st94 q95
    obtain rfl := q95
    refine Y X X (d := 38) X ?_
    refine O st94 rfl rfl rfl Tryz.call39 rfl (c_postillaw04_is st94.sub (x := (lexE ([d5E]))) (f81.up (le87.trans le93)) (f83.up (le87.trans le93)) (p := (Place.mk (1) (0) (2))) (hd := (Head.mk (wSea) (1))) (by first | assumption | decide | omega | (simp [big]; done) | (simp [big]; omega)) t_u8 _ (K0.up (((((((((((((le4.trans le12).trans le16).trans le25).trans le29).trans le36).trans le46).trans le52).trans le58).trans le65).trans le73).trans le77).trans le87).trans le93))) ?_
    intro r96 w97 h98 le99 st100 q101
    obtain rfl := q101
    refine Y X X (d := 38) X<|v_not X X<|v_pickF (v := (.bool _)) X X X<|M ?_
    refine zh rfl (fun c102 => ?_) (fun c102 => ?_)
    ·
     exfalso
     have sure_ : ((!((decide (askE textE ((lexE ([d5E]))) ((Place.mk (1) (0) (2))) = 0) && decide ((askR textE ((lexE ([d5E]))) ((Place.mk (1) (0) (2)))).to = ((Head.mk (wSea) (1)))) && decide ((askR textE ((lexE ([d5E]))) ((Place.mk (1) (0) (2)))).number = (1)))))) = false := by simp [ask5.1, ask5.2, d1E]
     exact absurd (c102.symm.trans sure_) (by decide)
    ·
     refine zo<|U<|W.sr<|O st100 X X X Tryz.call44 X (zO st100.sub ) ?_
     intro r103 w104 h105 le106 st107 q108
     obtain ⟨v109, rfl, f110⟩ := q108
     have f110_b := f110.le
     refine O st107 rfl rfl rfl Tryz.call40 rfl (zF st107.sub (Sl.nil _ _) (by decide)) ?_
     intro r111 w112 h113 le114 st115 q116
     obtain ⟨v117, v119, rfl, f118, f120⟩ := q116
     have f118_b := f118.le
     have f120_b := f120.le
     refine O st115 X X X Tryz.call43 X (c_stem_Heads st115.sub (t := textE) (f110.up le114) (x := (lexE ([]))) f118 f120 (K0.up ((((((((((((((((le4.trans le12).trans le16).trans le25).trans le29).trans le36).trans le46).trans le52).trans le58).trans le65).trans le73).trans le77).trans le87).trans le93).trans le99).trans le106).trans le114))) ?_
     intro r121 w122 h123 le124 st125 q126
     obtain ⟨v127, rfl, f128⟩ := q126
     have f128_b := f128.le
     refine v_mvT X X<|v_extract (v := v127) X X X<|v_extract (v := (.int _ _)) X X X<|v_assign (v := v127) X X<|v_asI X X<|M<|W.sr<|O st125 X X X Tryz.call44 X (zO st125.sub ) ?_
     intro r129 w130 h131 le132 st133 q134
     obtain ⟨v135, rfl, f136⟩ := q134
     have f136_b := f136.le
     refine O st133 rfl rfl rfl Tryz.call40 rfl (zF st133.sub (Sl.nil _ _) (by decide)) ?_
     intro r137 w138 h139 le140 st141 q142
     obtain ⟨v143, v145, rfl, f144, f146⟩ := q142
     have f144_b := f144.le
     have f146_b := f146.le
     refine O st141 rfl rfl rfl Tryz.call34 rfl (zH st141.sub _ (by first | assumption | decide | omega | (simp [big]; done) | (simp [big]; omega)) _ (by omega)) ?_
     intro r147 w148 h149 le150 st151 q152
     obtain rfl := q152
     refine O st151 rfl rfl rfl Tryz.call45 rfl (c_stem_Forms st151.sub (t := textE) (f136.up (le140.trans le150)) (x := (lexE ([]))) (f144.up le150) (f146.up le150) (hd := (Head.mk (wAge) (3))) (by first | assumption | decide | omega | (simp [big]; done) | (simp [big]; omega)) t_u8 (K0.up ((((((((((((((((((((le4.trans le12).trans le16).trans le25).trans le29).trans le36).trans le46).trans le52).trans le58).trans le65).trans le73).trans le77).trans le87).trans le93).trans le99).trans le106).trans le114).trans le124).trans le132).trans le140).trans le150))) ?_
     intro r153 w154 h155 le156 st157 q158
     obtain ⟨v159, rfl, f160⟩ := q158
     have f160_b := f160.le
     refine v_mvT X X<|v_extract (v := v159) X X X<|v_extract (v := (.int _ _)) X X X<|v_assign (v := v159) X X<|v_asI X X<|M<|W.sr<|O st157 X X X Tryz.call44 X (zO st157.sub ) ?_
     intro r161 w162 h163 le164 st165 q166
     obtain ⟨v167, rfl, f168⟩ := q166
     have f168_b := f168.le
     refine O st165 rfl rfl rfl Tryz.call40 rfl (zF st165.sub (Sl.nil _ _) (by decide)) ?_
     intro r169 w170 h171 le172 st173 q174
     obtain ⟨v175, v177, rfl, f176, f178⟩ := q174
     have f176_b := f176.le
     have f178_b := f178.le
     refine O st173 rfl rfl rfl Tryz.call34 rfl (zH st173.sub _ (by first | assumption | decide | omega | (simp [big]; done) | (simp [big]; omega)) _ (by omega)) ?_
     intro r179 w180 h181 le182 st183 q184
     obtain rfl := q184
     refine O st183 rfl rfl rfl Tryz.call45 rfl (c_stem_Forms st183.sub (t := textE) (f168.up (le172.trans le182)) (x := (lexE ([]))) (f176.up le182) (f178.up le182) (hd := (Head.mk (wSee) (2))) (by first | assumption | decide | omega | (simp [big]; done) | (simp [big]; omega)) t_u8 (K0.up ((((((((((((((((((((((((le4.trans le12).trans le16).trans le25).trans le29).trans le36).trans le46).trans le52).trans le58).trans le65).trans le73).trans le77).trans le87).trans le93).trans le99).trans le106).trans le114).trans le124).trans le132).trans le140).trans le150).trans le156).trans le164).trans le172).trans le182))) ?_
     intro r185 w186 h187 le188 st189 q190
     obtain ⟨v191, rfl, f192⟩ := q190
     have f192_b := f192.le
     refine v_mvT X X<|v_extract (v := v191) X X X<|v_extract (v := (.int _ _)) X X X<|v_assign (v := v191) X X<|v_asI X X<|M<|zl<|W.sr<|v_mvI X X<|v_neq X X X<|v_mvB X X ?_
     refine zk (d := 69) rfl (fun g193 => ?_) (fun g193 => ?_)
     ·
      replace g193 := of_decide_eq_true g193
      exfalso
      have sure_ : (decide ((checkN (textE) ((lexE ([])))) ≠ 0)) = false := by simp [checkE]
      exact of_decide_eq_false sure_ g193
     ·
      replace g193 := of_decide_eq_false g193
      refine Y X X (d := 69) X<|v_move (v := v127) X X<|Y X X (d := 69) X ?_
      refine O st189 rfl rfl rfl Tryz.call34 rfl (zH st189.sub _ (by first | assumption | decide | omega | (simp [big]; done) | (simp [big]; omega)) _ (by omega)) ?_
      intro r194 w195 h196 le197 st198 q199
      obtain rfl := q199
      refine Y X X (d := 69) X ?_
      refine O st198 rfl rfl rfl Tryz.call34 rfl (zH st198.sub _ (by first | assumption | decide | omega | (simp [big]; done) | (simp [big]; omega)) _ (by omega)) ?_
      intro r200 w201 h202 le203 st204 q205
      obtain rfl := q205
      refine Y X X (d := 69) X ?_
      refine O st204 rfl rfl rfl Tryz.call34 rfl (zH st204.sub _ (by first | assumption | decide | omega | (simp [big]; done) | (simp [big]; omega)) _ (by omega)) ?_
      intro r206 w207 h208 le209 st210 q211
      obtain rfl := q211
      refine Y X X (d := 69) X ?_
      refine O st210 rfl rfl rfl Tryz.call34 rfl (zH st210.sub _ (by first | assumption | decide | omega | (simp [big]; done) | (simp [big]; omega)) _ (by omega)) ?_
      intro r212 w213 h214 le215 st216 q217
      obtain rfl := q217
      refine Y X X (d := 69) X ?_
      refine O st216 rfl rfl rfl Tryz.call34 rfl (zH st216.sub _ (by first | assumption | decide | omega | (simp [big]; done) | (simp [big]; omega)) _ (by omega)) ?_
      intro r218 w219 h220 le221 st222 q223
      obtain rfl := q223
      refine Y X X (d := 69) X ?_
      refine O st222 rfl rfl rfl Tryz.call34 rfl (zH st222.sub _ (by first | assumption | decide | omega | (simp [big]; done) | (simp [big]; omega)) _ (by omega)) ?_
      intro r224 w225 h226 le227 st228 q229
      obtain rfl := q229
      refine Y X X (d := 69) X ?_
      refine O st228 rfl rfl rfl Tryz.call34 rfl (zH st228.sub _ (by first | assumption | decide | omega | (simp [big]; done) | (simp [big]; omega)) _ (by omega)) ?_
      intro r230 w231 h232 le233 st234 q235
      obtain rfl := q235
      refine Y X X (d := 69) X ?_
      refine zG (L := LHead) (xs := [(Head.mk (wAge) (3)), (Head.mk (wAnd) (0)), (Head.mk (wIs) (0)), (Head.mk (wOlde) (0)), (Head.mk (wSea) (1)), (Head.mk (wSee) (2)), (Head.mk (wThe) (0))]) (cs := [strV ((Head.mk (wAge) (3)).stem), .int .u8 ((Head.mk (wAge) (3)).mark), strV ((Head.mk (wAnd) (0)).stem), .int .u8 ((Head.mk (wAnd) (0)).mark), strV ((Head.mk (wIs) (0)).stem), .int .u8 ((Head.mk (wIs) (0)).mark), strV ((Head.mk (wOlde) (0)).stem), .int .u8 ((Head.mk (wOlde) (0)).mark), strV ((Head.mk (wSea) (1)).stem), .int .u8 ((Head.mk (wSea) (1)).mark), strV ((Head.mk (wSee) (2)).stem), .int .u8 ((Head.mk (wSee) (2)).mark), strV ((Head.mk (wThe) (0)).stem), .int .u8 ((Head.mk (wThe) (0)).mark)]) st234 (Enc.cons (L := LHead) (vs := [strV ((Head.mk (wAge) (3)).stem), .int .u8 ((Head.mk (wAge) (3)).mark)]) (x := (Head.mk (wAge) (3))) (h := h232) (⟨rfl, by first | assumption | decide | omega | (simp [big]; done) | (simp [big]; omega), t_u8⟩) (Enc.cons (L := LHead) (vs := [strV ((Head.mk (wAnd) (0)).stem), .int .u8 ((Head.mk (wAnd) (0)).mark)]) (x := (Head.mk (wAnd) (0))) (h := h232) (⟨rfl, by first | assumption | decide | omega | (simp [big]; done) | (simp [big]; omega), t_u8⟩) (Enc.cons (L := LHead) (vs := [strV ((Head.mk (wIs) (0)).stem), .int .u8 ((Head.mk (wIs) (0)).mark)]) (x := (Head.mk (wIs) (0))) (h := h232) (⟨rfl, by first | assumption | decide | omega | (simp [big]; done) | (simp [big]; omega), t_u8⟩) (Enc.cons (L := LHead) (vs := [strV ((Head.mk (wOlde) (0)).stem), .int .u8 ((Head.mk (wOlde) (0)).mark)]) (x := (Head.mk (wOlde) (0))) (h := h232) (⟨rfl, by first | assumption | decide | omega | (simp [big]; done) | (simp [big]; omega), t_u8⟩) (Enc.cons (L := LHead) (vs := [strV ((Head.mk (wSea) (1)).stem), .int .u8 ((Head.mk (wSea) (1)).mark)]) (x := (Head.mk (wSea) (1))) (h := h232) (⟨rfl, by first | assumption | decide | omega | (simp [big]; done) | (simp [big]; omega), t_u8⟩) (Enc.cons (L := LHead) (vs := [strV ((Head.mk (wSee) (2)).stem), .int .u8 ((Head.mk (wSee) (2)).mark)]) (x := (Head.mk (wSee) (2))) (h := h232) (⟨rfl, by first | assumption | decide | omega | (simp [big]; done) | (simp [big]; omega), t_u8⟩) (Enc.cons (L := LHead) (vs := [strV ((Head.mk (wThe) (0)).stem), .int .u8 ((Head.mk (wThe) (0)).mark)]) (x := (Head.mk (wThe) (0))) (h := h232) (⟨rfl, by first | assumption | decide | omega | (simp [big]; done) | (simp [big]; omega), t_u8⟩) Enc.nil))))))) rfl rfl rfl Tryz.underlying43 Tryz.info32 rfl rfl rfl t_kr ?_
      intro v236 w237 h240 le241 f238 st239
      refine Y X X (d := 69) X<|O st239 X X X Tryz.call26 X (c_postilref04_SameHeads st239.sub (f128.up (((((((((((((((le132.trans le140).trans le150).trans le156).trans le164).trans le172).trans le182).trans le188).trans le197).trans le203).trans le209).trans le215).trans le221).trans le227).trans le233).trans le241)) f238) ?_
      intro r242 w243 h244 le245 st246 q247
      obtain rfl := q247
      refine Y X X (d := 69) X<|v_not X X<|v_pickF (v := (.bool _)) X X X<|v_mvB X X ?_
      refine zk (d := 82) rfl (fun g248 => ?_) (fun g248 => ?_)
      ·
       exfalso
       have sure_ : ((!(decide (((headsN (textE) ((lexE ([]))))) = ([(Head.mk (wAge) (3)), (Head.mk (wAnd) (0)), (Head.mk (wIs) (0)), (Head.mk (wOlde) (0)), (Head.mk (wSea) (1)), (Head.mk (wSee) (2)), (Head.mk (wThe) (0))]))))) = false := by simp [headsE_all]
       exact absurd (g248.symm.trans sure_) (by decide)
      ·
       refine Y X X (d := 82) X<|v_mvI X X<|Y X X (d := 82) X<|v_neq X X X<|v_pickF (v := (.bool _)) X X X<|v_mvB X X ?_
       refine zk (d := 86) rfl (fun g249 => ?_) (fun g249 => ?_)
       ·
        replace g249 := of_decide_eq_true g249
        exfalso
        have sure_ : (decide ((underE (textE) ((lexE ([]))) ((Head.mk (wAge) (3)))) ≠ 0)) = false := by simp [formsE_age.1]
        exact of_decide_eq_false sure_ g249
       ·
        replace g249 := of_decide_eq_false g249
        refine Y X X (d := 86) X<|v_move (v := v159) X X<|Y X X (d := 86) X ?_
        refine zG (L := LStr) (xs := [wOld]) (cs := [strV wOld]) st246 (Enc.cons (L := LStr) (vs := [strV wOld]) (x := wOld) (h := h244) (⟨rfl, by first | assumption | decide | omega | (simp [big]; done) | (simp [big]; omega)⟩) Enc.nil) rfl rfl rfl Tryz.underlying62 Tryz.info9 rfl rfl rfl t_kr ?_
        intro v250 w251 h254 le255 f252 st253
        refine Y X X (d := 86) X<|O st253 X X X Tryz.call29 X (c_postilref01_SameWords st253.sub (f160.up (((((((((((((le164.trans le172).trans le182).trans le188).trans le197).trans le203).trans le209).trans le215).trans le221).trans le227).trans le233).trans le241).trans le245).trans le255)) f252) ?_
        intro r256 w257 h258 le259 st260 q261
        obtain rfl := q261
        refine Y X X (d := 86) X<|v_not X X<|v_pickF (v := (.bool _)) X X X<|v_mvB X X ?_
        refine zk (d := 92) rfl (fun g262 => ?_) (fun g262 => ?_)
        ·
         exfalso
         have sure_ : ((!(decide (((formsR (textE) ((lexE ([]))) ((Head.mk (wAge) (3))))) = ([wOld]))))) = false := by simp [formsE_age.2]
         exact absurd (g262.symm.trans sure_) (by decide)
        ·
         refine Y X X (d := 92) X<|v_mvI X X<|Y X X (d := 92) X<|v_neq X X X<|v_pickF (v := (.bool _)) X X X<|v_mvB X X ?_
         refine zk (d := 96) rfl (fun g263 => ?_) (fun g263 => ?_)
         ·
          replace g263 := of_decide_eq_true g263
          exfalso
          have sure_ : (decide ((underE (textE) ((lexE ([]))) ((Head.mk (wSee) (2)))) ≠ 0)) = false := by simp [formsE_see.1]
          exact of_decide_eq_false sure_ g263
         ·
          replace g263 := of_decide_eq_false g263
          refine Y X X (d := 96) X<|v_move (v := v191) X X<|Y X X (d := 96) X ?_
          refine zG (L := LStr) (xs := [wSea]) (cs := [strV wSea]) st260 (Enc.cons (L := LStr) (vs := [strV wSea]) (x := wSea) (h := h258) (⟨rfl, by first | assumption | decide | omega | (simp [big]; done) | (simp [big]; omega)⟩) Enc.nil) rfl rfl rfl Tryz.underlying62 Tryz.info9 rfl rfl rfl t_kr ?_
          intro v264 w265 h268 le269 f266 st267
          refine Y X X (d := 96) X<|O st267 X X X Tryz.call29 X (c_postilref01_SameWords st267.sub (f192.up (((((((((((le197.trans le203).trans le209).trans le215).trans le221).trans le227).trans le233).trans le241).trans le245).trans le255).trans le259).trans le269)) f266) ?_
          intro r270 w271 h272 le273 st274 q275
          obtain rfl := q275
          refine Y X X (d := 96) X<|v_not X X<|v_pickF (v := (.bool _)) X X X<|M ?_
          refine zh rfl (fun c276 => ?_) (fun c276 => ?_)
          ·
           exfalso
           have sure_ : ((!(decide (((formsR (textE) ((lexE ([]))) ((Head.mk (wSee) (2))))) = ([wSea]))))) = false := by simp [formsE_see.2]
           exact absurd (c276.symm.trans sure_) (by decide)
          ·
           refine zo<|U<|W.sr<|O st274 X X X Tryz.call46 X (c_postillaw04_four st274.sub ) ?_
           intro r277 w278 h279 le280 st281 q282
           obtain rfl := q282
           refine O st281 X X X Tryz.call46 X (c_postillaw04_four st281.sub ) ?_
           intro r283 w284 h285 le286 st287 q288
           obtain rfl := q288
           refine zG (L := LDecision) (xs := [d4E, d4E]) (cs := [.int .i64 (d4E.number), .int .u8 (d4E.kind), strV (d4E.form), .int .i64 (d4E.at_.chapter), .int .i64 (d4E.at_.line), .int .i64 (d4E.at_.word), strV (d4E.to.stem), .int .u8 (d4E.to.mark), .int .i64 (d4E.of_), .int .i64 (d4E.number), .int .u8 (d4E.kind), strV (d4E.form), .int .i64 (d4E.at_.chapter), .int .i64 (d4E.at_.line), .int .i64 (d4E.at_.word), strV (d4E.to.stem), .int .u8 (d4E.to.mark), .int .i64 (d4E.of_)]) st287 (Enc.cons (L := LDecision) (vs := [.int .i64 (d4E.number), .int .u8 (d4E.kind), strV (d4E.form), .int .i64 (d4E.at_.chapter), .int .i64 (d4E.at_.line), .int .i64 (d4E.at_.word), strV (d4E.to.stem), .int .u8 (d4E.to.mark), .int .i64 (d4E.of_)]) (x := d4E) (h := h285) (⟨rfl, t_u8, by first | assumption | decide | omega | (simp [big]; done) | (simp [big]; omega), by first | assumption | decide | omega | (simp [big]; done) | (simp [big]; omega), t_u8⟩) (Enc.cons (L := LDecision) (vs := [.int .i64 (d4E.number), .int .u8 (d4E.kind), strV (d4E.form), .int .i64 (d4E.at_.chapter), .int .i64 (d4E.at_.line), .int .i64 (d4E.at_.word), strV (d4E.to.stem), .int .u8 (d4E.to.mark), .int .i64 (d4E.of_)]) (x := d4E) (h := h285) (⟨rfl, t_u8, by first | assumption | decide | omega | (simp [big]; done) | (simp [big]; omega), by first | assumption | decide | omega | (simp [big]; done) | (simp [big]; omega), t_u8⟩) Enc.nil)) rfl rfl rfl Tryz.underlying26 Tryz.info34 rfl rfl rfl t_kr ?_
           intro v289 w290 h293 le294 f291 st292
           refine O st292 rfl rfl rfl Tryz.call40 rfl (zF st292.sub f291 (by decide)) ?_
           intro r295 w296 h297 le298 st299 q300
           obtain ⟨v301, v303, rfl, f302, f304⟩ := q300
           have f302_b := f302.le
           have f304_b := f304.le
           refine zK rfl rfl (zW rfl Tryz.call40 rfl) ((c_postillaw04_lexicon_own st299.sub (Sl.nil _ _) (by decide)).mono ?_)
           rintro _ w305 ⟨h306, v310, v313, o311, o314, rfl, le307, s309, f312, f315⟩
           refine ⟨_, rfl, ?_⟩
           have st308 := st299.call s309
           refine zy st308 Tryz.zeroValue28 X X ?_
           intro b316 w317 st318
           refine zy st318 Tryz.zeroValue28 X X ?_
           intro b319 w320 st321
           refine zp st321 (k := 2) X X X (E f302.one (E f304.one zJ)) Tryz.sizeOf28 X X X ?_
           intro w322 st323
           obtain ⟨h324, le325, hb326, st328⟩ := st323.freeze (k := 2) rfl
           have hc327 := Cells.of hb326
           refine zp st328 (k := 3) X X X (E f312.one (E f315.one zJ)) Tryz.sizeOf28 X X X ?_
           intro w329 st330
           obtain ⟨h331, le332, hb333, st335⟩ := st330.freeze (k := 3) rfl
           have hc334 := Cells.of hb333
           refine M<|W.sr<|v_field_addr X Tryz.underlying28 X Tryz.sizeOf25 X X<|v_load_cells1 (j := 0) st335.sub hc334 X X X Tryz.isAgg25 X ?_
           have hr0 : ∃ y_, ((((lexE ([]))).rules))[0]? = some y_ := ⟨_, List.getElem?_eq_getElem (by decide)⟩
           obtain ⟨r0, hr0⟩ := hr0
           obtain ⟨b336, o337, cur338, _, e341, he339, hr_r0, hc340⟩ := OSl.elem (f312.up (le325.trans le332)) hr0
           subst e341
           obtain ⟨rfl, ls342, ls343⟩ := hr_r0
           simp only [big] at ls342
           simp only [big] at ls343
           refine v_index_el he339 X X (hk := X) (hu := Tryz.underlying25) (hz := Tryz.sizeOf70) X<|v_field_addr X Tryz.underlying70 X Tryz.sizeOf9 X X ?_
           refine OpsL.storeElF (j := 1) (k := 0) (y1 := { r0 with put := ([115] : Str) }) st335 (f312.up (le325.trans le332)) rfl hr0 he339 rfl rfl rfl rfl rfl (by rintro _ ⟨rfl, f0_, f1_⟩; exact ⟨rfl, f0_, (by first | assumption | decide | omega | (simp [big]; done) | (simp [big]; omega))⟩) Tryz.sizeOf9 ?_
           intro o344 w345 _ e346 f347 st348
           subst e346
           refine M<|zl ?_
           have hr0e : r0 = Rule.mk [115] [] 2 := (Option.some.inj hr0).symm
           obtain ⟨h349, le350, f351, st352⟩ := OSl.freeze (k := 0) st348 f347 rfl (by first | decide | (simp [lexE, rulesE]; done) | omega)
           obtain ⟨h353, le354, f355, st356⟩ := OSl.freeze (k := 1) st352 (f315.up ((le325.trans le332).trans le350)) rfl (by first | decide | (simp [lexE, rulesE]; done) | omega)
           refine zg<|O st356 X X X Tryz.call44 X (zO st356.sub ) ?_
           intro r357 w358 h359 le360 st361 q362
           obtain ⟨v363, rfl, f364⟩ := q362
           have f364_b := f364.le
           refine O st361 rfl rfl rfl Tryz.call40 rfl (zF st361.sub (Sl.nil _ _) (by decide)) ?_
           intro r365 w366 h367 le368 st369 q370
           obtain ⟨v371, v373, rfl, f372, f374⟩ := q370
           have f372_b := f372.le
           have f374_b := f374.le
           refine O st369 rfl rfl rfl Tryz.call31 rfl (c_stem_Steps st369.sub (t := textE) (f364.up le368) (x := (lexE ([]))) f372 f374 _ (by first | assumption | decide | omega | (simp [big]; done) | (simp [big]; omega)) (K0.up (((((((((((((((((((((((((((((((((((((((((((((((((le4.trans le12).trans le16).trans le25).trans le29).trans le36).trans le46).trans le52).trans le58).trans le65).trans le73).trans le77).trans le87).trans le93).trans le99).trans le106).trans le114).trans le124).trans le132).trans le140).trans le150).trans le156).trans le164).trans le172).trans le182).trans le188).trans le197).trans le203).trans le209).trans le215).trans le221).trans le227).trans le233).trans le241).trans le245).trans le255).trans le259).trans le269).trans le273).trans le280).trans le286).trans le294).trans le298).trans le307).trans le325).trans le332).trans le350).trans le354).trans le360).trans le368))) ?_
           intro r375 w376 h377 le378 st379 q380
           obtain ⟨v381, rfl, f382⟩ := q380
           have f382_b := f382.le
           refine v_mvT X X<|v_extract (v := v381) X X X<|v_extract (v := (.int _ _)) X X X<|v_asI X X<|M<|W.sr<|O st379 X X X Tryz.call44 X (zO st379.sub ) ?_
           intro r383 w384 h385 le386 st387 q388
           obtain ⟨v389, rfl, f390⟩ := q388
           have f390_b := f390.le
           refine O st387 rfl rfl rfl Tryz.call40 rfl (zF st387.sub (Sl.nil _ _) (by decide)) ?_
           intro r391 w392 h393 le394 st395 q396
           obtain ⟨v397, v399, rfl, f398, f400⟩ := q396
           have f398_b := f398.le
           have f400_b := f400.le
           refine O st395 X X X Tryz.call41 X (zV st395.sub _ _ _) ?_
           intro r401 w402 h403 le404 st405 q406
           obtain rfl := q406
           refine O st405 X X X Tryz.call33 X (c_stem_HeadOf st405.sub (t := textE) (f390.up (le394.trans le404)) (x := (lexE ([]))) (f398.up le404) (f400.up le404) (p := (Place.mk (0) (2) (0))) (K0.up (((((((((((((((((((((((((((((((((((((((((((((((((((((le4.trans le12).trans le16).trans le25).trans le29).trans le36).trans le46).trans le52).trans le58).trans le65).trans le73).trans le77).trans le87).trans le93).trans le99).trans le106).trans le114).trans le124).trans le132).trans le140).trans le150).trans le156).trans le164).trans le172).trans le182).trans le188).trans le197).trans le203).trans le209).trans le215).trans le221).trans le227).trans le233).trans le241).trans le245).trans le255).trans le259).trans le269).trans le273).trans le280).trans le286).trans le294).trans le298).trans le307).trans le325).trans le332).trans le350).trans le354).trans le360).trans le368).trans le378).trans le386).trans le394).trans le404))) ?_
           intro r407 w408 h409 le410 st411 q412
           obtain rfl := q412
           refine v_mvT X X<|v_extract (v := (.agg (List.toArray _))) X X X<|v_extract (v := (.int _ _)) X X X<|v_asI X X<|M<|W.sr<|O st411 X X X Tryz.call44 X (zO st411.sub ) ?_
           intro r413 w414 h415 le416 st417 q418
           obtain ⟨v419, rfl, f420⟩ := q418
           have f420_b := f420.le
           refine O st417 rfl rfl rfl Tryz.call40 rfl (zF st417.sub (Sl.nil _ _) (by decide)) ?_
           intro r421 w422 h423 le424 st425 q426
           obtain ⟨v427, v429, rfl, f428, f430⟩ := q426
           have f428_b := f428.le
           have f430_b := f430.le
           refine O st425 rfl rfl rfl Tryz.call34 rfl (zH st425.sub _ (by first | assumption | decide | omega | (simp [big]; done) | (simp [big]; omega)) _ (by omega)) ?_
           intro r431 w432 h433 le434 st435 q436
           obtain rfl := q436
           refine O st435 rfl rfl rfl Tryz.call47 rfl (c_stem_Under st435.sub (t := textE) (f420.up (le424.trans le434)) (x := (lexE ([]))) (f428.up le434) (f430.up le434) (hd := (Head.mk (wSea) (4))) (by first | assumption | decide | omega | (simp [big]; done) | (simp [big]; omega)) t_u8 (K0.up (((((((((((((((((((((((((((((((((((((((((((((((((((((((((le4.trans le12).trans le16).trans le25).trans le29).trans le36).trans le46).trans le52).trans le58).trans le65).trans le73).trans le77).trans le87).trans le93).trans le99).trans le106).trans le114).trans le124).trans le132).trans le140).trans le150).trans le156).trans le164).trans le172).trans le182).trans le188).trans le197).trans le203).trans le209).trans le215).trans le221).trans le227).trans le233).trans le241).trans le245).trans le255).trans le259).trans le269).trans le273).trans le280).trans le286).trans le294).trans le298).trans le307).trans le325).trans le332).trans le350).trans le354).trans le360).trans le368).trans le378).trans le386).trans le394).trans le404).trans le410).trans le416).trans le424).trans le434))) ?_
           intro r437 w438 h439 le440 st441 q442
           obtain ⟨v443, rfl, f444⟩ := q442
           have f444_b := f444.le
           refine v_mvT X X<|v_extract (v := v443) X X X<|v_extract (v := (.int _ _)) X X X<|v_asI X X<|M<|W.sr<|O st441 X X X Tryz.call44 X (zO st441.sub ) ?_
           intro r445 w446 h447 le448 st449 q450
           obtain ⟨v451, rfl, f452⟩ := q450
           have f452_b := f452.le
           refine O st449 rfl rfl rfl Tryz.call40 rfl (zF st449.sub (Sl.nil _ _) (by decide)) ?_
           intro r453 w454 h455 le456 st457 q458
           obtain ⟨v459, v461, rfl, f460, f462⟩ := q458
           have f460_b := f460.le
           have f462_b := f462.le
           refine O st457 rfl rfl rfl Tryz.call34 rfl (zH st457.sub _ (by first | assumption | decide | omega | (simp [big]; done) | (simp [big]; omega)) _ (by omega)) ?_
           intro r463 w464 h465 le466 st467 q468
           obtain rfl := q468
           refine O st467 rfl rfl rfl Tryz.call47 rfl (c_stem_Under st467.sub (t := textE) (f452.up (le456.trans le466)) (x := (lexE ([]))) (f460.up le466) (f462.up le466) (hd := (Head.mk (wSea) (2))) (by first | assumption | decide | omega | (simp [big]; done) | (simp [big]; omega)) t_u8 (K0.up (((((((((((((((((((((((((((((((((((((((((((((((((((((((((((((le4.trans le12).trans le16).trans le25).trans le29).trans le36).trans le46).trans le52).trans le58).trans le65).trans le73).trans le77).trans le87).trans le93).trans le99).trans le106).trans le114).trans le124).trans le132).trans le140).trans le150).trans le156).trans le164).trans le172).trans le182).trans le188).trans le197).trans le203).trans le209).trans le215).trans le221).trans le227).trans le233).trans le241).trans le245).trans le255).trans le259).trans le269).trans le273).trans le280).trans le286).trans le294).trans le298).trans le307).trans le325).trans le332).trans le350).trans le354).trans le360).trans le368).trans le378).trans le386).trans le394).trans le404).trans le410).trans le416).trans le424).trans le434).trans le440).trans le448).trans le456).trans le466))) ?_
           intro r469 w470 h471 le472 st473 q474
           obtain ⟨v475, rfl, f476⟩ := q474
           have f476_b := f476.le
           refine v_mvT X X<|v_extract (v := v475) X X X<|v_extract (v := (.int _ _)) X X X<|v_assign (v := v475) X X<|v_asI X X<|M<|W.sr<|O st473 X X X Tryz.call44 X (zO st473.sub ) ?_
           intro r477 w478 h479 le480 st481 q482
           obtain ⟨v483, rfl, f484⟩ := q482
           have f484_b := f484.le
           refine O st481 X X X Tryz.call46 X (c_postillaw04_four st481.sub ) ?_
           intro r485 w486 h487 le488 st489 q490
           obtain rfl := q490
           refine zG (L := LDecision) (xs := [d4E]) (cs := [.int .i64 (d4E.number), .int .u8 (d4E.kind), strV (d4E.form), .int .i64 (d4E.at_.chapter), .int .i64 (d4E.at_.line), .int .i64 (d4E.at_.word), strV (d4E.to.stem), .int .u8 (d4E.to.mark), .int .i64 (d4E.of_)]) st489 (Enc.cons (L := LDecision) (vs := [.int .i64 (d4E.number), .int .u8 (d4E.kind), strV (d4E.form), .int .i64 (d4E.at_.chapter), .int .i64 (d4E.at_.line), .int .i64 (d4E.at_.word), strV (d4E.to.stem), .int .u8 (d4E.to.mark), .int .i64 (d4E.of_)]) (x := d4E) (h := h487) (⟨rfl, t_u8, by first | assumption | decide | omega | (simp [big]; done) | (simp [big]; omega), by first | assumption | decide | omega | (simp [big]; done) | (simp [big]; omega), t_u8⟩) Enc.nil) rfl rfl rfl Tryz.underlying26 Tryz.info34 rfl rfl rfl t_kr ?_
           intro v491 w492 h495 le496 f493 st494
           refine O st494 rfl rfl rfl Tryz.call40 rfl (zF st494.sub f493 (by decide)) ?_
           intro r497 w498 h499 le500 st501 q502
           obtain ⟨v503, v505, rfl, f504, f506⟩ := q502
           have f504_b := f504.le
           have f506_b := f506.le
           refine O st501 X X X Tryz.call46 X (c_postillaw04_four st501.sub ) ?_
           intro r507 w508 h509 le510 st511 q512
           obtain rfl := q512
           refine zK rfl rfl (zW rfl Tryz.call16 rfl) ((c_stem_Add st511.sub (t := textE) (f484.up (((le488.trans le496).trans le500).trans le510)) (x := (lexE ([d4E]))) (f504.up le510) (f506.up le510) (d := d4E) t_u8 (by first | assumption | decide | omega | (simp [big]; done) | (simp [big]; omega)) (by first | assumption | decide | omega | (simp [big]; done) | (simp [big]; omega)) t_u8 (K0.up (((((((((((((((((((((((((((((((((((((((((((((((((((((((((((((((((((le4.trans le12).trans le16).trans le25).trans le29).trans le36).trans le46).trans le52).trans le58).trans le65).trans le73).trans le77).trans le87).trans le93).trans le99).trans le106).trans le114).trans le124).trans le132).trans le140).trans le150).trans le156).trans le164).trans le172).trans le182).trans le188).trans le197).trans le203).trans le209).trans le215).trans le221).trans le227).trans le233).trans le241).trans le245).trans le255).trans le259).trans le269).trans le273).trans le280).trans le286).trans le294).trans le298).trans le307).trans le325).trans le332).trans le350).trans le354).trans le360).trans le368).trans le378).trans le386).trans le394).trans le404).trans le410).trans le416).trans le424).trans le434).trans le440).trans le448).trans le456).trans le466).trans le472).trans le480).trans le488).trans le496).trans le500).trans le510))).mono ?_)
           rintro _ w513 ⟨h514, v518, v521, o519, o522, rfl, le515, s517, f520, f523⟩
           refine ⟨_, rfl, ?_⟩
           have st516 := st511.call s517
           refine v_mvT X X<|v_extract (v := (.agg (List.toArray _))) X X X<|v_extract (v := (.int _ _)) X X X<|zy st516 Tryz.zeroValue28 X X ?_
           intro b524 w525 st526
           refine zp st526 (k := 6) X X X (E f520.one (E f523.one zJ)) Tryz.sizeOf28 X X X ?_
           intro w527 st528
           obtain ⟨h529, le530, hb531, st533⟩ := st528.freeze (k := 6) rfl
           have hc532 := Cells.of hb531
           refine v_asI X X<|M<|W.sr<|O st533 X X X Tryz.call44 X (zO st533.sub ) ?_
           intro r534 w535 h536 le537 st538 q539
           obtain ⟨v540, rfl, f541⟩ := q539
           have f541_b := f541.le
           refine O st538 rfl rfl rfl Tryz.call40 rfl (zF st538.sub (Sl.nil _ _) (by decide)) ?_
           intro r542 w543 h544 le545 st546 q547
           obtain ⟨v548, v550, rfl, f549, f551⟩ := q547
           have f549_b := f549.le
           have f551_b := f551.le
           refine ze X X (zX (cs := [.int .i64 9, .int .u8 0, strV [], .int .i64 0, .int .i64 0, .int .i64 0, strV [], .int .u8 0, .int .i64 0]) t_kr) ?_
           refine O st546 rfl rfl rfl Tryz.call15 rfl (c_stem_Changes st546.sub (t := textE) (f541.up le545) (x := (lexE ([]))) f549 f551 (d := ({ zDecision with number := 9 } : Decision)) t_u8 (by first | assumption | decide | omega | (simp [big]; done) | (simp [big]; omega)) (by first | assumption | decide | omega | (simp [big]; done) | (simp [big]; omega)) t_u8 (K0.up (((((((((((((((((((((((((((((((((((((((((((((((((((((((((((((((((((((((le4.trans le12).trans le16).trans le25).trans le29).trans le36).trans le46).trans le52).trans le58).trans le65).trans le73).trans le77).trans le87).trans le93).trans le99).trans le106).trans le114).trans le124).trans le132).trans le140).trans le150).trans le156).trans le164).trans le172).trans le182).trans le188).trans le197).trans le203).trans le209).trans le215).trans le221).trans le227).trans le233).trans le241).trans le245).trans le255).trans le259).trans le269).trans le273).trans le280).trans le286).trans le294).trans le298).trans le307).trans le325).trans le332).trans le350).trans le354).trans le360).trans le368).trans le378).trans le386).trans le394).trans le404).trans le410).trans le416).trans le424).trans le434).trans le440).trans le448).trans le456).trans le466).trans le472).trans le480).trans le488).trans le496).trans le500).trans le510).trans le515).trans le530).trans le537).trans le545))) ?_
           intro r552 w553 h554 le555 st556 q557
           obtain ⟨v558, rfl, f559⟩ := q557
           have f559_b := f559.le
           refine v_mvT X X<|v_extract (v := v558) X X X<|v_extract (v := (.int _ _)) X X X<|v_assign (v := v558) X X<|v_asI X X<|M<|W.sr<|ze X X (zX (cs := [(.slice none 0 0)]) t_kr) ?_
           refine O st556 rfl rfl rfl Tryz.call40 rfl (zF st556.sub (Sl.nil _ _) (by decide)) ?_
           intro r560 w561 h562 le563 st564 q565
           obtain ⟨v566, v568, rfl, f567, f569⟩ := q565
           have f567_b := f567.le
           have f569_b := f569.le
           refine O st564 X X X Tryz.call18 X (c_stem_Standing st564.sub (t := zText) (Sl.nil _ _) (x := (lexE ([]))) f567 f569 (K0.up (((((((((((((((((((((((((((((((((((((((((((((((((((((((((((((((((((((((((le4.trans le12).trans le16).trans le25).trans le29).trans le36).trans le46).trans le52).trans le58).trans le65).trans le73).trans le77).trans le87).trans le93).trans le99).trans le106).trans le114).trans le124).trans le132).trans le140).trans le150).trans le156).trans le164).trans le172).trans le182).trans le188).trans le197).trans le203).trans le209).trans le215).trans le221).trans le227).trans le233).trans le241).trans le245).trans le255).trans le259).trans le269).trans le273).trans le280).trans le286).trans le294).trans le298).trans le307).trans le325).trans le332).trans le350).trans le354).trans le360).trans le368).trans le378).trans le386).trans le394).trans le404).trans le410).trans le416).trans le424).trans le434).trans le440).trans le448).trans le456).trans le466).trans le472).trans le480).trans le488).trans le496).trans le500).trans le510).trans le515).trans le530).trans le537).trans le545).trans le555).trans le563))) ?_
           intro r570 w571 h572 le573 st574 q575
           obtain ⟨v576, rfl, f577⟩ := q575
           have f577_b := f577.le
           refine v_mvT X X<|v_extract (v := v576) X X X<|v_extract (v := (.int _ _)) X X X<|v_assign (v := v576) X X<|v_asI X X<|M<|zl ?_
           have g578 : (decide ((stepsE (textE) ((lexE ([]))) (([83, 101, 97] : Str))) = 2)) = true := by decide +kernel
           have g578_r := g578
           replace g578 := of_decide_eq_true g578
           have g579 : (decide ((askE (textE) ((lexE ([]))) ((Place.mk (0) (2) (0)))) = 12)) = true := by decide +kernel
           have g579_r := g579
           replace g579 := of_decide_eq_true g579
           have g580 : (decide ((underE (textE) ((lexE ([]))) ((Head.mk (wSea) (4)))) = 2)) = true := by decide +kernel
           have g580_r := g580
           replace g580 := of_decide_eq_true g580
           have g581 : (decide ((underE (textE) ((lexE ([]))) ((Head.mk (wSea) (2)))) = 6)) = true := by simp [underE_six]
           have g581_r := g581
           replace g581 := of_decide_eq_true g581
           have g582 : (decide (((addE (textE) ((lexE ([d4E]))) (d4E))) = 41)) = true := by decide +kernel
           have g582_r := g582
           replace g582 := of_decide_eq_true g582
           have g583 : (decide ((addE (textE) ((lexE ([]))) (({ zDecision with number := 9 } : Decision))) = 41)) = true := by decide +kernel
           have g583_r := g583
           replace g583 := of_decide_eq_true g583
           have g584 : (decide ((checkN (zText) ((lexE ([])))) = 10)) = true := by decide +kernel
           have g584_r := g584
           replace g584 := of_decide_eq_true g584
           have g585 : (decide ((checkN (textE) ((lexE ([d4E, d4E])))) = 40)) = true := by decide +kernel
           have g585_r := g585
           replace g585 := of_decide_eq_true g585
           refine zY (er := ([], [], [], [], 0)) (dsts := [160, 161, 162, 163, 164, 165, 166, 167, 168, 169, 170, 171, 172, 173, 174, 175, 176, 177, 178, 179, 180, 181, 182, 183, 184, 185, 186, 187, 188, 189, 190, 191, 192, 193, 194, 195, 196, 197, 0]) st574 Tryz.mixed<|zb 0 [] X t_kr t_kr X X (fun hD wD τD hL hS hO  => (r_mvI X))<|zb 1 [0] X t_kr t_kr X X (fun hD wD τD hL hS hO _ _ => (Run.lit (r_eql X X) g578_r))<|zb 2 [0] X t_kr t_kr X X (fun hD wD τD hL hS hO _ _ => (r_mvB X))<|zL 3 [0] X t_kr t_kr X X X (fun hD wD τD hL hS hO _ _ => ⟨rfl, (r_mvI X)⟩)<|zL 4 [0, 1] X t_kr t_kr X X X (fun hD wD τD hL hS hO _ _ _ _ => ⟨rfl, (r_eql X X)⟩)<|zb 5 [2, 0] X t_kr t_kr X X (fun hD wD τD hL hS hO _ _ _ _ => (Run.lit (r_pickT (v := (.bool _)) X X) g579_r))<|zb 6 [0, 3] X t_kr t_kr X X (fun hD wD τD hL hS hO _ _ _ _ => (r_mvB X))<|zL 7 [0] X t_kr t_kr X X X (fun hD wD τD hL hS hO _ _ => ⟨rfl, (r_mvI X)⟩)<|zL 8 [0, 1] X t_kr t_kr X X X (fun hD wD τD hL hS hO _ _ _ _ => ⟨rfl, (r_eql X X)⟩)<|zb 9 [2, 0] X t_kr t_kr X X (fun hD wD τD hL hS hO _ _ _ _ => (Run.lit (r_pickT (v := (.bool _)) X X) g580_r))<|zb 10 [0, 3] X t_kr t_kr X X (fun hD wD τD hL hS hO _ _ _ _ => (r_mvB X))<|zL 11 [0] X t_kr t_kr X X X (fun hD wD τD hL hS hO _ _ => ⟨rfl, (r_mvI X)⟩)<|zL 12 [0, 1] X t_kr t_kr X X X (fun hD wD τD hL hS hO _ _ _ _ => ⟨rfl, (r_eql X X)⟩)<|zb 13 [2, 0] X t_kr t_kr X X (fun hD wD τD hL hS hO _ _ _ _ => (Run.lit (r_pickT (v := (.bool _)) X X) g581_r))<|zb 14 [0, 3] X t_kr t_kr X X (fun hD wD τD hL hS hO _ _ _ _ => (r_mvB X))<|zL 15 [0] X t_kr t_kr X X X (fun hD wD τD hL hS hO _ _ => ⟨rfl, (r_mvI X)⟩)<|zL 16 [0, 1] X t_kr t_kr X X X (fun hD wD τD hL hS hO _ _ _ _ => ⟨rfl, (r_eql X X)⟩)<|zb 17 [2, 0] X t_kr t_kr X X (fun hD wD τD hL hS hO _ _ _ _ => (Run.lit (r_pickT (v := (.bool _)) X X) g582_r))<|zb 18 [0, 3] X t_kr t_kr X X (fun hD wD τD hL hS hO _ _ _ _ => (r_mvB X))<|zL 19 [0] X t_kr t_kr X X X (fun hD wD τD hL hS hO _ _ => ⟨rfl, (r_mvI X)⟩)<|zL 20 [0, 1] X t_kr t_kr X X X (fun hD wD τD hL hS hO _ _ _ _ => ⟨rfl, (r_eql X X)⟩)<|zb 21 [2, 0] X t_kr t_kr X X (fun hD wD τD hL hS hO _ _ _ _ => (Run.lit (r_pickT (v := (.bool _)) X X) g583_r))<|zb 22 [0, 3] X t_kr t_kr X X (fun hD wD τD hL hS hO _ _ _ _ => (r_mvB X))<|zL 23 [0] X t_kr t_kr X X X (fun hD wD τD hL hS hO _ _ => ⟨rfl, (r_mvI X)⟩)<|zL 24 [0, 1] X t_kr t_kr X X X (fun hD wD τD hL hS hO _ _ _ _ => ⟨rfl, (r_eql X X)⟩)<|zb 25 [2, 0] X t_kr t_kr X X (fun hD wD τD hL hS hO _ _ _ _ => (Run.lit (r_pickT (v := (.bool _)) X X) g584_r))<|zb 26 [0, 3] X t_kr t_kr X X (fun hD wD τD hL hS hO _ _ _ _ => (r_mvB X)) ?_
           refine zI 27 (.res (fun h' res_ => ∃ gv27_0, res_ = .agg #[gv27_0] ∧ Sl LChapter h' gv27_0 textE.chapters) (by rintro _ _ _ hl ⟨gv27_0, e_, gf27_0⟩; exact ⟨gv27_0, e_, gf27_0.up hl⟩)) [0] rfl t_kr t_kr ?_ ?_
           ·
            intro hD wD τD hL hS hO _ _
            have st586 := St.start hS
            refine Y X X (d := 186) X<|O st586 X X X Tryz.call44 X (zO st586.sub ) ?_
            intro r587 w588 h589 le590 st591 q592
            obtain ⟨v593, rfl, f594⟩ := q592
            have f594_b := f594.le
            exact zm ⟨_, _, rfl, st591, _, rfl, ⟨_, rfl, f594⟩⟩
           refine zL 28 [1] X t_kr t_kr X X X (fun hD wD τD hL hS hO _ _ => ⟨rfl, (zA (hL.sub hS) (hc327.up (((((((((((((((((((((((((((((le332.trans le350).trans le354).trans le360).trans le368).trans le378).trans le386).trans le394).trans le404).trans le410).trans le416).trans le424).trans le434).trans le440).trans le448).trans le456).trans le466).trans le472).trans le480).trans le488).trans le496).trans le500).trans le510).trans le515).trans le530).trans le537).trans le545).trans le555).trans le563).trans le573)) X Tryz.isAgg28 Tryz.sizeOf28 X)⟩) ?_
           refine zI 29 (.det (.int .i64 (checkN (textE) ((lexE ([d4E, d4E])))))) [0, 1, 2] rfl t_kr t_kr ?_ ?_
           ·
            intro hD wD τD hL hS hO _ _ gv27_ gf27_ _ _
            obtain ⟨gv27_0, rfl, gf27_0⟩ := gf27_
            have st595 := St.start hS
            refine Y X X (d := 186) X<|O st595 X X X Tryz.call48 X (c_stem_Check st595.sub (t := textE) gf27_0 (x := (lexE ([d4E, d4E]))) (f302.up ((((((((((((((((((((((((((((((((le307.trans le325).trans le332).trans le350).trans le354).trans le360).trans le368).trans le378).trans le386).trans le394).trans le404).trans le410).trans le416).trans le424).trans le434).trans le440).trans le448).trans le456).trans le466).trans le472).trans le480).trans le488).trans le496).trans le500).trans le510).trans le515).trans le530).trans le537).trans le545).trans le555).trans le563).trans le573).trans hL)) (f304.up ((((((((((((((((((((((((((((((((le307.trans le325).trans le332).trans le350).trans le354).trans le360).trans le368).trans le378).trans le386).trans le394).trans le404).trans le410).trans le416).trans le424).trans le434).trans le440).trans le448).trans le456).trans le466).trans le472).trans le480).trans le488).trans le496).trans le500).trans le510).trans le515).trans le530).trans le537).trans le545).trans le555).trans le563).trans le573).trans hL)) (K0.up (((((((((((((((((((((((((((((((((((((((((((((((((((((((((((((((((((((((((((le4.trans le12).trans le16).trans le25).trans le29).trans le36).trans le46).trans le52).trans le58).trans le65).trans le73).trans le77).trans le87).trans le93).trans le99).trans le106).trans le114).trans le124).trans le132).trans le140).trans le150).trans le156).trans le164).trans le172).trans le182).trans le188).trans le197).trans le203).trans le209).trans le215).trans le221).trans le227).trans le233).trans le241).trans le245).trans le255).trans le259).trans le269).trans le273).trans le280).trans le286).trans le294).trans le298).trans le307).trans le325).trans le332).trans le350).trans le354).trans le360).trans le368).trans le378).trans le386).trans le394).trans le404).trans le410).trans le416).trans le424).trans le434).trans le440).trans le448).trans le456).trans le466).trans le472).trans le480).trans le488).trans le496).trans le500).trans le510).trans le515).trans le530).trans le537).trans le545).trans le555).trans le563).trans le573).trans hL))) ?_
            intro r596 w597 h598 le599 st600 q601
            obtain rfl := q601
            exact zm ⟨_, _, rfl, st600, (), rfl, trivial⟩
           refine zL 30 [0, 3] X t_kr t_kr X X X (fun hD wD τD hL hS hO _ _ _ _ => ⟨rfl, (r_eql X X)⟩)<|zb 31 [4, 0] X t_kr t_kr X X (fun hD wD τD hL hS hO _ _ _ _ => (Run.lit (r_pickT (v := (.bool _)) X X) g585_r))<|zb 32 [0, 2] X t_kr t_kr X X (fun hD wD τD hL hS hO _ _ _ _ => (r_mvB X)) ?_
           refine zI 33 (.res (fun h' res_ => ∃ gv33_0, res_ = .agg #[gv33_0] ∧ Sl LChapter h' gv33_0 textE.chapters) (by rintro _ _ _ hl ⟨gv33_0, e_, gf33_0⟩; exact ⟨gv33_0, e_, gf33_0.up hl⟩)) [0] rfl t_kr t_kr ?_ ?_
           ·
            intro hD wD τD hL hS hO _ _
            have st602 := St.start hS
            refine Y X X (d := 192) X<|O st602 X X X Tryz.call44 X (zO st602.sub ) ?_
            intro r603 w604 h605 le606 st607 q608
            obtain ⟨v609, rfl, f610⟩ := q608
            have f610_b := f610.le
            exact zm ⟨_, _, rfl, st607, _, rfl, ⟨_, rfl, f610⟩⟩
           refine zL 34 [1] X t_kr t_kr X X X (fun hD wD τD hL hS hO _ _ => ⟨rfl, (zA (hL.sub hS) (hc334.up ((((((((((((((((((((((((((((le350.trans le354).trans le360).trans le368).trans le378).trans le386).trans le394).trans le404).trans le410).trans le416).trans le424).trans le434).trans le440).trans le448).trans le456).trans le466).trans le472).trans le480).trans le488).trans le496).trans le500).trans le510).trans le515).trans le530).trans le537).trans le545).trans le555).trans le563).trans le573)) X Tryz.isAgg28 Tryz.sizeOf28 X)⟩) ?_
           refine zI 35 (.det (.int .i64 (checkN (textE) ((Lexicon.mk ((((lexE ([]))).rules).set 0 { r0 with put := ([115] : Str) }) (((lexE ([]))).decisions)))))) [0, 1, 2] rfl t_kr t_kr ?_ ?_
           ·
            intro hD wD τD hL hS hO _ _ gv33_ gf33_ _ _
            obtain ⟨gv33_0, rfl, gf33_0⟩ := gf33_
            have st611 := St.start hS
            refine Y X X (d := 192) X<|O st611 X X X Tryz.call48 X (c_stem_Check st611.sub (t := textE) gf33_0 (x := (Lexicon.mk ((((lexE ([]))).rules).set 0 { r0 with put := ([115] : Str) }) (((lexE ([]))).decisions))) (f351.up ((((((((((((((((((((((((((((le354.trans le360).trans le368).trans le378).trans le386).trans le394).trans le404).trans le410).trans le416).trans le424).trans le434).trans le440).trans le448).trans le456).trans le466).trans le472).trans le480).trans le488).trans le496).trans le500).trans le510).trans le515).trans le530).trans le537).trans le545).trans le555).trans le563).trans le573).trans hL)) (f355.up (((((((((((((((((((((((((((le360.trans le368).trans le378).trans le386).trans le394).trans le404).trans le410).trans le416).trans le424).trans le434).trans le440).trans le448).trans le456).trans le466).trans le472).trans le480).trans le488).trans le496).trans le500).trans le510).trans le515).trans le530).trans le537).trans le545).trans le555).trans le563).trans le573).trans hL)) (K0.up (((((((((((((((((((((((((((((((((((((((((((((((((((((((((((((((((((((((((((le4.trans le12).trans le16).trans le25).trans le29).trans le36).trans le46).trans le52).trans le58).trans le65).trans le73).trans le77).trans le87).trans le93).trans le99).trans le106).trans le114).trans le124).trans le132).trans le140).trans le150).trans le156).trans le164).trans le172).trans le182).trans le188).trans le197).trans le203).trans le209).trans le215).trans le221).trans le227).trans le233).trans le241).trans le245).trans le255).trans le259).trans le269).trans le273).trans le280).trans le286).trans le294).trans le298).trans le307).trans le325).trans le332).trans le350).trans le354).trans le360).trans le368).trans le378).trans le386).trans le394).trans le404).trans le410).trans le416).trans le424).trans le434).trans le440).trans le448).trans le456).trans le466).trans le472).trans le480).trans le488).trans le496).trans le500).trans le510).trans le515).trans le530).trans le537).trans le545).trans le555).trans le563).trans le573).trans hL))) ?_
            intro r612 w613 h614 le615 st616 q617
            obtain rfl := q617
            exact zm ⟨_, _, rfl, st616, (), rfl, trivial⟩
           refine zL 36 [0, 3] X t_kr t_kr X X X (fun hD wD τD hL hS hO _ _ _ _ => ⟨rfl, (r_eql X X)⟩)<|zb 37 [4, 0] X t_kr t_kr X X (fun hD wD τD hL hS hO _ _ _ _ => (r_pickT (v := (.bool _)) X X))<|zb 38 [37, 36, 35, 34, 33, 32, 31, 30, 29, 28, 27, 26, 25, 24, 23, 22, 21, 20, 19, 18, 17, 16, 15, 14, 13, 12, 11, 10, 9, 8, 7, 6, 5, 4, 3, 2, 1, 0] X t_kr t_kr X X (fun hD wD τD hL hS hO _ _ _ _ _ _ _ _ _ _ _ _ _ _ _ _ _ _ _ _ _ _ _ _ _ _ _ _ _ _ _ _ _ _ _ _ _ _ _ _ _ _ _ _ _ _ _ _ _ _ _ _ _ _ gv27_ gf27_ _ _ _ _ _ _ _ _ _ _ gv33_ gf33_ _ _ _ _ _ _ _ _ => (r_asB X))<|Drw.nil X X X X X X ⟨t_kr, X, t_kr, X, t_kr, X, X, t_kr, cx_nil⟩ ?_
           intro hE618 w619 _ le620 st621 _ _ _ _ _ _ _ _ _ _ _ _ _ _ _ _ _ _ _ _ _ _ _ _ _ _ _ _ _ _ _ _ _ _ _ _ _ _ _ _ _ _ _ _ _ _ _ _ _ _ _ _ _ _ gv27_x622 gf27_x622 _ _ _ _ _ _ _ _ _ _ gv33_x622 gf33_x622 _ _ _ _ _ _ _ _ _ _
           obtain ⟨gv27_0x622, rfl, gf27_0x622⟩ := gf27_x622
           obtain ⟨gv33_0x622, rfl, gf33_0x622⟩ := gf33_x622
           refine AllDeps.fin X<|U<|zq<|za Tryz.results9 ?_
           refine ⟨hE618, _, rfl, st621.done, ?_⟩
           refine zj ?_
           all_goals first | decide +kernel | (rw [hr0e]; decide +kernel) | simp_all
end Go.Pk
