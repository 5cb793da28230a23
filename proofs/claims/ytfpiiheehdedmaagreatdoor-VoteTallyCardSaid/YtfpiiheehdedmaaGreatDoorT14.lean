/- A PART OF THE PROOF: contracts of functions, each walked once (much of it printed by a program of the author's own). -/
import Derived.Test.YtfpiiheehdedmaaGreatDoorT13
import Derived.Test.YtfpiiheehdedmaaGreatDoorT2
import Derived.Test.YtfpiiheehdedmaaGreatDoorT4
set_option linter.unusedSimpArgs false
set_option linter.unusedVariables false
set_option maxRecDepth 4000
namespace Go.Pk
open Go Go.RowKit Go.Proofs
theorem c_stem_Homographs_own {h : Heap} {w : World} (hs : Sub h w) {t : Text} {t_v0 : Value} (t_f0 : Sl LChapter h t_v0 t.chapters) {x : Lexicon} {x_v0 : Value} (x_f0 : Sl LRule h x_v0 x.rules) {x_v1 : Value} (x_f1 : Sl LDecision h x_v1 x.decisions) (K1 : Cells h 1 0 Tryz.glob1) : Calls Tryz.prog 84 #[.agg #[t_v0], .agg #[x_v0, x_v1]] w (fun e_ w' => ∃ h' v0_ o0_, e_ = .returned (.tuple #[v0_, .int .i64 (zaF t x)]) ∧ Le h h' ∧ St h w h' w' [o0_] ∧ OSl LStr 9 h' v0_ (((homR t x))) o0_) := by
 refine zL (n := 60) Tryz.func84 X X X<|have st0:=t_s0 hs;have t_f0_b:=t_f0.le;have x_f0_b:=x_f0.le;have x_f1_b:=x_f1.le;W.sr<|zC st0 (cs := [t_v0]) X X X<|fun b1 w2 h3 le4 hc5 st6=>zC st6 (cs := [x_v0, x_v1]) X X X<|fun b7 w8 h9 le10 hc11 st12=>zcv X X<|zt X X<|Y<|W.sr<|zx st12.sub (hc5.up le10) X zbg zas X X<|zx st12.sub hc11 X zbS zaG X X<|have l13:=le4.trans le10;zf st12 X X X Tryz.call117 X (c_stem_open st12.sub (t := t) (t_f0.up l13) (x := x) (x_f0.up l13) (x_f1.up l13) (K1.up l13))<|fun r14 w15 h16 le17 st18 q19=> ?_
 rcases Bool.eq_false_or_eq_true (decide (zaF (t) (x) = 0)) with hb20 | hb20
 ·
  simp only [hb20, if_true, if_false, Bool.false_eq_true, reduceIte] at q19
  obtain ⟨v21, rfl, f22⟩ := q19
  obtain ⟨b23, vs24, rfl, hc25, hr26⟩ := f22
  obtain ⟨v27, v29, v31, v33, rfl, f28, f30, f32, lm34⟩ := hr26
  have f28_b := f28.le
  have f30_b := f30.le
  have f32_b := f32.le
  refine zcF X X<|zO (v := (.pointer (some _))) X X X<|zO (v := (.int _ _)) X X X<|v_asP X X<|zt X X<|Y<|zm<|W.sr<|zg X X<|zcC X X X<|Y ?_
  refine zD rfl (fun c35 => ?_) (fun c35 => ?_)
  ·
   refine W.sr<|zg X X<|zcv X X<|zt X X<|Y<|zq<|zc<|zaS Tryz.results84 ?_
   have st36 := st18.snoc
   have f37 := OSl.nil LStr 9 h16
   refine ⟨h16, (.slice none 0 0), _, congrArg Ending.returned (tup2 rfl (zab ?_)), (l13.trans le17), st36.sublist (own' := [[]]) (.cons_cons _ (.slnil)), OSl.to f37 ?_⟩
   all_goals simp_all [homR]
  refine zw<|O<|zm ?_
  have hx0 : zaF t x = 0 := by simpa using c35
  have hel := entries_len (zdC hx0) x
  refine zn<|zfb (κ := Str) (υ := Head) (ek := strV) (eu := (fun x : Head => .agg [strV x.stem, .int .u8 x.mark].toArray)) st18 X<|fun v38 o39 w40 f41 st42=> ?_
  obtain ⟨mb43, rfl⟩ := f41.form
  have nd44 : (([] : List (Str × Head)).map (·.1)).Nodup := by simp
  refine zad (v := (.map (some mb43))) X X<|Y<|W.sr<|zcv X X<|Y<|zm<|W.sr<|v_mvP X X ?_
  have l45 := l13.trans le17
  refine zf st42 rfl rfl rfl Tryz.call118 rfl (c_stem_office_entries st42.sub (o := (Office.mk (x) (t) (zey (x)))) f28 f30 f32 lm34 hc25 (K1.up l45) (by exact ⟨hx0, rfl⟩)) ?_
  intro r46 w47 h48 le49 st50 q51
  obtain ⟨v52, e54, f53⟩ := q51
  rw [← e54] at f53
  have f53_b := f53.le
  have f55 := Sl.to f53 (show _ = (zbq t x) from rfl)
  have f55_b := f55.le
  refine zaL f55 X Tryz.underlying187 X<|zg X X<|Y<|zG ?_
  have st59 := st50.snoc
  have f60 := OSl.nil LStr 9 h48
  refine zau ([9, 11, 12, 13] ++ t_rg 27 29) (G := Nat × List (Str × Head) × Value × List (Nat × Obj) × List (Nat × Obj) × Heap) (fun ⟨i, m, v_9, o_9, o_8, h56⟩ => [(9, v_9), (27, .int .i64 (i : Int))]) (fun ⟨i, m, v_9, o_9, o_8, h56⟩ w' => Le h48 h56 ∧ St h w h56 w' [o_8, o_9] ∧ (OSl LStr 9 h56 v_9 (homsN (zbq t x) i) o_9) ∧ (OM strV (fun x : Head => .agg [strV x.stem, .int .u8 x.mark].toArray) (m) o_8 (.map (some mb43))) ∧ (((m).map (·.1)).Nodup) ∧ (i ≤ (zbq t x).length) ∧ (∀ wd, look m wd = zdn ((zbq t x).take i) wd)) (fun ⟨i, m, v_9, o_9, o_8, h56⟩ => (zbq t x).length - i) ⟨0, [], (.slice none 0 0), [], o39, h48⟩ ⟨rfl, rfl, trivial⟩ ⟨Le.refl _, st59, (OSl.to f60 (by rfl)), (by have q := f41; exact q), (by have q := nd44; exact q), zaW, (by intro wd; rfl)⟩ ?_
  rintro ⟨i, m, v_9, o_9, o_8, h56⟩ _ w61 ⟨le57, st58, hO_9, hM_8, hN_8, hi, hm⟩
  refine W.sr<|zaV X X X<|Y<|zm ?_
  refine zD rfl (fun c62 => ?_) (fun c62 => ?_)
  ·
   refine zw<|O<|zm<|zG<|W.sr ?_
   obtain ⟨y, hy⟩ : ∃ y_, ((zbq t x))[i]? = some y_ := t_ge (by omega)
   obtain ⟨b63, o64, _, he66, hc65, hr_y⟩ := Sl.elem (f55.up le57) hy
   obtain ⟨rfl, ls67, ls68, lu69⟩ := hr_y
   simp only [big] at ls67
   simp only [big] at ls68
   refine zU he66 X X (hk := X) (hu := Tryz.underlying187) (hz := Tryz.sizeOf190) X<|zx st58.sub hc65 X Tryz.isAgg190 Tryz.sizeOf190 X X<|zV st58 Tryz.zeroValue190 X X<|fun b70 w71 st72=>zN st72 (k := 2) X X X (za X (za X (za X (za X (za X (za X zar)))))) Tryz.sizeOf190 X X X<|fun w73 st74=> ?_
   obtain ⟨h75, le76, hb77, st79⟩ := st74.freeze (k := 2) rfl
   have hc78 := Cells.of hb77
   refine Y<|W.sr<|zS (v := (.map (some mb43))) X X<|E X zdu X zah X X<|U (j := 3) st79.sub hc78 X X X zap X<|ze X X (r_look_ok (k := (y.word)) (zu := zdd) (key_str zao) Tryz.underlying186 hM_8 (st79.ent (k := 0) X) zew X X X)<|zcF X X<|zO (v := (.agg (List.toArray _))) X X X<|zO (v := (.bool _)) X X X<|zV st79 zew X X<|fun b80 w81 st82=>zN st82 (k := 3) X X X (za X (za X zar)) zag X X X<|fun w83 st84=> ?_
   obtain ⟨h85, le86, hb87, st89⟩ := st84.freeze (k := 3) rfl
   have hc88 := Cells.of hb87
   refine zz X X<|Y<|W.sr<|zQ X X<|zQ X X ?_
   refine zaq (d := 39) rfl (fun g90 => ?_) (fun g90 => ?_)
   ·
    refine M X X X<|zx st89.sub hc88 X zbz zag X X<|M X X X<|E X zdu X zag X X<|M X X X<|zaf (j := 4) st89.sub (hc78.up le86) (us := [strV (y.head.stem), .int .u8 (y.head.mark)]) X X zbz zag X X X<|M X X X<|ze X X (r_stneq X X Tryz.eqGuardType72 (Tryz.eq_Head ((look m (y.word)).getD zdd) y.head))<|zM (v := (.bool _)) X X X<|Y ?_
    refine zD rfl (fun c91 => ?_) (fun c91 => ?_)
    ·
     refine zn<|zS (v := v_9) X X<|E X zdu X zah X X<|U (j := 3) st89.sub (hc78.up le86) X X X zap X<|zai (L := LStr) (xs := [(y.word)]) (cs := [strV (y.word)]) st89 (Enc.cons (L := LStr) (vs := [strV (y.word)]) (x := (y.word)) (h := h85) (⟨rfl, zbe⟩) Enc.nil) X X X zR Tryz.info9 X X X t_kr<|fun v92 w93 h96 le97 f94 st95=> ?_
     refine zdl (k := 1) (nb := 16) st95 (hO_9.up ((le76.trans le86).trans le97)) rfl f94 rfl rfl rfl zR Tryz.info9 rfl rfl rfl (by decide) rfl (by have q := zhe (zbq t x) i; simp only [List.length_append, List.length_cons, List.length_nil]; omega) (by have q := zhe (zbq t x) i; simp only [List.length_append, List.length_cons, List.length_nil]; omega) ?_
     intro v98 o99 w100 _ e101 f102 st103
     subst e101
     refine zad (v := v98) X X<|zp<|zK<|O<|zn<|zaD X X t_om X<|zg X X<|Y ?_
     have l104 := ((le57.trans le76).trans le86).trans le97
     refine ⟨⟨i + 1, m, v98, o99, o_8, h96⟩, ⟨rfl, rfl, trivial⟩, ?_, ⟨l104, st103.take 2, ?_, ?_, ?_, ?_, ?_⟩, ?_⟩
     ·exact zan
     ·refine OSl.to f102 ?_
      rw [homsN_succ hy, homAt_yes hm g90 (by simpa using c91)]
     ·have q := hM_8
      exact q
     ·have q := hN_8
      exact q
     ·first | omega | (simp; omega)
     ·exact hom_keep hy hm g90
     show (zbq t x).length - ((i + 1)) < (zbq t x).length - i
     omega
    refine zn<|zS (v := (.map (some mb43))) X X<|E X zdu X zah X X<|U (j := 3) st89.sub (hc78.up le86) X X X zap X<|E X zdu X zag X X<|zaf (j := 4) st89.sub (hc78.up le86) (us := [strV (y.head.stem), .int .u8 (y.head.mark)]) X X zbz zag X X X<|zeb (i := 0) st89 hM_8 X hN_8 (key_str zao) Tryz.underlying186 X (k := (y.word)) X (u := y.head) X<|fun o105 w106 _ e107 f108 nd109 st110=> ?_
    subst e107
    refine zp<|zK<|O<|zn<|zaD X X t_om X<|zg X X<|Y ?_
    refine ⟨⟨i + 1, (putM m y.word y.head), v_9, o_9, o105, h85⟩, ⟨rfl, rfl, trivial⟩, ?_, ⟨((le57.trans le76).trans le86), st110.take 2, ?_, ?_, ?_, ?_, ?_⟩, ?_⟩
    ·exact zan
    ·refine OSl.to (hO_9.up (le76.trans le86)) ?_
     rw [homsN_succ hy, homAt_no hm (fun _ => by simpa using c91), List.append_nil]
    ·have q := f108
     exact q
    ·have q := nd109
     exact q
    ·first | omega | (simp; omega)
    ·exact hom_put hy hm (fun _ => by simpa using c91)
    show (zbq t x).length - ((i + 1)) < (zbq t x).length - i
    omega
   refine Z X X X X X<|Z X X X X X<|Z X X X X X<|Z X X X X X<|zH (v := (.bool _)) X X X<|Y ?_
   refine zac rfl (fun c111 => ?_) (fun c111 => ?_)
   ·
    cases c111
   refine zn<|zS (v := (.map (some mb43))) X X<|E X zdu X zah X X<|U (j := 3) st89.sub (hc78.up le86) X X X zap X<|E X zdu X zag X X<|zaf (j := 4) st89.sub (hc78.up le86) (us := [strV (y.head.stem), .int .u8 (y.head.mark)]) X X zbz zag X X X<|zeb (i := 0) st89 hM_8 X hN_8 (key_str zao) Tryz.underlying186 X (k := (y.word)) X (u := y.head) X<|fun o112 w113 _ e114 f115 nd116 st117=> ?_
   subst e114
   refine zp<|zK<|O<|zn<|zaD X X t_om X<|zg X X<|Y ?_
   refine ⟨⟨i + 1, (putM m y.word y.head), v_9, o_9, o112, h85⟩, ⟨rfl, rfl, trivial⟩, ?_, ⟨((le57.trans le76).trans le86), st117.take 2, ?_, ?_, ?_, ?_, ?_⟩, ?_⟩
   ·exact zan
   ·refine OSl.to (hO_9.up (le76.trans le86)) ?_
    rw [homsN_succ hy, homAt_no hm (fun q => by rw [g90] at q; cases q), List.append_nil]
   ·have q := f115
    exact q
   ·have q := nd116
    exact q
   ·first | omega | (simp; omega)
   ·exact hom_put hy hm (fun q => by rw [g90] at q; cases q)
   show (zbq t x).length - ((i + 1)) < (zbq t x).length - i
   omega
  refine zaC<|zo<|zo<|zam<|O<|W.sr<|zS (v := v_9) X X ?_
  have con := sort1 (L := LStr) (T := 9) (f := 119) strV (by rintro _ _ _ ⟨rfl, _⟩; rfl) rfl (fun l => l.mergeSort fun a b => decide (a ≤ b)) (fun l => List.mergeSort_perm _ _) (fun blk off cap zs w hH hb hs => Tryz.slices_Sort_string blk off cap zs w hH hb hs) (fun p cap w => Tryz.slices_Sort_string_none p cap w) (i := 1) st58 hO_9 rfl (by have q := zhe (zbq t x) i; first | omega | (simp only [List.length_mergeSort]; omega))
  refine zat rfl rfl (zaT rfl Tryz.call119 rfl) (con.mono ?_)
  rintro _ w118 ⟨rfl, o119, _, e120, f121, st122⟩
  subst e120
  refine ⟨_, rfl, ?_⟩
  clear con
  refine Y<|W.sr<|zS (v := v_9) X X ?_
  have st130 := st122.sublist (own' := [o119]) (.cons _ (.cons_cons _ (.slnil)))
  have con := zgc (rest := []) f121 (by have q := zhe (zbq t x) i; first | omega | (simp only [List.length_mergeSort]; omega)) st130
  refine zat rfl rfl (zaT rfl Tryz.call120 rfl) (con.mono ?_)
  rintro _ w123 ⟨h124, o125, v126, rfl, le127, st128, f129⟩
  refine ⟨_, rfl, ?_⟩
  clear con
  have f131 := OSl.to f129 (show _ = (setL sLt (homsN (zbq t x) (zbq t x).length)) from by rw [show i = (zbq t x).length by omega]; exact setOf_sort _)
  refine zad (v := v126) X X<|zt X X<|Y<|zq<|zaS Tryz.results84 ?_
  refine ⟨h124, v126, _, congrArg Ending.returned (tup2 rfl (zab ?_)), (((l45.trans le49).trans le57).trans le127), st128.sublist (own' := [o125]) (.cons_cons _ (.slnil)), OSl.to f131 ?_⟩
  ·exact hx0.symm
  simp [homR, hx0]
 simp only [hb20, if_true, if_false, Bool.false_eq_true, reduceIte] at q19
 obtain ⟨v132, rfl, f133⟩ := q19
 obtain rfl := f133
 refine zcF X X<|zO (v := (.pointer none)) X X X<|zO (v := (.int _ _)) X X X<|zad X X<|zt X X<|Y<|zm<|W.sr<|zg X X<|zcC X X X<|Y ?_
 refine zD rfl (fun c134 => ?_) (fun c134 => ?_)
 ·
  refine W.sr<|zg X X<|zcv X X<|zt X X<|Y<|zq<|zc<|zaS Tryz.results84 ?_
  have st135 := st18.snoc
  have f136 := OSl.nil LStr 9 h16
  refine ⟨h16, (.slice none 0 0), _, congrArg Ending.returned (tup2 rfl (zab ?_)), (l13.trans le17), st135.sublist (own' := [[]]) (.cons_cons _ (.slnil)), OSl.to f136 ?_⟩
  all_goals simp_all [homR]
 exfalso
 simp_all
theorem c_vote_Moot_1 {h : Heap} {w : World} (hs : Sub h w) (wd : Str) (wd_le : wd.length ≤ 281474976710656) {still_b : Nat} {still_v : Value} {still : List (Str × Bool)} (still_f : FM strV (fun b : Bool => .bool b) h still still_v) (still_c : Cells h still_b 0 [still_v]) : Calls Tryz.prog 87 #[strV wd, .pointer (some ⟨still_b, 0, none⟩)] w (Rets h w (fun _ _ res_ => res_ = .bool (((look still wd).getD false)))) := by
 refine zL (n := 7) Tryz.func87 X X X<|have st0:=t_s0 hs;W.sr<|zz X X<|Y<|W.sr<|U (j := 0) st0.sub still_c X X X Tryz.isAgg137 X<|zbW X X<|ze X X (r_look_fm (k := wd) (zu := false) (key_str zao) Tryz.underlying137 still_f st0.sub zeV X X X)<|zz X X<|Y<|zq<|zb Tryz.results87 ?_
 refine ⟨h, _, rfl, st0.done, ?_⟩
 refine zr ?_
 rfl
set_option maxHeartbeats 4000000 in
theorem c_vote_Moot {h : Heap} {w : World} (hs : Sub h w) {p : Poll} {p_v0 : Value} (p_f0 : Sl LChapter h p_v0 p.text.chapters) {p_v1 : Value} (p_f1 : Sl LRule h p_v1 p.lexicon.rules) {p_v2 : Value} (p_f2 : Sl LDecision h p_v2 p.lexicon.decisions) {p_v3 : Value} (p_f3 : Sl LQuestion h p_v3 p.questions) {p_v4 : Value} (p_f4 : Sl LVoter h p_v4 p.voters) (K1 : Cells h 1 0 Tryz.glob1) (K0 : Cells h 0 0 Tryz.glob0) : Calls Tryz.prog 29 #[.agg #[p_v0, p_v1, p_v2, p_v3, p_v4]] w (Rets h w (fun h' _ res_ => ∃ u0, res_ = .tuple #[u0, .int .i64 (allE p true)] ∧ Sl LStr h' u0 ((mootR p)))) := by
 refine zL (n := 69) Tryz.func29 X X X<|have st0:=t_s0 hs;have p_f0_b:=p_f0.le;have p_f1_b:=p_f1.le;have p_f2_b:=p_f2.le;have p_f3_b:=p_f3.le;have p_f4_b:=p_f4.le;W.sr<|zC st0 (cs := [p_v0, p_v1, p_v2, p_v3, p_v4]) X X X<|fun b1 w2 h3 le4 hc5 st6=>zcv X X<|zt X X<|Y<|W.sr<|zx st6.sub hc5 X zbE zaY X X<|zf st6 X X X zgN X (zeK st6.sub (p := p) (p_f0.up le4) (p_f1.up le4) (p_f2.up le4) (p_f3.up le4) (p_f4.up le4) _ (K1.up le4) (K0.up le4))<|fun r7 w8 h9 le10 st11 q12=> ?_
 obtain ⟨v13, rfl, f14⟩ := q12
 have f14_b := f14.le
 refine zcF X X<|zO (v := v13) X X X<|zO (v := (.int _ _)) X X X<|zad (v := v13) X X<|zt X X<|Y<|zm<|W.sr<|zg X X<|zcC X X X<|Y ?_
 refine zD rfl (fun c15 => ?_) (fun c15 => ?_)
 ·
  refine W.sr<|zg X X<|zcv X X<|zt X X<|Y<|zq<|zc<|zaS Tryz.results29 ?_
  refine ⟨h9, _, rfl, st11.done, ?_⟩
  refine ⟨_, tup2 rfl (zab ?_), Sl.to (Sl.nil _ _) ?_⟩
  all_goals (simp_all [mootR])
 refine zw<|O<|zm ?_
 have hz0 : allE p true = 0 := by simpa using c15
 obtain ⟨hk1, hk2, hk3, hk4⟩ := zhS hz0
 have hk5 := List.length_pos_iff.2 hk3
 have hk6 : (allL p true).length = (zY p).length := by rw [hk4]
 have hk7 := zet (zbU hk1).2
 have hk8 := zcQ (zbU hk1).2
 have hpb := (zbU hk1).2
 have hx0 := (zbU hk1).1
 have ht0 := zdC hx0
 have hhl := homR_len hx0
 refine zn<|E X zB X zas X X<|zaf (j := 0) st11.sub (hc5.up le10) (us := [p_v0]) X X zbg zas X X X<|E X zB X zaG X X<|zaf (j := 1) st11.sub (hc5.up le10) (us := [p_v1, p_v2]) X X zbS zaG X X X ?_
 have l16 := le4.trans le10
 refine zat rfl rfl (zaT rfl Tryz.call84 rfl) ((c_stem_Homographs_own st11.sub (t := p.text) (p_f0.up l16) (x := p.lexicon) (p_f1.up l16) (p_f2.up l16) (K1.up l16)).mono ?_)
 rintro _ w17 ⟨h18, v22, o23, rfl, le19, s21, f24⟩
 refine ⟨_, rfl, ?_⟩
 have st20 := st11.call s21
 refine zcF X X<|zO (v := v22) X X X<|zO (v := (.int _ _)) X X X<|zad (v := v22) X X<|zt X X<|Y<|W.sr<|zfb (κ := Str) (υ := Bool) (ek := strV) (eu := (fun b : Bool => .bool b)) st20 X<|fun v25 o26 w27 f28 st29=> ?_
 obtain ⟨mb30, rfl⟩ := f28.form
 have nd31 : (([] : List (Str × Bool)).map (·.1)).Nodup := by simp
 refine zV st29 Tryz.zeroValue137 X X<|fun b32 w33 st34=>zaJ st34 (k := 2) X X (v := (.map (some mb30))) X f28.one Tryz.sizeOf137 X X X<|fun w35 st36=> ?_
 obtain ⟨h37, le38, hb39, st41⟩ := st36.freeze (k := 2) rfl
 have hc40 := Cells.of hb39
 refine Y<|zm<|W.sr<|zS (v := v22) X X<|zfB (f24.up le38) X zR X<|zg X X<|Y<|zG ?_
 refine zau ([10] ++ t_rg 34 7) (G := Nat × List (Str × Bool) × List (Nat × Obj) × Heap) (fun ⟨k, m, o_31, h42⟩ => [(34, .int .i64 (k : Int))]) (fun ⟨k, m, o_31, h42⟩ w' => Le h37 h42 ∧ St h w h42 w' [o23, o_31, []] ∧ (OM strV (fun b : Bool => .bool b) (m) o_31 (.map (some mb30))) ∧ (((m).map (·.1)).Nodup) ∧ (k ≤ (homR p.text p.lexicon).length) ∧ (∀ w, look m w = if w ∈ (homR p.text p.lexicon).take k then some true else none)) (fun ⟨k, m, o_31, h42⟩ => (homR p.text p.lexicon).length - k) ⟨0, [], o26, h37⟩ ⟨rfl, trivial⟩ ⟨Le.refl _, st41, (by have q := f28; exact q), (by have q := nd31; exact q), zaW, (by intro w; simp [look])⟩ ?_
 rintro ⟨k, m, o_31, h42⟩ _ w45 ⟨le43, st44, hM_31, hN_31, hk, hm⟩
 refine W.sr<|zaV X X X<|Y<|zm ?_
 refine zD rfl (fun c46 => ?_) (fun c46 => ?_)
 ·
  refine zw<|O<|zm<|zG<|W.sr ?_
  obtain ⟨wd, hwd⟩ : ∃ y_, ((((homR (p.text) (p.lexicon)))))[k]? = some y_ := t_ge (by omega)
  obtain ⟨b47, o48, cur49, _, e52, he50, hr_wd, hc51⟩ := OSl.elem (f24.up (le38.trans le43)) hwd
  subst e52
  obtain ⟨rfl, ls53⟩ := hr_wd
  simp only [big] at ls53
  refine zU he50 X X (hk := X) (hu := zR) (hz := zah) X<|ze X X (zcw (j := 0) (st44.get (k := 0) X) hc51 X X X zap)<|zfc X X<|Y<|zn<|U (j := 0) st44.sub (hc40.up le43) X X X Tryz.isAgg137 X<|zbW X X<|zeb (i := 1) st44 hM_31 X hN_31 (key_str zao) Tryz.underlying137 X (k := wd) X (u := true) X<|fun o54 w55 _ e56 f57 nd58 st59=> ?_
  subst e56
  refine zp<|zK<|O<|zn<|zaD X X t_om X<|zg X X<|Y ?_
  refine ⟨⟨k + 1, (putM m wd true), o54, h42⟩, ⟨rfl, trivial⟩, ?_, ⟨le43, st59, ?_, ?_, ?_, ?_⟩, ?_⟩
  ·exact zan
  ·have q := f57
   exact q
  ·have q := nd58
   exact q
  ·first | omega | (simp; omega)
  ·exact still_put hwd hm
  show (homR p.text p.lexicon).length - ((k + 1)) < (homR p.text p.lexicon).length - k
  omega
 refine zaC<|zo<|zo<|zam<|O<|zm<|W.sr<|zS (v := v13) X X ?_
 refine zf st44 rfl rfl rfl Tryz.call78 rfl (zhs st44.sub (f14.up ((le19.trans le38).trans le43)) (by omega) (by intro t_ ht_; rw [hk4] at ht_; exact zdA ht_) (by omega)) ?_
 intro r60 w61 h62 le63 st64 q65
 obtain ⟨v66, e68, f67⟩ := q65
 rw [← e68] at f67
 have f67_b := f67.le
 have f69 := Sl.to f67 (show _ = (zcV (zY p)) from by rw [hk4])
 have f69_b := f69.le
 refine zaL f69 X zh X<|zg X X<|Y<|zG ?_
 refine zau ([11, 12, 13, 14] ++ t_rg 44 22) (G := Nat × List (Str × Bool) × List (Nat × Obj) × Heap) (fun ⟨k2, m2, o_31, h70⟩ => [(44, .int .i64 (k2 : Int))]) (fun ⟨k2, m2, o_31, h70⟩ w' => Le h62 h70 ∧ St h w h70 w' [o23, o_31, []] ∧ (OM strV (fun b : Bool => .bool b) (m2) o_31 (.map (some mb30))) ∧ (((m2).map (·.1)).Nodup) ∧ (k2 ≤ (zcV (zY p)).length) ∧ (∀ w, look m2 w = zgi (homR p.text p.lexicon) p (zcV (zY p)) k2 w)) (fun ⟨k2, m2, o_31, h70⟩ => (zcV (zY p)).length - k2) ⟨0, m, o_31, h62⟩ ⟨rfl, trivial⟩ ⟨Le.refl _, st64, (by have q := hM_31; exact q), (by have q := hN_31; exact q), zaW, (by exact still_zero (by omega) hm)⟩ ?_
 rintro ⟨k2, m2, o_31, h70⟩ _ w73 ⟨le71, st72, hM_31, hN_31, hk2, hm2⟩
 refine W.sr<|zaV X X X<|Y<|zm ?_
 refine zD rfl (fun c74 => ?_) (fun c74 => ?_)
 ·
  refine zw<|O<|zm<|zG<|W.sr<|zg X X ?_
  obtain ⟨ch, hch⟩ : ∃ y_, ((zcV (zY p)))[k2]? = some y_ := t_ge (by omega)
  obtain ⟨b75, o76, _, he78, hc77, hr_ch⟩ := Sl.elem (f69.up le71) hch
  obtain rfl := hr_ch
  refine zU he78 X X (hk := X) (hu := zh) (hz := zl) X<|U (j := 0) st72.sub hc77 X X X zy X<|zt X X<|zt X X<|Y<|zm ?_
  have hk9 : k2 < p.questions.length := by have q_ := set_len7 hk3; omega
  refine zbT Tryz.mixed t_kr (Cls h70 _) (Cls.drew st72)<|zaa X zB X zas X X<|have l79:=((((le10.trans le19).trans le38).trans le43).trans le63).trans le71;zF X X (fun _ hC => (zcU (j := 0) hC.sub (hc5.up l79) (us := [p_v0]) X X zbg zas X X))<|zaa X zB X zbj X X<|zF X X (fun _ hC => (zi (j := 3) hC.sub (hc5.up l79) X X X zbA))<|zdx X X ?_
  obtain ⟨q, hq⟩ : ∃ y_, (p.questions)[k2]? = some y_ := t_ge (by omega)
  have l84 := ((((l16.trans le19).trans le38).trans le43).trans le63).trans le71
  obtain ⟨b80, o81, _, he83, hc82, hr_q⟩ := Sl.elem (p_f3.up l84) hq
  obtain ⟨v85, rfl, f86⟩ := hr_q
  have f86_b := f86.le
  refine zcG he83 X X (hk := X) (hu := zay) (hz := zbZ) X<|zaa X zaw X zT X X<|zF X X (fun _ hC => (zcU (j := 0) hC.sub hc82 (us := [.int .i64 (q.at_.chapter), .int .i64 (q.at_.line), .int .i64 (q.at_.word)]) X X zaI zT X X)) ?_
  refine zcI rfl rfl (fun _ => zaT rfl Tryz.call85 rfl) (fun _ hC => Rets.quiet hC (by have con := (zgt hC.sub (t := p.text) (p_f0.up l84) (p := q.at_)); rw [at_word ht0, at_err ht0 (zgp hpb hq).1] at con; exact con)) ?_
  refine u_mvT X X<|u_extract (v := (strV _)) X X X<|u_extract (v := (.int _ _)) X X X<|u_asS X X<|u_asI X X<|zby ?_
  rintro w87 ⟨h88, s89⟩
  have st90 := st72.call0 s89
  refine O<|W.sr<|zg X X<|zaV X X X<|Y ?_
  refine zD rfl (fun c91 => ?_) (fun c91 => ?_)
  ·
   refine zn<|have l92:=((le43.trans le63).trans le71).trans s89.le;U (j := 0) st90.sub (hc40.up l92) X X X Tryz.isAgg137 X<|zbW X X<|OpsL.mapDelete (i := 1) st90 hM_31 X hN_31 (key_str zao) Tryz.underlying137 X (k := ((zcb p.text q.at_))) X<|fun o93 w94 _ e95 f96 nd97 st98=> ?_
   subst e95
   refine zp<|zK<|O<|zn<|zaD X X t_om X<|zg X X<|Y ?_
   refine ⟨⟨k2 + 1, (delM m2 (zcb p.text q.at_)), o93, h88⟩, ⟨rfl, trivial⟩, ?_, ⟨(le71.trans s89.le), st98, ?_, ?_, ?_, ?_⟩, ?_⟩
   ·exact zan
   ·have q := f96
    exact q
   ·have q := nd97
    exact q
   ·first | omega | (simp; omega)
   ·exact still_del hq hch c91 hm2
   show (zcV (zY p)).length - ((k2 + 1)) < (zcV (zY p)).length - k2
   omega
  refine zw<|zK<|O<|zn<|zaD X X t_om X<|zg X X<|Y ?_
  refine ⟨⟨k2 + 1, m2, o_31, h88⟩, ⟨rfl, trivial⟩, ?_, ⟨(le71.trans s89.le), st90, ?_, ?_, ?_, ?_⟩, ?_⟩
  ·exact zan
  ·have q := hM_31
   exact q
  ·have q := hN_31
   exact q
  ·first | omega | (simp; omega)
  ·exact still_skip hq hch c91 hm2
  show (zcV (zY p)).length - ((k2 + 1)) < (zcV (zY p)).length - k2
  omega
 refine zaC<|zo<|zo<|zam<|O<|zm ?_
 obtain ⟨h99, le100, f101, st102⟩ := OM.freeze (k := 1) st72 hM_31 rfl
 refine zn<|zS (v := v22) X X<|zct X X X ?_
 have st103 := st102.take 1
 have con := zfz (rest := []) (f24.up ((((le38.trans le43).trans le63).trans le71).trans le100)) (g := 87) (caps := [.pointer (some ⟨b32, 0, none⟩)]) (fun x_ => ((look (m2) (x_)).getD false)) (by omega) Tryz.call87 (fun x_ h_ w_ vs_ le_ hs_ hx_ hr_ u_ hu_ => by cases hu_; obtain ⟨hr1_, hr2_⟩ := hr_; cases hr1_; simp only [big] at hr2_; exact c_vote_Moot_1 hs_ _ hr2_ (f101.up le_) ((hc40.up (((le43.trans le63).trans le71).trans le100)).up le_)) st103
 refine zat rfl rfl (zaT rfl Tryz.call86 rfl) (con.mono ?_)
 rintro _ w104 ⟨h105, o106, v107, rfl, le108, st109, f110⟩
 refine ⟨_, rfl, ?_⟩
 clear con
 refine zad (v := v107) X X<|zt X X<|Y<|zq<|zaS Tryz.results29 ?_
 obtain ⟨h111, le112, f113, st114⟩ := OSl.freeze (k := 0) st109 f110 rfl (by refine Nat.le_trans (List.length_filter_le _ _) ?_; omega)
 refine ⟨h111, _, rfl, st114.done, ?_⟩
 refine ⟨_, tup2 rfl (zab ?_), Sl.to f113 ?_⟩
 all_goals first | (simp_all [mootR]; done) | (rw [mootR, if_pos hz0]; rw [show (zcV (zY p)).length = k2 by omega]; exact still_filter hm2)
end Go.Pk

namespace Go.Pk
open Go Go.RowKit Go.Proofs
theorem zeT {h : Heap} {w : World} (hs : Sub h w) (chapter : Int) (line : Int) (word : Int) : Calls Tryz.prog 38 #[.int .i64 chapter, .int .i64 line, .int .i64 word] w (Rets h w (fun _ _ res_ => res_ = .agg #[.int .i64 ((Place.mk chapter line word)).chapter, .int .i64 ((Place.mk chapter line word)).line, .int .i64 ((Place.mk chapter line word)).word])) := by
 refine zL (n := 11) Tryz.func38 X X X<|have st0:=t_s0 hs;W.sr<|zV st0 Tryz.zeroValue70 X X<|fun b1 w2 st3=>Y<|W.sr<|zg X X<|zg X X<|zg X X<|ze X X (zbn (cs := [.int .i64 chapter, .int .i64 line, .int .i64 word]) t_kr)<|zN st3 (k := 0) X X X (za X (za X (za X zar))) zT X X X<|fun w4 st5=> ?_
 obtain ⟨h6, le7, hb8, st10⟩ := st5.freeze (k := 0) rfl
 have hc9 := Cells.of hb8
 refine Y<|zq<|zfo Tryz.results38 X zaI zT X st10.sub hc9 ?_
 refine ⟨h6, _, rfl, st10.done, ?_⟩
 refine ?_
 all_goals rfl
theorem zfi {h : Heap} {w : World} (hs : Sub h w) (a : Str) (a_le : a.length ≤ 281474976710656) (m : Int) (m_l : 0 ≤ m ∧ m ≤ 255) (b : Str) (b_le : b.length ≤ 281474976710656) (n : Int) (n_l : 0 ≤ n ∧ n ≤ 255) : Calls Tryz.prog 93 #[strV a, .int .u8 m, strV b, .int .u8 n] w (Rets h w (fun h' _ res_ => ∃ u0, res_ = u0 ∧ Sl LHead h' u0 (([Head.mk a m, Head.mk b n] : List Head)))) := by
 refine zL (n := 16) Tryz.func93 X X X<|have st0:=t_s0 hs;W.sr<|zcv X X<|Y<|W.sr<|zbW X X<|zg X X<|ze X X (zbn (cs := [strV a, .int .u8 m]) t_kr)<|zbW X X<|zg X X<|ze X X (zbn (cs := [strV b, .int .u8 n]) t_kr) ?_
 refine zai (L := LHead) (xs := [(Head.mk (a) (m)), (Head.mk (b) (n))]) (cs := [strV a, .int .u8 m, strV b, .int .u8 n]) st0 (Enc.cons (L := LHead) (vs := [strV a, .int .u8 m]) (x := (Head.mk (a) (m))) (h := h) (⟨rfl, by first | assumption | decide | omega | (simp [big]; done) | (simp [big]; omega), t_u8⟩) (Enc.cons (L := LHead) (vs := [strV b, .int .u8 n]) (x := (Head.mk (b) (n))) (h := h) (⟨rfl, by first | assumption | decide | omega | (simp [big]; done) | (simp [big]; omega), t_u8⟩) Enc.nil)) rfl rfl rfl zaU Tryz.info72 rfl rfl rfl t_kr ?_
 intro v1 w2 h5 le6 f3 st4
 refine zad (v := v1) X X<|Y<|zq<|zb Tryz.results93 ?_
 refine ⟨h5, _, rfl, st4.done, ?_⟩
 refine ⟨_, rfl, Sl.to f3 ?_⟩
 all_goals rfl
theorem zdD {h : Heap} {w : World} (hs : Sub h w)  : Calls Tryz.prog 35 #[] w (Rets h w (fun h' _ res_ => ∃ u0 u1 u2 u3 u4, res_ = .agg #[u0, u1, u2, u3, u4] ∧ Sl LChapter h' u0 (zcY).text.chapters ∧ Sl LRule h' u1 (zcY).lexicon.rules ∧ Sl LDecision h' u2 (zcY).lexicon.decisions ∧ Sl LQuestion h' u3 (zcY).questions ∧ Sl LVoter h' u4 (zcY).voters)) := by
 refine zL (n := 33) Tryz.func35 X X X<|have st0:=t_s0 hs;W.sr<|zV st0 Tryz.zeroValue32 X X<|fun b1 w2 st3=>Y<|W.sr ?_
 refine zai (L := LStr) (xs := [wThe, wSea, wIs, wOld]) (cs := [strV wThe, strV wSea, strV wIs, strV wOld]) st3 (Enc.cons (L := LStr) (vs := [strV wThe]) (x := wThe) (h := h) (⟨rfl, by first | assumption | decide | omega | (simp [big]; done) | (simp [big]; omega)⟩) (Enc.cons (L := LStr) (vs := [strV wSea]) (x := wSea) (h := h) (⟨rfl, by first | assumption | decide | omega | (simp [big]; done) | (simp [big]; omega)⟩) (Enc.cons (L := LStr) (vs := [strV wIs]) (x := wIs) (h := h) (⟨rfl, by first | assumption | decide | omega | (simp [big]; done) | (simp [big]; omega)⟩) (Enc.cons (L := LStr) (vs := [strV wOld]) (x := wOld) (h := h) (⟨rfl, by first | assumption | decide | omega | (simp [big]; done) | (simp [big]; omega)⟩) Enc.nil)))) rfl rfl rfl zR Tryz.info9 rfl rfl rfl t_kr ?_
 intro v4 w5 h8 le9 f6 st7
 refine zai (L := LStr) (xs := [wOld, wThe, wSea]) (cs := [strV wOld, strV wThe, strV wSea]) st7 (Enc.cons (L := LStr) (vs := [strV wOld]) (x := wOld) (h := h8) (⟨rfl, by first | assumption | decide | omega | (simp [big]; done) | (simp [big]; omega)⟩) (Enc.cons (L := LStr) (vs := [strV wThe]) (x := wThe) (h := h8) (⟨rfl, by first | assumption | decide | omega | (simp [big]; done) | (simp [big]; omega)⟩) (Enc.cons (L := LStr) (vs := [strV wSea]) (x := wSea) (h := h8) (⟨rfl, by first | assumption | decide | omega | (simp [big]; done) | (simp [big]; omega)⟩) Enc.nil))) rfl rfl rfl zR Tryz.info9 rfl rfl rfl t_kr ?_
 intro v10 w11 h14 le15 f12 st13
 refine zai (L := (LSl LStr)) (xs := [[wThe, wSea, wIs, wOld], [wOld, wThe, wSea]]) (cs := [v4, v10]) st13 (Enc.cons (L := (LSl LStr)) (vs := [v4]) (x := [wThe, wSea, wIs, wOld]) (h := h14) (⟨_, rfl, (f6.up le15)⟩) (Enc.cons (L := (LSl LStr)) (vs := [v10]) (x := [wOld, wThe, wSea]) (h := h14) (⟨_, rfl, f12⟩) Enc.nil)) rfl rfl rfl zaR Tryz.info60 rfl rfl rfl (by obtain ⟨_, _, rfl⟩ := Sl.form f6; obtain ⟨_, _, rfl⟩ := Sl.form f12; kernel_rfl) ?_
 intro v16 w17 h20 le21 f18 st19
 refine ze rfl rfl (zbn (cs := [.int .i64 7, v16]) (by obtain ⟨_, _, rfl⟩ := Sl.form f18; kernel_rfl)) ?_
 refine zai (L := LStr) (xs := [wSea, wAnd, wSea]) (cs := [strV wSea, strV wAnd, strV wSea]) st19 (Enc.cons (L := LStr) (vs := [strV wSea]) (x := wSea) (h := h20) (⟨rfl, by first | assumption | decide | omega | (simp [big]; done) | (simp [big]; omega)⟩) (Enc.cons (L := LStr) (vs := [strV wAnd]) (x := wAnd) (h := h20) (⟨rfl, by first | assumption | decide | omega | (simp [big]; done) | (simp [big]; omega)⟩) (Enc.cons (L := LStr) (vs := [strV wSea]) (x := wSea) (h := h20) (⟨rfl, by first | assumption | decide | omega | (simp [big]; done) | (simp [big]; omega)⟩) Enc.nil))) rfl rfl rfl zR Tryz.info9 rfl rfl rfl t_kr ?_
 intro v22 w23 h26 le27 f24 st25
 refine zai (L := (LSl LStr)) (xs := [[wSea, wAnd, wSea]]) (cs := [v22]) st25 (Enc.cons (L := (LSl LStr)) (vs := [v22]) (x := [wSea, wAnd, wSea]) (h := h26) (⟨_, rfl, f24⟩) Enc.nil) rfl rfl rfl zaR Tryz.info60 rfl rfl rfl (by obtain ⟨_, _, rfl⟩ := Sl.form f24; kernel_rfl) ?_
 intro v28 w29 h32 le33 f30 st31
 refine ze rfl rfl (zbn (cs := [.int .i64 3, v28]) (by obtain ⟨_, _, rfl⟩ := Sl.form f30; kernel_rfl)) ?_
 refine zai (L := LChapter) (xs := [(Chapter.mk (7) ([[wThe, wSea, wIs, wOld], [wOld, wThe, wSea]])), (Chapter.mk (3) ([[wSea, wAnd, wSea]]))]) (cs := [.int .i64 7, v16, .int .i64 3, v28]) st31 (Enc.cons (L := LChapter) (vs := [.int .i64 7, v16]) (x := (Chapter.mk (7) ([[wThe, wSea, wIs, wOld], [wOld, wThe, wSea]]))) (h := h32) (⟨_, X, (f18.up (le27.trans le33))⟩) (Enc.cons (L := LChapter) (vs := [.int .i64 3, v28]) (x := (Chapter.mk (3) ([[wSea, wAnd, wSea]]))) (h := h32) (⟨_, X, f30⟩) Enc.nil)) X X X zaO Tryz.info152 X X X t_kr<|fun v34 w35 h38 le39 f36 st37=> ?_
 refine ze rfl rfl (zbn (cs := [v34]) (by obtain ⟨_, _, rfl⟩ := Sl.form f36; kernel_rfl)) ?_
 refine zf st37 X X X Tryz.call38 X (zeT st37.sub _ _ _)<|fun r40 w41 h42 le43 st44 q45=> ?_
 obtain rfl := q45
 refine ze X X (zbn (cs := [strV wSee, .int .u8 2]) t_kr)<|ze X X (zbn (cs := [.int .i64 1, .int .u8 3, strV [], .int .i64 ((Place.mk (1) (0) (2)).chapter), .int .i64 ((Place.mk (1) (0) (2)).line), .int .i64 ((Place.mk (1) (0) (2)).word), strV wSee, .int .u8 2, .int .i64 0]) t_kr) ?_
 refine zai (L := LDecision) (xs := [({ zcf with number := 1, kind := 3, at_ := (Place.mk (1) (0) (2)), to := (Head.mk (wSee) (2)) } : Decision)]) (cs := [.int .i64 1, .int .u8 3, strV [], .int .i64 ((Place.mk (1) (0) (2)).chapter), .int .i64 ((Place.mk (1) (0) (2)).line), .int .i64 ((Place.mk (1) (0) (2)).word), strV wSee, .int .u8 2, .int .i64 0]) st44 (Enc.cons (L := LDecision) (vs := [.int .i64 1, .int .u8 3, strV [], .int .i64 ((Place.mk (1) (0) (2)).chapter), .int .i64 ((Place.mk (1) (0) (2)).line), .int .i64 ((Place.mk (1) (0) (2)).word), strV wSee, .int .u8 2, .int .i64 0]) (x := ({ zcf with number := 1, kind := 3, at_ := (Place.mk (1) (0) (2)), to := (Head.mk (wSee) (2)) } : Decision)) (h := h42) (⟨rfl, t_u8, by first | assumption | decide | omega | (simp [big]; done) | (simp [big]; omega), by first | assumption | decide | omega | (simp [big]; done) | (simp [big]; omega), t_u8⟩) Enc.nil) rfl rfl rfl zaN Tryz.info74 rfl rfl rfl t_kr ?_
 intro v46 w47 h50 le51 f48 st49
 refine ze rfl rfl (zbn (cs := [(.slice none 0 0), v46]) (by obtain ⟨_, _, rfl⟩ := Sl.form f48; kernel_rfl)) ?_
 refine zf st49 X X X Tryz.call38 X (zeT st49.sub _ _ _)<|fun r52 w53 h54 le55 st56 q57=> ?_
 obtain rfl := q57
 refine zf st56 rfl rfl rfl Tryz.call93 rfl (zfi st56.sub _ (by first | assumption | decide | omega | (simp [big]; done) | (simp [big]; omega)) _ (by omega) _ (by first | assumption | decide | omega | (simp [big]; done) | (simp [big]; omega)) _ (by omega)) ?_
 intro r58 w59 h60 le61 st62 q63
 obtain ⟨v64, e66, f65⟩ := q63
 rw [← e66] at f65
 have f65_b := f65.le
 refine ze rfl rfl (zbn (cs := [.int .i64 ((Place.mk (0) (0) (1)).chapter), .int .i64 ((Place.mk (0) (0) (1)).line), .int .i64 ((Place.mk (0) (0) (1)).word), r58]) (by obtain ⟨_, _, rfl⟩ := Sl.form f65; kernel_rfl)) ?_
 refine zf st62 X X X Tryz.call38 X (zeT st62.sub _ _ _)<|fun r67 w68 h69 le70 st71 q72=> ?_
 obtain rfl := q72
 refine zf st71 rfl rfl rfl Tryz.call93 rfl (zfi st71.sub _ (by first | assumption | decide | omega | (simp [big]; done) | (simp [big]; omega)) _ (by omega) _ (by first | assumption | decide | omega | (simp [big]; done) | (simp [big]; omega)) _ (by omega)) ?_
 intro r73 w74 h75 le76 st77 q78
 obtain ⟨v79, e81, f80⟩ := q78
 rw [← e81] at f80
 have f80_b := f80.le
 refine ze rfl rfl (zbn (cs := [.int .i64 ((Place.mk (0) (0) (3)).chapter), .int .i64 ((Place.mk (0) (0) (3)).line), .int .i64 ((Place.mk (0) (0) (3)).word), r73]) (by obtain ⟨_, _, rfl⟩ := Sl.form f80; kernel_rfl)) ?_
 refine zf st77 X X X Tryz.call38 X (zeT st77.sub _ _ _)<|fun r82 w83 h84 le85 st86 q87=> ?_
 obtain rfl := q87
 refine zf st86 rfl rfl rfl Tryz.call93 rfl (zfi st86.sub _ (by first | assumption | decide | omega | (simp [big]; done) | (simp [big]; omega)) _ (by omega) _ (by first | assumption | decide | omega | (simp [big]; done) | (simp [big]; omega)) _ (by omega)) ?_
 intro r88 w89 h90 le91 st92 q93
 obtain ⟨v94, e96, f95⟩ := q93
 rw [← e96] at f95
 have f95_b := f95.le
 refine ze rfl rfl (zbn (cs := [.int .i64 ((Place.mk (1) (0) (0)).chapter), .int .i64 ((Place.mk (1) (0) (0)).line), .int .i64 ((Place.mk (1) (0) (0)).word), r88]) (by obtain ⟨_, _, rfl⟩ := Sl.form f95; kernel_rfl)) ?_
 have l97 := ((le70.trans le76).trans le85).trans le91
 refine zai (L := LQuestion) (xs := [(Question.mk ((Place.mk (0) (0) (1))) (([Head.mk (wSea) (1), Head.mk (wSee) (2)] : List Head))), (Question.mk ((Place.mk (0) (0) (3))) (([Head.mk (wAge) (3), Head.mk (wOld) (0)] : List Head))), (Question.mk ((Place.mk (1) (0) (0))) (([Head.mk (wSea) (1), Head.mk (wSee) (2)] : List Head)))]) (cs := [.int .i64 ((Place.mk (0) (0) (1)).chapter), .int .i64 ((Place.mk (0) (0) (1)).line), .int .i64 ((Place.mk (0) (0) (1)).word), r58, .int .i64 ((Place.mk (0) (0) (3)).chapter), .int .i64 ((Place.mk (0) (0) (3)).line), .int .i64 ((Place.mk (0) (0) (3)).word), r73, .int .i64 ((Place.mk (1) (0) (0)).chapter), .int .i64 ((Place.mk (1) (0) (0)).line), .int .i64 ((Place.mk (1) (0) (0)).word), r88]) st92 (Enc.cons (L := LQuestion) (vs := [.int .i64 ((Place.mk (0) (0) (1)).chapter), .int .i64 ((Place.mk (0) (0) (1)).line), .int .i64 ((Place.mk (0) (0) (1)).word), r58]) (x := (Question.mk ((Place.mk (0) (0) (1))) (([Head.mk (wSea) (1), Head.mk (wSee) (2)] : List Head)))) (h := h90) (⟨_, X, (f65.up l97)⟩) (Enc.cons (L := LQuestion) (vs := [.int .i64 ((Place.mk (0) (0) (3)).chapter), .int .i64 ((Place.mk (0) (0) (3)).line), .int .i64 ((Place.mk (0) (0) (3)).word), r73]) (x := (Question.mk ((Place.mk (0) (0) (3))) (([Head.mk (wAge) (3), Head.mk (wOld) (0)] : List Head)))) (h := h90) (⟨_, X, (f80.up (le85.trans le91))⟩) (Enc.cons (L := LQuestion) (vs := [.int .i64 ((Place.mk (1) (0) (0)).chapter), .int .i64 ((Place.mk (1) (0) (0)).line), .int .i64 ((Place.mk (1) (0) (0)).word), r88]) (x := (Question.mk ((Place.mk (1) (0) (0))) (([Head.mk (wSea) (1), Head.mk (wSee) (2)] : List Head)))) (h := h90) (⟨_, X, f95⟩) Enc.nil))) X X X zay Tryz.info84 X X X t_kr<|fun v98 w99 h102 le103 f100 st101=>zai (L := LInt) (xs := [(-1), 1, (-1)]) (cs := [.int .i64 (-1), .int .i64 1, .int .i64 (-1)]) st101 (Enc.cons (L := LInt) (vs := [.int .i64 (-1)]) (x := (-1)) (h := h102) (X) (Enc.cons (L := LInt) (vs := [.int .i64 1]) (x := 1) (h := h102) (X) (Enc.cons (L := LInt) (vs := [.int .i64 (-1)]) (x := (-1)) (h := h102) (X) Enc.nil))) X X X zh Tryz.info3 X X X t_kr<|fun v104 w105 h108 le109 f106 st107=> ?_
 refine ze rfl rfl (zbn (cs := [.int .i64 5, .int .i64 0, v104]) (by obtain ⟨_, _, rfl⟩ := Sl.form f106; kernel_rfl)) ?_
 refine zai (L := LInt) (xs := [0, 0, 0]) (cs := [.int .i64 0, .int .i64 0, .int .i64 0]) st107 (Enc.cons (L := LInt) (vs := [.int .i64 0]) (x := 0) (h := h108) (X) (Enc.cons (L := LInt) (vs := [.int .i64 0]) (x := 0) (h := h108) (X) (Enc.cons (L := LInt) (vs := [.int .i64 0]) (x := 0) (h := h108) (X) Enc.nil))) X X X zh Tryz.info3 X X X t_kr<|fun v110 w111 h114 le115 f112 st113=> ?_
 refine ze rfl rfl (zbn (cs := [.int .i64 2, .int .i64 1, v110]) (by obtain ⟨_, _, rfl⟩ := Sl.form f112; kernel_rfl)) ?_
 refine zai (L := LInt) (xs := [0, (-1), 1]) (cs := [.int .i64 0, .int .i64 (-1), .int .i64 1]) st113 (Enc.cons (L := LInt) (vs := [.int .i64 0]) (x := 0) (h := h114) (X) (Enc.cons (L := LInt) (vs := [.int .i64 (-1)]) (x := (-1)) (h := h114) (X) (Enc.cons (L := LInt) (vs := [.int .i64 1]) (x := 1) (h := h114) (X) Enc.nil))) X X X zh Tryz.info3 X X X t_kr<|fun v116 w117 h120 le121 f118 st119=> ?_
 refine ze rfl rfl (zbn (cs := [.int .i64 8, .int .i64 1, v116]) (by obtain ⟨_, _, rfl⟩ := Sl.form f118; kernel_rfl)) ?_
 refine zai (L := LVoter) (xs := [(Voter.mk 5 0 ([(-1), 1, (-1)])), (Voter.mk (2) (1) ([0, 0, 0])), (Voter.mk (8) (1) ([0, (-1), 1]))]) (cs := [.int .i64 5, .int .i64 0, v104, .int .i64 2, .int .i64 1, v110, .int .i64 8, .int .i64 1, v116]) st119 (Enc.cons (L := LVoter) (vs := [.int .i64 5, .int .i64 0, v104]) (x := (Voter.mk 5 0 ([(-1), 1, (-1)]))) (h := h120) (⟨_, X, (f106.up (le115.trans le121))⟩) (Enc.cons (L := LVoter) (vs := [.int .i64 2, .int .i64 1, v110]) (x := (Voter.mk (2) (1) ([0, 0, 0]))) (h := h120) (⟨_, X, (f112.up le121)⟩) (Enc.cons (L := LVoter) (vs := [.int .i64 8, .int .i64 1, v116]) (x := (Voter.mk (8) (1) ([0, (-1), 1]))) (h := h120) (⟨_, X, f118⟩) Enc.nil))) X X X zax Tryz.info79 X X X t_kr<|fun v122 w123 h126 le127 f124 st125=> ?_
 refine ze rfl rfl (zbn (cs := [v34, (.slice none 0 0), v46, v98, v122]) (by obtain ⟨_, _, rfl⟩ := Sl.form f36; obtain ⟨_, _, rfl⟩ := Sl.form f48; obtain ⟨_, _, rfl⟩ := Sl.form f100; obtain ⟨_, _, rfl⟩ := Sl.form f124; kernel_rfl)) ?_
 refine zN st125 (k := 0) X X X (za f36.one (za X (za f48.one (za f100.one (za f124.one zar))))) zaY X X X<|fun w128 st129=> ?_
 obtain ⟨h130, le131, hb132, st134⟩ := st129.freeze (k := 0) rfl
 have hc133 := Cells.of hb132
 refine Y<|zq<|zfo Tryz.results35 X zbE zaY X st134.sub hc133 ?_
 refine ⟨h130, _, rfl, st134.done, ?_⟩
 refine ⟨_, _, _, _, _, ?_, Sl.to (f36.up (((((((((((((le43.trans le51).trans le55).trans le61).trans le70).trans le76).trans le85).trans le91).trans le103).trans le109).trans le115).trans le121).trans le127).trans le131)) ?_, Sl.to (Sl.nil _ _) ?_, Sl.to (f48.up (((((((((((le55.trans le61).trans le70).trans le76).trans le85).trans le91).trans le103).trans le109).trans le115).trans le121).trans le127).trans le131)) ?_, Sl.to (f100.up ((((le109.trans le115).trans le121).trans le127).trans le131)) ?_, Sl.to (f124.up le131) ?_⟩
 all_goals rfl
theorem zdo {h : Heap} {w : World} (hs : Sub h w)  : Calls Tryz.prog 90 #[] w (Rets h w (fun h' _ res_ => ∃ u0 u1 u2 u3 u4, res_ = .agg #[u0, u1, u2, u3, u4] ∧ Sl LChapter h' u0 (twoE).text.chapters ∧ Sl LRule h' u1 (twoE).lexicon.rules ∧ Sl LDecision h' u2 (twoE).lexicon.decisions ∧ Sl LQuestion h' u3 (twoE).questions ∧ Sl LVoter h' u4 (twoE).voters)) := by
 refine zL (n := 8) Tryz.func90 X X X<|have st0:=t_s0 hs;W.sr<|zV st0 Tryz.zeroValue32 X X<|fun b1 w2 st3=>Y<|W.sr<|zf st3 X X X Tryz.call35 X (zdD st3.sub )<|fun r4 w5 h6 le7 st8 q9=> ?_
 obtain ⟨v10, v12, v14, v16, v18, rfl, f11, f13, f15, f17, f19⟩ := q9
 have f11_b := f11.le
 have f13_b := f13.le
 have f15_b := f15.le
 have f17_b := f17.le
 have f19_b := f19.le
 refine zV st8 Tryz.zeroValue32 X X<|fun b20 w21 st22=>zN st22 (k := 1) X X X (za f11.one (za f13.one (za f15.one (za f17.one (za f19.one zar))))) zaY X X X<|fun w23 st24=>Y<|W.sr<|E X zB X zbw X X<|zbI (st24.get (k := 1) X) X X zca X ?_
 have f25 := Sl.drop f19 (k := 1) (by decide)
 refine ze rfl rfl (r_slice_from_sl f19 rfl rfl (hk := rfl) (by decide) zax zbp) ?_
 refine E X zB X zbw X X<|zaJ st24 (k := 1) X X (v := (zfj LVoter.size v18 (1))) X f25.one zbw X X X<|fun w26 st27=>Y<|W.sr<|zcu (st27.get (k := 1) X) X zbE zaY X X<|zN st27 (k := 0) X X X (za f11.one (za f13.one (za f15.one (za f17.one (za f25.one zar))))) zaY X X X<|fun w28 st29=> ?_
 obtain ⟨h30, le31, hb32, st34⟩ := st29.freeze (k := 0) rfl
 have hc33 := Cells.of hb32
 refine Y<|zq<|zfo Tryz.results90 X zbE zaY X st34.sub hc33 ?_
 refine ⟨h30, _, rfl, st34.done, ?_⟩
 refine ⟨_, _, _, _, _, ?_, Sl.to (f11.up le31) ?_, Sl.to (f13.up le31) ?_, Sl.to (f15.up le31) ?_, Sl.to (f17.up le31) ?_, Sl.to (f25.up le31) ?_⟩
 all_goals rfl
theorem zhJ {h : Heap} {w : World} (hs : Sub h w) {l_v : Value} {l : (List Int)} (l_f : Sl LInt h l_v l) (n : Int) : Calls Tryz.prog 45 #[l_v, .int .i64 n] w (Rets h w (fun _ _ res_ => res_ = .bool ((decide (n ∈ l))))) := by
 refine zL (n := 17) Tryz.func45 X X X<|have st0:=t_s0 hs;have l_f_b:=l_f.le;W.sr<|zz X X<|Y<|zm<|W.sr<|zS (v := l_v) X X<|zaL l_f X zh X<|zg X X<|Y<|zG ?_
 refine zau ([4, 6] ++ t_rg 9 8) (G := Nat × Heap) (fun ⟨i, h1⟩ => [(9, .int .i64 (i : Int))]) (fun ⟨i, h1⟩ w' => Le h h1 ∧ St h w h1 w' [] ∧ (i ≤ l.length) ∧ (n ∉ l.take i)) (fun ⟨i, h1⟩ => l.length - i) ⟨0, h⟩ ⟨rfl, trivial⟩ ⟨Le.refl _, st0, zaW, (by simp)⟩ ?_
 rintro ⟨i, h1⟩ _ w4 ⟨le2, st3, hi, hn⟩
 refine W.sr<|zaV X X X<|Y<|zm ?_
 refine zD rfl (fun c5 => ?_) (fun c5 => ?_)
 ·
  refine zw<|O<|zm<|zG<|W.sr ?_
  obtain ⟨x, hx⟩ : ∃ y_, (l)[i]? = some y_ := t_ge (by omega)
  obtain ⟨b6, o7, _, he9, hc8, hr_x⟩ := Sl.elem (l_f.up le2) hx
  obtain rfl := hr_x
  refine zU he9 X X (hk := X) (hu := zh) (hz := zl) X<|U (j := 0) st3.sub hc8 X X X zy X<|zt X X<|Y<|W.sr<|zg X X<|zg X X<|zcJ X X X<|Y ?_
  refine zD rfl (fun c10 => ?_) (fun c10 => ?_)
  ·
   refine W.sr<|zz X X<|Y<|zq<|zA<|zc<|zc<|zA<|zc<|zb Tryz.results45 ?_
   refine ⟨h1, _, rfl, st3.done, ?_⟩
   refine zr ?_
   exact (decide_eq_true (by rw [← c10]; exact List.mem_of_getElem? hx)).symm
  refine zw<|zK<|O<|zn<|zaD X X t_om X<|zg X X<|Y ?_
  refine ⟨⟨i + 1, h1⟩, ⟨rfl, trivial⟩, ?_, ⟨le2, st3, ?_, ?_⟩, ?_⟩
  ·exact zan
  ·first | omega | (simp; omega)
  ·rw [zbd hx, List.mem_append, List.mem_singleton]; rintro (q | q); exact hn q; exact absurd q.symm c10
  show l.length - ((i + 1)) < l.length - i
  omega
 refine zaC<|zo<|zo<|zam<|O<|W.sr<|zz X X<|Y<|zq<|zb Tryz.results45 ?_
 refine ⟨h1, _, rfl, st3.done, ?_⟩
 refine zr ?_
 rw [List.take_of_length_le (by omega)] at hn; exact (decide_eq_false hn).symm
theorem c_postillaw07_ready {h : Heap} {w : World} (hs : Sub h w) {p : Poll} {p_v0 : Value} (p_f0 : Sl LChapter h p_v0 p.text.chapters) {p_v1 : Value} (p_f1 : Sl LRule h p_v1 p.lexicon.rules) {p_v2 : Value} (p_f2 : Sl LDecision h p_v2 p.lexicon.decisions) {p_v3 : Value} (p_f3 : Sl LQuestion h p_v3 p.questions) {p_v4 : Value} (p_f4 : Sl LVoter h p_v4 p.voters) : Calls Tryz.prog 41 #[.agg #[p_v0, p_v1, p_v2, p_v3, p_v4]] w (Rets h w (fun _ _ res_ => res_ = .bool ((zgk p && decide (zcH p = 0))))) := by
 refine zL (n := 11) Tryz.func41 X X X<|have st0:=t_s0 hs;have p_f0_b:=p_f0.le;have p_f1_b:=p_f1.le;have p_f2_b:=p_f2.le;have p_f3_b:=p_f3.le;have p_f4_b:=p_f4.le;W.sr<|zC st0 (cs := [p_v0, p_v1, p_v2, p_v3, p_v4]) X X X<|fun b1 w2 h3 le4 hc5 st6=>zz X X<|Y<|W.sr<|zx st6.sub hc5 X zbE zaY X X<|zf st6 X X X Tryz.call15 X (c_postilref07_Great st6.sub (p := p) (p_f0.up le4) (p_f1.up le4) (p_f2.up le4) (p_f3.up le4) (p_f4.up le4))<|fun r7 w8 h9 le10 st11 q12=> ?_
 obtain rfl := q12
 refine zbl X X<|zQ X X ?_
 refine zaq (d := 6) rfl (fun g13 => ?_) (fun g13 => ?_)
 ·
  refine M X X X<|zx st11.sub (hc5.up le10) X zbE zaY X X<|M X X X<|have l14:=le4.trans le10;zf st11 X X X Tryz.call59 X (c_postilref07_Check st11.sub (p := p) (p_f0.up l14) (p_f1.up l14) (p_f2.up l14) (p_f3.up l14) (p_f4.up l14))<|fun r15 w16 h17 le18 st19 q20=> ?_
  obtain rfl := q20
  refine M X X X<|zcJ X X X<|zM (v := (.bool _)) X X X<|zz X X<|Y<|zq<|zb Tryz.results41 ?_
  refine ⟨h17, _, rfl, st19.done, ?_⟩
  refine zr ?_
  simp_all
 refine Z X X X X X<|Z X X X X X<|Z X X X X X<|zH (v := (.bool _)) X X X<|zz X X<|Y<|zq<|zb Tryz.results41 ?_
 refine ⟨h9, _, rfl, st11.done, ?_⟩
 refine zr ?_
 simp_all
end Go.Pk

namespace Go.Pk
open Go Go.RowKit Go.Proofs
set_option maxHeartbeats 4000000 in
theorem c_postillaw07_alive {h : Heap} {w : World} (hs : Sub h w) (K1 : Cells h 1 0 Tryz.glob1) (K0 : Cells h 0 0 Tryz.glob0) : Calls Tryz.prog 33 #[] w (Rets h w (fun _ _ res_ => res_ = .bool (true))) := by
 refine zL (n := 158) Tryz.func33 X X X<|have st0:=t_s0 hs;W.sr<|zz X X<|Y<|W.sr<|zf st0 X X X Tryz.call90 X (zdo st0.sub )<|fun r1 w2 h3 le4 st5 q6=> ?_
 obtain ⟨v7, v9, v11, v13, v15, rfl, f8, f10, f12, f14, f16⟩ := q6
 have f8_b := f8.le
 have f10_b := f10.le
 have f12_b := f12.le
 have f14_b := f14.le
 have f16_b := f16.le
 refine zf st5 X X X Tryz.call34 X (c_vote_Count st5.sub (p := twoE) f8 f10 f12 f14 f16 (K1.up le4) (K0.up le4))<|fun r17 w18 h19 le20 st21 q22=> ?_
 obtain rfl := q22
 refine zcF X X<|zO (v := (.int _ _)) X X X<|zO (v := (.int _ _)) X X X<|zt X X<|zt X X<|Y<|W.sr<|zf st21 X X X Tryz.call35 X (zdD st21.sub )<|fun r23 w24 h25 le26 st27 q28=> ?_
 obtain ⟨v29, v31, v33, v35, v37, rfl, f30, f32, f34, f36, f38⟩ := q28
 have f30_b := f30.le
 have f32_b := f32.le
 have f34_b := f34.le
 have f36_b := f36.le
 have f38_b := f38.le
 have l39 := (le4.trans le20).trans le26
 refine zf st27 X X X Tryz.call39 X (c_vote_Truth st27.sub (p := zcY) f30 f32 f34 f36 f38 (K1.up l39) (K0.up l39))<|fun r40 w41 h42 le43 st44 q45=> ?_
 obtain ⟨v46, rfl, f47⟩ := q45
 have f47_b := f47.le
 refine zcF X X<|zO (v := v46) X X X<|zO (v := (.int _ _)) X X X<|zad (v := v46) X X<|zt X X<|Y<|W.sr<|zf st44 X X X Tryz.call90 X (zdo st44.sub )<|fun r48 w49 h50 le51 st52 q53=> ?_
 obtain ⟨v54, v56, v58, v60, v62, rfl, f55, f57, f59, f61, f63⟩ := q53
 have f55_b := f55.le
 have f57_b := f57.le
 have f59_b := f59.le
 have f61_b := f61.le
 have f63_b := f63.le
 have l64 := (l39.trans le43).trans le51
 refine zf st52 X X X Tryz.call36 X (c_vote_Open st52.sub (p := twoE) f55 f57 f59 f61 f63 _ (K1.up l64) (K0.up l64))<|fun r65 w66 h67 le68 st69 q70=> ?_
 obtain ⟨v71, rfl, f72⟩ := q70
 have f72_b := f72.le
 refine zcF X X<|zO (v := v71) X X X<|zO (v := (.int _ _)) X X X<|zad (v := v71) X X<|zt X X<|Y<|W.sr<|zf st69 X X X Tryz.call90 X (zdo st69.sub )<|fun r73 w74 h75 le76 st77 q78=> ?_
 obtain ⟨v79, v81, v83, v85, v87, rfl, f80, f82, f84, f86, f88⟩ := q78
 have f80_b := f80.le
 have f82_b := f82.le
 have f84_b := f84.le
 have f86_b := f86.le
 have f88_b := f88.le
 have l89 := (l64.trans le68).trans le76
 refine zf st77 X X X Tryz.call37 X (c_vote_Settled st77.sub (p := twoE) f80 f82 f84 f86 f88 (K1.up l89) (K0.up l89))<|fun r90 w91 h92 le93 st94 q95=> ?_
 obtain ⟨v96, rfl, f97⟩ := q95
 have f97_b := f97.le
 refine zcF X X<|zO (v := v96) X X X<|zO (v := (.int _ _)) X X X<|zad (v := v96) X X<|zt X X<|Y<|W.sr<|zf st94 X X X Tryz.call35 X (zdD st94.sub )<|fun r98 w99 h100 le101 st102 q103=> ?_
 obtain ⟨v104, v106, v108, v110, v112, rfl, f105, f107, f109, f111, f113⟩ := q103
 have f105_b := f105.le
 have f107_b := f107.le
 have f109_b := f109.le
 have f111_b := f111.le
 have f113_b := f113.le
 have l114 := (l89.trans le93).trans le101
 refine zf st102 X X X Tryz.call17 X (c_vote_Wrongs st102.sub (p := zcY) f105 f107 f109 f111 f113 _ (K1.up l114) (K0.up l114))<|fun r115 w116 h117 le118 st119 q120=> ?_
 obtain rfl := q120
 refine zcF X X<|zO (v := (.agg (List.toArray _))) X X X<|zO (v := (.int _ _)) X X X<|zV st119 Tryz.zeroValue36 X X<|fun b121 w122 st123=>zN st123 (k := 0) X X X (za X (za X zar)) zem X X X<|fun w124 st125=> ?_
 obtain ⟨h126, le127, hb128, st130⟩ := st125.freeze (k := 0) rfl
 have hc129 := Cells.of hb128
 refine zt X X<|Y<|W.sr<|zf st130 X X X Tryz.call35 X (zdD st130.sub )<|fun r131 w132 h133 le134 st135 q136=> ?_
 obtain ⟨v137, v139, v141, v143, v145, rfl, f138, f140, f142, f144, f146⟩ := q136
 have f138_b := f138.le
 have f140_b := f140.le
 have f142_b := f142.le
 have f144_b := f144.le
 have f146_b := f146.le
 have l147 := ((l114.trans le118).trans le127).trans le134
 refine zf st135 X X X Tryz.call19 X (c_vote_Tally st135.sub (p := zcY) f138 f140 f142 f144 f146 _ (K1.up l147) (K0.up l147))<|fun r148 w149 h150 le151 st152 q153=> ?_
 obtain ⟨v154, rfl, f155⟩ := q153
 have f155_b := f155.le
 refine zcF X X<|zO (v := v154) X X X<|zO (v := (.int _ _)) X X X<|zad (v := v154) X X<|zt X X<|Y<|W.sr<|zf st152 X X X Tryz.call90 X (zdo st152.sub )<|fun r156 w157 h158 le159 st160 q161=> ?_
 obtain ⟨v162, v164, v166, v168, v170, rfl, f163, f165, f167, f169, f171⟩ := q161
 have f163_b := f163.le
 have f165_b := f165.le
 have f167_b := f167.le
 have f169_b := f169.le
 have f171_b := f171.le
 have l172 := (l147.trans le151).trans le159
 refine zf st160 X X X Tryz.call22 X (c_vote_Ask st160.sub (p := twoE) f163 f165 f167 f169 f171 (K1.up l172) (K0.up l172))<|fun r173 w174 h175 le176 st177 q178=> ?_
 obtain ⟨v179, rfl, f180⟩ := q178
 have f180_b := f180.le
 refine zcF X X<|zO (v := v179) X X X<|zO (v := (.int _ _)) X X X<|zad (v := v179) X X<|zt X X<|Y<|W.sr<|zf st177 X X X Tryz.call90 X (zdo st177.sub )<|fun r181 w182 h183 le184 st185 q186=> ?_
 obtain ⟨v187, v189, v191, v193, v195, rfl, f188, f190, f192, f194, f196⟩ := q186
 have f188_b := f188.le
 have f190_b := f190.le
 have f192_b := f192.le
 have f194_b := f194.le
 have f196_b := f196.le
 have l197 := (l172.trans le176).trans le184
 refine zf st185 X X X Tryz.call24 X (c_vote_Next st185.sub (p := twoE) f188 f190 f192 f194 f196 (K1.up l197) (K0.up l197))<|fun r198 w199 h200 le201 st202 q203=> ?_
 obtain rfl := q203
 refine zcF X X<|zO (v := (.int _ _)) X X X<|zO (v := (.int _ _)) X X X<|zt X X<|zt X X<|Y<|W.sr<|zf st202 X X X Tryz.call35 X (zdD st202.sub )<|fun r204 w205 h206 le207 st208 q209=> ?_
 obtain ⟨v210, v212, v214, v216, v218, rfl, f211, f213, f215, f217, f219⟩ := q209
 have f211_b := f211.le
 have f213_b := f213.le
 have f215_b := f215.le
 have f217_b := f217.le
 have f219_b := f219.le
 have l220 := (l197.trans le201).trans le207
 refine zat rfl rfl (zaT rfl Tryz.call27 rfl) ((c_vote_Decide st208.sub (p := zcY) f211 f213 f215 f217 f219 (K1.up l220) (K0.up l220)).mono ?_)
 rintro _ w221 ⟨h222, v226, v229, o227, o230, rfl, le223, s225, f228, f231⟩
 refine ⟨_, rfl, ?_⟩
 have st224 := st208.call s225
 refine zcF X X<|zO (v := (.agg (List.toArray _))) X X X<|zO (v := (.int _ _)) X X X<|zV st224 Tryz.zeroValue28 X X<|fun b232 w233 st234=>zN st234 (k := 3) X X X (za f228.one (za f231.one zar)) zaG X X X<|fun w235 st236=> ?_
 obtain ⟨h237, le238, hb239, st241⟩ := st236.freeze (k := 3) rfl
 have hc240 := Cells.of hb239
 refine zt X X<|Y<|W.sr<|zf st241 X X X Tryz.call90 X (zdo st241.sub )<|fun r242 w243 h244 le245 st246 q247=> ?_
 obtain ⟨v248, v250, v252, v254, v256, rfl, f249, f251, f253, f255, f257⟩ := q247
 have f249_b := f249.le
 have f251_b := f251.le
 have f253_b := f253.le
 have f255_b := f255.le
 have f257_b := f257.le
 have l258 := ((l220.trans le223).trans le238).trans le245
 refine zf st246 X X X Tryz.call29 X (c_vote_Moot st246.sub (p := twoE) f249 f251 f253 f255 f257 (K1.up l258) (K0.up l258))<|fun r259 w260 h261 le262 st263 q264=> ?_
 obtain ⟨v265, rfl, f266⟩ := q264
 have f266_b := f266.le
 refine zcF X X<|zO (v := v265) X X X<|zO (v := (.int _ _)) X X X<|zad (v := v265) X X<|zt X X<|Y<|W.sr<|zg X X<|zcJ X X X<|zQ X X ?_
 refine zZ (d := 73) rfl (fun g267 => ?_) (fun g267 => ?_)
 ·
  refine M X X X<|zg X X<|M X X X<|zcJ X X X<|zM (v := (.bool _)) X X X<|zQ X X ?_
  refine zZ (d := 77) rfl (fun g268 => ?_) (fun g268 => ?_)
  ·
   refine M X X X<|zg X X<|M X X X<|zcJ X X X<|zM (v := (.bool _)) X X X<|zQ X X ?_
   refine zZ (d := 81) rfl (fun g269 => ?_) (fun g269 => ?_)
   ·
    refine M X X X<|zS (v := v46) X X<|M X X X<|zai (L := LInt) (xs := [0, 1, 0]) (cs := [.int .i64 0, .int .i64 1, .int .i64 0]) st263 (Enc.cons (L := LInt) (vs := [.int .i64 0]) (x := 0) (h := h261) (X) (Enc.cons (L := LInt) (vs := [.int .i64 1]) (x := 1) (h := h261) (X) (Enc.cons (L := LInt) (vs := [.int .i64 0]) (x := 0) (h := h261) (X) Enc.nil))) X X X zh Tryz.info3 X X X t_kr<|fun v270 w271 h274 le275 f272 st273=>M X X X<|have l276:=(((((((((((((((((le51.trans le68).trans le76).trans le93).trans le101).trans le118).trans le127).trans le134).trans le151).trans le159).trans le176).trans le184).trans le201).trans le207).trans le223).trans le238).trans le245).trans le262).trans le275;zf st273 X X X Tryz.call21 X (zcW st273.sub (f47.up l276) f272)<|fun r277 w278 h279 le280 st281 q282=> ?_
    obtain rfl := q282
    refine zM (v := (.bool _)) X X X<|zQ X X ?_
    refine zaq (d := 86) rfl (fun g283 => ?_) (fun g283 => ?_)
    ·
     refine M X X X<|zg X X<|M X X X<|zcJ X X X<|zM (v := (.bool _)) X X X<|zQ X X ?_
     refine zZ (d := 90) rfl (fun g284 => ?_) (fun g284 => ?_)
     ·
      refine M X X X<|zS (v := v71) X X<|M X X X<|zai (L := LInt) (xs := [0, 1]) (cs := [.int .i64 0, .int .i64 1]) st281 (Enc.cons (L := LInt) (vs := [.int .i64 0]) (x := 0) (h := h279) (X) (Enc.cons (L := LInt) (vs := [.int .i64 1]) (x := 1) (h := h279) (X) Enc.nil)) X X X zh Tryz.info3 X X X t_kr<|fun v285 w286 h289 le290 f287 st288=>M X X X<|have l291:=(((((((((((((((((le76.trans le93).trans le101).trans le118).trans le127).trans le134).trans le151).trans le159).trans le176).trans le184).trans le201).trans le207).trans le223).trans le238).trans le245).trans le262).trans le275).trans le280).trans le290;zf st288 X X X Tryz.call21 X (zcW st288.sub (f72.up l291) f287)<|fun r292 w293 h294 le295 st296 q297=> ?_
      obtain rfl := q297
      refine zM (v := (.bool _)) X X X<|zQ X X ?_
      refine zaq (d := 95) rfl (fun g298 => ?_) (fun g298 => ?_)
      ·
       refine M X X X<|zg X X<|M X X X<|zcJ X X X<|zM (v := (.bool _)) X X X<|zQ X X ?_
       refine zZ (d := 99) rfl (fun g299 => ?_) (fun g299 => ?_)
       ·
        refine M X X X<|zS (v := v96) X X<|M X X X<|zai (L := LInt) (xs := [0, (-1), (-1)]) (cs := [.int .i64 0, .int .i64 (-1), .int .i64 (-1)]) st296 (Enc.cons (L := LInt) (vs := [.int .i64 0]) (x := 0) (h := h294) (X) (Enc.cons (L := LInt) (vs := [.int .i64 (-1)]) (x := (-1)) (h := h294) (X) (Enc.cons (L := LInt) (vs := [.int .i64 (-1)]) (x := (-1)) (h := h294) (X) Enc.nil))) X X X zh Tryz.info3 X X X t_kr<|fun v300 w301 h304 le305 f302 st303=>M X X X<|have l306:=(((((((((((((((((le101.trans le118).trans le127).trans le134).trans le151).trans le159).trans le176).trans le184).trans le201).trans le207).trans le223).trans le238).trans le245).trans le262).trans le275).trans le280).trans le290).trans le295).trans le305;zf st303 X X X Tryz.call21 X (zcW st303.sub (f97.up l306) f302)<|fun r307 w308 h309 le310 st311 q312=> ?_
        obtain rfl := q312
        refine zM (v := (.bool _)) X X X<|zQ X X ?_
        refine zaq (d := 104) rfl (fun g313 => ?_) (fun g313 => ?_)
        ·
         refine M X X X<|zg X X<|M X X X<|zcJ X X X<|zM (v := (.bool _)) X X X<|zQ X X ?_
         refine zZ (d := 108) rfl (fun g314 => ?_) (fun g314 => ?_)
         ·
          refine M X X X<|have l315:=(((((((((((((((le134.trans le151).trans le159).trans le176).trans le184).trans le201).trans le207).trans le223).trans le238).trans le245).trans le262).trans le275).trans le280).trans le290).trans le295).trans le305).trans le310;zx st311.sub (hc129.up l315) X Tryz.isAgg36 zem X X<|M X X X<|ze X X (zbn (cs := [.int .i64 1, .int .i64 1]) t_kr)<|M X X X<|ze X X (zgy X X Tryz.eqGuardType36 (Tryz.eq_Span (zgv (zcY) (1)) (Span.mk (1) (1))))<|zM (v := (.bool _)) X X X<|zQ X X ?_
          refine zZ (d := 113) rfl (fun g316 => ?_) (fun g316 => ?_)
          ·
           refine M X X X<|zg X X<|M X X X<|zcJ X X X<|zM (v := (.bool _)) X X X<|zQ X X ?_
           refine zZ (d := 117) rfl (fun g317 => ?_) (fun g317 => ?_)
           ·
            refine M X X X<|zS (v := v154) X X<|M X X X<|zai (L := LInt) (xs := [2, 0]) (cs := [.int .i64 2, .int .i64 0]) st311 (Enc.cons (L := LInt) (vs := [.int .i64 2]) (x := 2) (h := h309) (X) (Enc.cons (L := LInt) (vs := [.int .i64 0]) (x := 0) (h := h309) (X) Enc.nil)) X X X zh Tryz.info3 X X X t_kr<|fun v318 w319 h322 le323 f320 st321=>M X X X<|have l324:=((((((((((((((le159.trans le176).trans le184).trans le201).trans le207).trans le223).trans le238).trans le245).trans le262).trans le275).trans le280).trans le290).trans le295).trans le305).trans le310).trans le323;zf st321 X X X Tryz.call21 X (zcW st321.sub (f155.up l324) f320)<|fun r325 w326 h327 le328 st329 q330=> ?_
            obtain rfl := q330
            refine zM (v := (.bool _)) X X X<|zQ X X ?_
            refine zaq (d := 122) rfl (fun g331 => ?_) (fun g331 => ?_)
            ·
             refine M X X X<|zg X X<|M X X X<|zcJ X X X<|zM (v := (.bool _)) X X X<|zQ X X ?_
             refine zZ (d := 126) rfl (fun g332 => ?_) (fun g332 => ?_)
             ·
              refine M X X X<|zS (v := v179) X X<|M X X X<|zai (L := LInt) (xs := [1, 2]) (cs := [.int .i64 1, .int .i64 2]) st329 (Enc.cons (L := LInt) (vs := [.int .i64 1]) (x := 1) (h := h327) (X) (Enc.cons (L := LInt) (vs := [.int .i64 2]) (x := 2) (h := h327) (X) Enc.nil)) X X X zh Tryz.info3 X X X t_kr<|fun v333 w334 h337 le338 f335 st336=>M X X X<|have l339:=((((((((((((((le184.trans le201).trans le207).trans le223).trans le238).trans le245).trans le262).trans le275).trans le280).trans le290).trans le295).trans le305).trans le310).trans le323).trans le328).trans le338;zf st336 X X X Tryz.call21 X (zcW st336.sub (f180.up l339) f335)<|fun r340 w341 h342 le343 st344 q345=> ?_
              obtain rfl := q345
              refine zM (v := (.bool _)) X X X<|zQ X X ?_
              refine zaq (d := 131) rfl (fun g346 => ?_) (fun g346 => ?_)
              ·
               refine M X X X<|zg X X<|M X X X<|zcJ X X X<|zM (v := (.bool _)) X X X<|zQ X X ?_
               refine zZ (d := 135) rfl (fun g347 => ?_) (fun g347 => ?_)
               ·
                refine M X X X<|zg X X<|M X X X<|zcJ X X X<|zM (v := (.bool _)) X X X<|zQ X X ?_
                refine zZ (d := 139) rfl (fun g348 => ?_) (fun g348 => ?_)
                ·
                 refine M X X X<|zg X X<|M X X X<|zcJ X X X<|zM (v := (.bool _)) X X X<|zQ X X ?_
                 refine zZ (d := 143) rfl (fun g349 => ?_) (fun g349 => ?_)
                 ·
                  refine M X X X<|E X zaz X zcy X X<|M X X X<|have l350:=((((((((((le245.trans le262).trans le275).trans le280).trans le290).trans le295).trans le305).trans le310).trans le323).trans le328).trans le338).trans le343;U (j := 1) st344.sub (hc240.up l350) X X X zcT X<|M X X X<|have l351:=(((((((((((le238.trans le245).trans le262).trans le275).trans le280).trans le290).trans le295).trans le305).trans le310).trans le323).trans le328).trans le338).trans le343;zfB (f231.up l351) X zaN X<|M X X X<|zcJ X X X<|zM (v := (.bool _)) X X X<|zQ X X ?_
                  refine zZ (d := 149) rfl (fun g352 => ?_) (fun g352 => ?_)
                  ·
                   refine M X X X<|zg X X<|M X X X<|zcJ X X X<|zM (v := (.bool _)) X X X<|zQ X X ?_
                   refine zZ (d := 153) rfl (fun g353 => ?_) (fun g353 => ?_)
                   ·
                    refine M X X X<|zS (v := v265) X X<|M X X X ?_
                    refine zai (L := LStr) (xs := [wSea]) (cs := [strV wSea]) st344 (Enc.cons (L := LStr) (vs := [strV wSea]) (x := wSea) (h := h342) (⟨rfl, by first | assumption | decide | omega | (simp [big]; done) | (simp [big]; omega)⟩) Enc.nil) rfl rfl rfl zR Tryz.info9 rfl rfl rfl t_kr ?_
                    intro v354 w355 h358 le359 f356 st357
                    refine M X X X<|have l360:=(((((((((le275.trans le280).trans le290).trans le295).trans le305).trans le310).trans le323).trans le328).trans le338).trans le343).trans le359;zf st357 X X X Tryz.call32 X (zig st357.sub (f266.up l360) f356)<|fun r361 w362 h363 le364 st365 q366=> ?_
                    obtain rfl := q366
                    refine zM (v := (.bool _)) X X X<|zz X X<|Y<|zq<|zb Tryz.results33 ?_
                    refine ⟨h363, _, rfl, st365.done, ?_⟩
                    refine zr ?_
                    exact decide_eq_true moot2
                   exfalso
                   have sure_ : (decide ((allE (twoE) true) = 0)) = true := by exact decide_eq_true allE2
                   exact g353 (t_ot sure_)
                  exfalso
                  have sure_ : (decide (((((zft (zcY))).decisions).length : Int) = 3)) = true := by exact decide_eq_true ex_13
                  exact g352 (t_ot sure_)
                 exfalso
                 have sure_ : (decide (((zgz (zcY))) = 0)) = true := by exact decide_eq_true decideEE.1
                 exact g349 (t_ot sure_)
                exfalso
                have sure_ : (decide (((nextR (twoE))) = 1)) = true := by exact decide_eq_true ex_12
                exact g348 (t_ot sure_)
               exfalso
               have sure_ : (decide ((nextE (twoE)) = 0)) = true := by exact decide_eq_true ex_11
               exact g347 (t_ot sure_)
              exfalso
              have sure_ : ((decide (((askR7 (twoE))) = ([1, 2])))) = true := by exact decide_eq_true ex_10
              simp_all
             exfalso
             have sure_ : (decide ((allE (twoE) true) = 0)) = true := by exact decide_eq_true allE2
             exact g332 (t_ot sure_)
            exfalso
            have sure_ : ((decide (((zhj (zcY) (0))) = ([2, 0])))) = true := by exact decide_eq_true ex_09
            simp_all
           exfalso
           have sure_ : (decide ((zfR (zcY) (0)) = 0)) = true := by exact decide_eq_true ex_08
           exact g317 (t_ot sure_)
          exfalso
          have sure_ : (decide ((zgv (zcY) (1)) = (Span.mk (1) (1)))) = true := by exact decide_eq_true ex_07
          exact g316 (t_ot sure_)
         exfalso
         have sure_ : (decide ((allE (zcY) (inB (1) 0 (((zcY).voters.length : Int) - 1))) = 0)) = true := by exact decide_eq_true ex_06
         exact g314 (t_ot sure_)
        exfalso
        have sure_ : ((decide (((zhl (twoE))) = ([0, (-1), (-1)])))) = true := by exact decide_eq_true ex_05
        simp_all
       exfalso
       have sure_ : (decide ((allE (twoE) true) = 0)) = true := by exact decide_eq_true allE2
       exact g299 (t_ot sure_)
      exfalso
      have sure_ : ((decide (((openR (twoE) (1))) = ([0, 1])))) = true := by exact decide_eq_true ex_04
      simp_all
     exfalso
     have sure_ : (decide ((allE (twoE) (inB (1) 0 (((twoE).questions.length : Int) - 1))) = 0)) = true := by exact decide_eq_true ex_03
     exact g284 (t_ot sure_)
    exfalso
    have sure_ : ((decide (((((allL (zcY) true)[0]?).getD [])) = ([0, 1, 0])))) = true := by exact decide_eq_true ex_02
    simp_all
   exfalso
   have sure_ : (decide ((allE (zcY) true) = 0)) = true := by exact decide_eq_true allEE
   exact g269 (t_ot sure_)
  exfalso
  have sure_ : (decide (((if zcH (twoE) = 0 then ((zY (twoE)).length : Int) else 0)) = 3)) = true := by exact decide_eq_true ex_01
  exact g268 (t_ot sure_)
 exfalso
 have sure_ : (decide ((zcH (twoE)) = 0)) = true := by exact decide_eq_true checkP2
 exact g267 (t_ot sure_)
end Go.Pk

namespace Go.Pk
open Go Go.RowKit Go.Proofs
set_option maxHeartbeats 4000000 in
theorem zih {h : Heap} {w : World} (hs : Sub h w) {p : Poll} {p_v0 : Value} (p_f0 : Sl LChapter h p_v0 p.text.chapters) {p_v1 : Value} (p_f1 : Sl LRule h p_v1 p.lexicon.rules) {p_v2 : Value} (p_f2 : Sl LDecision h p_v2 p.lexicon.decisions) {p_v3 : Value} (p_f3 : Sl LQuestion h p_v3 p.questions) {p_v4 : Value} (p_f4 : Sl LVoter h p_v4 p.voters) (question : Int) (question_l : 0 ≤ question ∧ question ≤ 255) (K1 : Cells h 1 0 Tryz.glob1) (K0 : Cells h 0 0 Tryz.glob0) : Calls Tryz.prog 14 #[.agg #[p_v0, p_v1, p_v2, p_v3, p_v4], .int .u8 question] w (Rets h w (fun _ _ res_ => res_ = .bool (true))) := by
 refine zL (n := 127) Tryz.func14 X X X<|have st0:=t_s0 hs;have p_f0_b:=p_f0.le;have p_f1_b:=p_f1.le;have p_f2_b:=p_f2.le;have p_f3_b:=p_f3.le;have p_f4_b:=p_f4.le;W.sr<|zC st0 (cs := [p_v0, p_v1, p_v2, p_v3, p_v4]) X X X<|fun b1 w2 h3 le4 hc5 st6=>zz X X<|Y<|W.sr<|zf st6 X X X Tryz.call33 X (c_postillaw07_alive st6.sub (K1.up le4) (K0.up le4))<|fun r7 w8 h9 le10 st11 q12=> ?_
 obtain rfl := q12
 refine zz X X<|Y<|zm<|W.sr<|zx st11.sub (hc5.up le10) X zbE zaY X X<|have l13:=le4.trans le10;zf st11 X X X Tryz.call41 X (c_postillaw07_ready st11.sub (p := p) (p_f0.up l13) (p_f1.up l13) (p_f2.up l13) (p_f3.up l13) (p_f4.up l13))<|fun r14 w15 h16 le17 st18 q19=> ?_
 obtain rfl := q19
 refine zbl X X<|zQ X X ?_
 refine zaq (d := 19) rfl (fun g20 => ?_) (fun g20 => ?_)
 ·
  refine Z X X X X X<|Z X X X X X<|Z X X X X X<|Z X X X X X<|zM (v := (.bool _)) X X X<|zQ X X<|Z X X X X X<|Z X X X X X<|zM (v := (.bool _)) X X X<|Y ?_
  refine zac rfl (fun c21 => ?_) (fun c21 => ?_)
  ·
   refine W.sr<|zQ X X<|zz X X<|Y<|zq<|zc<|zb Tryz.results14 ?_
   refine ⟨h16, _, rfl, st18.done, ?_⟩
   refine zr ?_
   first | rfl | (rcases hor with ⟨h1_, _⟩ | ⟨h1_, _⟩ <;> simp_all; done)
  cases c21
 refine M X X X<|E X zB X zbj X X<|M X X X<|U (j := 3) st18.sub (hc5.up (le10.trans le17)) X X X zbA X<|M X X X<|have l22:=l13.trans le17;zaL (p_f3.up l22) X zay X<|M X X X<|zcJ X X X<|zH (v := (.bool _)) X X X<|zQ X X ?_
 refine zZ (d := 25) rfl (fun g23 => ?_) (fun g23 => ?_)
 ·
  refine Z X X X X X<|Z X X X X X<|zM (v := (.bool _)) X X X<|Y ?_
  refine zac rfl (fun c24 => ?_) (fun c24 => ?_)
  ·
   refine W.sr<|zQ X X<|zz X X<|Y<|zq<|zc<|zb Tryz.results14 ?_
   refine ⟨h16, _, rfl, st18.done, ?_⟩
   refine zr ?_
   first | rfl | (rcases hor with ⟨h1_, _⟩ | ⟨h1_, _⟩ <;> simp_all; done)
  cases c24
 refine M X X X<|zQ X X<|M X X X<|zbl X X<|zH (v := (.bool _)) X X X<|Y ?_
 refine zac rfl (fun c25 => ?_) (fun c25 => ?_)
 ·
  cases c25
 refine zw<|O<|zm ?_
 obtain ⟨hsm, hk1⟩ : zgk p = true ∧ zcH p = 0 := by simpa using g20
 have hpb := (zbU hk1).2
 have hpl := zcQ hpb
 have hn0 : 0 < p.questions.length := by omega
 obtain ⟨K, hK⟩ : ∃ k_ : Nat, k_ = question.toNat % p.questions.length := ⟨_, rfl⟩
 have hKe : question.tmod (p.questions.length : Int) = (K : Int) := by rw [hK]; exact tmod_nat (by omega)
 have hKl : K < p.questions.length := by rw [hK]; exact Nat.mod_lt _ hn0
 obtain ⟨q, hq⟩ : ∃ q_, p.questions[K]? = some q_ := ⟨_, List.getElem?_eq_getElem hKl⟩
 have hq0 := zgp hpb hq
 have hte : zfR p (question.tmod (p.questions.length : Int)) = 0 := by rw [hKe]; exact (tally_ok hk1 hq).1
 have htr : zhj p (question.tmod (p.questions.length : Int)) = (zdh p.voters K q.heads.length) := by rw [hKe]; exact (tally_ok hk1 hq).2
 have hoe : allE p (inB (question.tmod (p.questions.length : Int)) 0 ((p.questions.length : Int) - 1)) = allE p true := by rw [hKe]; exact (open_ok hq).1
 have hop : openR p (question.tmod (p.questions.length : Int)) = openN p K := by rw [hKe]; exact (open_ok hq).2
 refine zn<|zg X X ?_
 refine ze rfl rfl (zgo rfl rfl zbL (IntWalk.i64_in _ (by omega))) ?_
 refine E X zB X zbj X X<|U (j := 3) st18.sub (hc5.up (le10.trans le17)) X X X zbA X<|zaL (p_f3.up l22) X zay X<|ze X X (r_rem X X t_om)<|zt X X<|Y<|W.sr<|zx st18.sub (hc5.up (le10.trans le17)) X zbE zaY X X<|zg X X ?_
 have con := (c_vote_Tally st18.sub (p := p) (p_f0.up l22) (p_f1.up l22) (p_f2.up l22) (p_f3.up l22) (p_f4.up l22) (question := (question.tmod (p.questions.length : Int))) (K1.up l22) (K0.up l22))
 rw [hte, htr] at con
 refine zf st18 X X X Tryz.call19 X con<|fun r26 w27 h28 le29 st30 q31=> ?_
 obtain ⟨v32, rfl, f33⟩ := q31
 have f33_b := f33.le
 clear con
 refine zcF X X<|zO (v := v32) X X X<|zO (v := (.int _ _)) X X X<|zad (v := v32) X X<|zt X X<|Y<|W.sr<|zx st30.sub (hc5.up ((le10.trans le17).trans le29)) X zbE zaY X X<|zg X X ?_
 have l34 := l22.trans le29
 have con := (c_vote_Open st30.sub (p := p) (p_f0.up l34) (p_f1.up l34) (p_f2.up l34) (p_f3.up l34) (p_f4.up l34) (question := (question.tmod (p.questions.length : Int))) (K1.up l34) (K0.up l34))
 rw [hoe, hop] at con
 refine zf st30 X X X Tryz.call36 X con<|fun r35 w36 h37 le38 st39 q40=> ?_
 obtain ⟨v41, rfl, f42⟩ := q40
 have f42_b := f42.le
 clear con
 refine zcF X X<|zO (v := v41) X X X<|zO (v := (.int _ _)) X X X<|zad (v := v41) X X<|zt X X<|Y<|zm<|W.sr<|zg X X<|zcC X X X<|zQ X X<|M X X X<|zS (v := v32) X X<|M X X X<|zaL (f33.up le38) X zh X<|M X X X<|E X zB X zbj X X<|M X X X<|have l43:=((le10.trans le17).trans le29).trans le38;U (j := 3) st39.sub (hc5.up l43) X X X zbA X<|M X X X<|zg X X<|M X X X ?_
 have l48 := l34.trans le38
 obtain ⟨b44, o45, _, he47, hc46, hr_q⟩ := Sl.elem (p_f3.up l48) hq
 obtain ⟨v49, rfl, f50⟩ := hr_q
 have f50_b := f50.le
 refine ze rfl rfl (zal he47 rfl rfl (hk := (show _ = ((K : Nat) : Int) by exact hKe)) (hu := zay) (hz := zbZ)) ?_
 refine M X X X<|E X zaw X zbR X X<|M X X X<|U (j := 3) st39.sub hc46 X X X zcm X<|M X X X<|zaL f50 X zaU X<|M X X X<|zcC X X X<|zH (v := (.bool _)) X X X<|Y ?_
 refine zD rfl (fun c51 => ?_) (fun c51 => ?_)
 ·
  exfalso
  have sure_ : (decide (((zdh p.voters K q.heads.length).length : Int) ≠ (q.heads.length : Int))) = false := by exact decide_eq_false (by rw [zeu]; simp)
  exact t_of sure_ c51
 refine zw<|O<|zm<|W.sr<|zS (v := v32) X X<|zaL (f33.up le38) X zh X<|zg X X<|Y<|zG ?_
 refine zau ([4, 11, 12, 14] ++ t_rg 64 54) (G := Nat × Heap) (fun ⟨h0, h52⟩ => [(64, .int .i64 (h0 : Int))]) (fun ⟨h0, h52⟩ w' => Le h37 h52 ∧ St h w h52 w' [] ∧ (h0 ≤ (zdh p.voters K q.heads.length).length)) (fun ⟨h0, h52⟩ => (zdh p.voters K q.heads.length).length - h0) ⟨0, h37⟩ ⟨rfl, trivial⟩ ⟨Le.refl _, st39, zaW⟩ ?_
 rintro ⟨h0, h52⟩ _ w55 ⟨le53, st54, hh0⟩
 refine W.sr<|zaV X X X<|Y<|zm ?_
 refine zD rfl (fun c56 => ?_) (fun c56 => ?_)
 ·
  refine zw<|O<|zm<|zG<|W.sr<|zg X X ?_
  obtain ⟨n0, hn0⟩ : ∃ y_, ((zdh p.voters K q.heads.length))[h0]? = some y_ := t_ge (by omega)
  obtain ⟨b57, o58, _, he60, hc59, hr_n0⟩ := Sl.elem (f33.up (le38.trans le53)) hn0
  obtain rfl := hr_n0
  refine zU he60 X X (hk := X) (hu := zh) (hz := zl) X<|U (j := 0) st54.sub hc59 X X X zy X<|zt X X<|zt X X<|Y<|zm<|W.sr<|E X zB X zbw X X<|U (j := 4) st54.sub (hc5.up (l43.trans le53)) X X X zca X<|have l61:=l48.trans le53;zaL (p_f4.up l61) X zax X<|zg X X<|Y<|zG ?_
  refine zau ([4, 12, 14] ++ t_rg 72 43) (G := Nat × Heap) (fun ⟨j, h62⟩ => [(12, .int .i64 (n0 - ((forN (p.voters.take j) K (h0 : Int) : Nat) : Int))), (72, .int .i64 (j : Int))]) (fun ⟨j, h62⟩ w' => Le h52 h62 ∧ St h w h62 w' [] ∧ (j ≤ p.voters.length)) (fun ⟨j, h62⟩ => p.voters.length - j) ⟨0, h52⟩ ⟨(zab (by simp [forN])), rfl, trivial⟩ ⟨Le.refl _, st54, zaW⟩ ?_
  rintro ⟨j, h62⟩ _ w65 ⟨le63, st64, hj⟩
  refine W.sr<|zaV X X X<|Y<|zm ?_
  refine zD rfl (fun c66 => ?_) (fun c66 => ?_)
  ·
   refine zw<|O<|zm<|zG<|W.sr ?_
   obtain ⟨v, hv⟩ : ∃ y_, (p.voters)[j]? = some y_ := t_ge (by omega)
   have l71 := l61.trans le63
   obtain ⟨b67, o68, _, he70, hc69, hr_v⟩ := Sl.elem (p_f4.up l71) hv
   obtain ⟨v72, rfl, f73⟩ := hr_v
   have f73_b := f73.le
   refine zU he70 X X (hk := X) (hu := zax) (hz := zbp) X<|zx st64.sub hc69 X Tryz.isAgg79 zbp X X<|zV st64 Tryz.zeroValue79 X X<|fun b74 w75 st76=>zN st76 (k := 0) X X X (za X (za X (za f73.one zar))) zbp X X X<|fun w77 st78=> ?_
   obtain ⟨h79, le80, hb81, st83⟩ := st78.freeze (k := 0) rfl
   have hc82 := Cells.of hb81
   refine Y<|zm<|zm<|have hvm:=List.mem_of_getElem? hv;have hvp:=zfv hpb hvm;zn<|E X zaM X zbv X X<|U (j := 2) st83.sub hc82 X X X zbP X<|zg X X ?_
   obtain ⟨a, ha⟩ : ∃ y_, (v.votes)[K]? = some y_ := t_ge (by omega)
   obtain ⟨b84, o85, _, he87, hc86, hr_a⟩ := Sl.elem (f73.up le80) ha
   obtain rfl := hr_a
   refine ze rfl rfl (zal he87 rfl rfl (hk := (show _ = ((K : Nat) : Int) by exact hKe)) (hu := zh) (hz := zl)) ?_
   refine U (j := 0) st83.sub hc86 X X X zy X<|zg X X<|zcJ X X X<|Y ?_
   refine zD rfl (fun c88 => ?_) (fun c88 => ?_)
   ·
    refine zn<|zg X X ?_
    refine ze rfl rfl (zhX rfl rfl (by have q_ := tally_small hn0; have q2_ : forN (p.voters.take j) K (h0 : Int) ≤ p.voters.length := Nat.le_trans (List.length_filter_le _ _) (by rw [List.length_take]; omega); omega)) ?_
    refine zt X X<|Y<|W.sr<|E X zaM X zbv X X<|U (j := 2) st83.sub hc82 X X X zbP X<|zg X X ?_
    refine ze rfl rfl (zal he87 rfl rfl (hk := (show _ = ((K : Nat) : Int) by exact hKe)) (hu := zh) (hz := zl)) ?_
    refine U (j := 0) st83.sub hc86 X X X zy X<|zgS X X X<|zQ X X ?_
    refine zZ (d := 91) rfl (fun g89 => ?_) (fun g89 => ?_)
    ·
     refine M X X X<|E X zaM X zl X X<|M X X X<|U (j := 1) st83.sub hc82 X X X zy X<|M X X X<|zcJ X X X<|zM (v := (.bool _)) X X X<|zQ X X ?_
     refine zZ (d := 96) rfl (fun g90 => ?_) (fun g90 => ?_)
     ·
      refine M X X X<|E X zaM X zbv X X<|M X X X<|U (j := 2) st83.sub hc82 X X X zbP X<|M X X X<|zg X X<|M X X X ?_
      refine ze rfl rfl (zal he87 rfl rfl (hk := (show _ = ((K : Nat) : Int) by exact hKe)) (hu := zh) (hz := zl)) ?_
      refine M X X X<|U (j := 0) st83.sub hc86 X X X zy X<|M X X X<|zg X X<|M X X X<|zcC X X X<|zM (v := (.bool _)) X X X<|zQ X X ?_
      refine zZ (d := 105) rfl (fun g91 => ?_) (fun g91 => ?_)
      ·
       refine M X X X<|zg X X<|M X X X<|zcJ X X X<|zM (v := (.bool _)) X X X<|zQ X X ?_
       refine zZ (d := 109) rfl (fun g92 => ?_) (fun g92 => ?_)
       ·
        refine M X X X<|zS (v := v41) X X<|M X X X<|zg X X<|M X X X<|zf st83 X X X Tryz.call45 X (zhJ st83.sub (f42.up ((le53.trans le63).trans le80)) _)<|fun r93 w94 h95 le96 st97 q98=> ?_
        obtain rfl := q98
        refine zM (v := (.bool _)) X X X<|Y ?_
        refine zac rfl (fun c99 => ?_) (fun c99 => ?_)
        ·
         exfalso
         have sure_ : (((decide (((h0 : Int)) ∈ ((openN p K)))))) = false := by exact decide_eq_false (sure_openN hvm g90 ha g89 g91)
         exact absurd (c99.symm.trans sure_) (by decide)
        refine zw<|zK<|O<|zn<|zaD X X t_om X<|zg X X<|Y ?_
        refine ⟨⟨j + 1, h95⟩, ⟨?_, rfl, trivial⟩, ?_, ⟨((le63.trans le80).trans le96), st97.take 0, ?_⟩, ?_⟩
        ·exact zab (by rw [zev hv ha]; split <;> omega)
        ·exact zan
        ·first | omega | (simp; omega)
        show p.voters.length - ((j + 1)) < p.voters.length - j
        omega
       refine Z X X X X X<|Z X X X X X<|Z X X X X X<|zH (v := (.bool _)) X X X<|Y ?_
       refine zac rfl (fun c100 => ?_) (fun c100 => ?_)
       ·
        cases c100
       refine zw<|zK<|O<|zn<|zaD X X t_om X<|zg X X<|Y ?_
       refine ⟨⟨j + 1, h79⟩, ⟨?_, rfl, trivial⟩, ?_, ⟨(le63.trans le80), st83.take 0, ?_⟩, ?_⟩
       ·exact zab (by rw [zev hv ha]; split <;> omega)
       ·exact zan
       ·first | omega | (simp; omega)
       show p.voters.length - ((j + 1)) < p.voters.length - j
       omega
      refine Z X X X X X<|Z X X X X X<|zH (v := (.bool _)) X X X<|zQ X X<|Z X X X X X<|Z X X X X X<|Z X X X X X<|zH (v := (.bool _)) X X X<|Y ?_
      refine zac rfl (fun c101 => ?_) (fun c101 => ?_)
      ·
       cases c101
      refine zw<|zK<|O<|zn<|zaD X X t_om X<|zg X X<|Y ?_
      refine ⟨⟨j + 1, h79⟩, ⟨?_, rfl, trivial⟩, ?_, ⟨(le63.trans le80), st83.take 0, ?_⟩, ?_⟩
      ·exact zab (by rw [zev hv ha]; split <;> omega)
      ·exact zan
      ·first | omega | (simp; omega)
      show p.voters.length - ((j + 1)) < p.voters.length - j
      omega
     refine Z X X X X X<|Z X X X X X<|Z X X X X X<|Z X X X X X<|Z X X X X X<|Z X X X X X<|Z X X X X X<|zH (v := (.bool _)) X X X<|zQ X X<|Z X X X X X<|Z X X X X X<|zH (v := (.bool _)) X X X<|zQ X X<|Z X X X X X<|Z X X X X X<|Z X X X X X<|zH (v := (.bool _)) X X X<|Y ?_
     refine zac rfl (fun c102 => ?_) (fun c102 => ?_)
     ·
      cases c102
     refine zw<|zK<|O<|zn<|zaD X X t_om X<|zg X X<|Y ?_
     refine ⟨⟨j + 1, h79⟩, ⟨?_, rfl, trivial⟩, ?_, ⟨(le63.trans le80), st83.take 0, ?_⟩, ?_⟩
     ·exact zab (by rw [zev hv ha]; split <;> omega)
     ·exact zan
     ·first | omega | (simp; omega)
     show p.voters.length - ((j + 1)) < p.voters.length - j
     omega
    refine Z X X X X X<|Z X X X X X<|Z X X X X X<|zH (v := (.bool _)) X X X<|zQ X X<|Z X X X X X<|Z X X X X X<|Z X X X X X<|Z X X X X X<|Z X X X X X<|Z X X X X X<|Z X X X X X<|zH (v := (.bool _)) X X X<|zQ X X<|Z X X X X X<|Z X X X X X<|zH (v := (.bool _)) X X X<|zQ X X<|Z X X X X X<|Z X X X X X<|Z X X X X X<|zH (v := (.bool _)) X X X<|Y ?_
    refine zac rfl (fun c103 => ?_) (fun c103 => ?_)
    ·
     cases c103
    refine zw<|zK<|O<|zn<|zaD X X t_om X<|zg X X<|Y ?_
    refine ⟨⟨j + 1, h79⟩, ⟨?_, rfl, trivial⟩, ?_, ⟨(le63.trans le80), st83.take 0, ?_⟩, ?_⟩
    ·exact zab (by rw [zev hv ha]; split <;> omega)
    ·exact zan
    ·first | omega | (simp; omega)
    show p.voters.length - ((j + 1)) < p.voters.length - j
    omega
   refine zw<|O<|W.sr<|E X zaM X zbv X X<|U (j := 2) st83.sub hc82 X X X zbP X<|zg X X ?_
   refine ze rfl rfl (zal he87 rfl rfl (hk := (show _ = ((K : Nat) : Int) by exact hKe)) (hu := zh) (hz := zl)) ?_
   refine U (j := 0) st83.sub hc86 X X X zy X<|zgS X X X<|zQ X X ?_
   refine zZ (d := 91) rfl (fun g104 => ?_) (fun g104 => ?_)
   ·
    refine M X X X<|E X zaM X zl X X<|M X X X<|U (j := 1) st83.sub hc82 X X X zy X<|M X X X<|zcJ X X X<|zM (v := (.bool _)) X X X<|zQ X X ?_
    refine zZ (d := 96) rfl (fun g105 => ?_) (fun g105 => ?_)
    ·
     refine M X X X<|E X zaM X zbv X X<|M X X X<|U (j := 2) st83.sub hc82 X X X zbP X<|M X X X<|zg X X<|M X X X ?_
     refine ze rfl rfl (zal he87 rfl rfl (hk := (show _ = ((K : Nat) : Int) by exact hKe)) (hu := zh) (hz := zl)) ?_
     refine M X X X<|U (j := 0) st83.sub hc86 X X X zy X<|M X X X<|zg X X<|M X X X<|zcC X X X<|zM (v := (.bool _)) X X X<|zQ X X ?_
     refine zZ (d := 105) rfl (fun g106 => ?_) (fun g106 => ?_)
     ·
      refine M X X X<|zg X X<|M X X X<|zcJ X X X<|zM (v := (.bool _)) X X X<|zQ X X ?_
      refine zZ (d := 109) rfl (fun g107 => ?_) (fun g107 => ?_)
      ·
       refine M X X X<|zS (v := v41) X X<|M X X X<|zg X X<|M X X X<|zf st83 X X X Tryz.call45 X (zhJ st83.sub (f42.up ((le53.trans le63).trans le80)) _)<|fun r108 w109 h110 le111 st112 q113=> ?_
       obtain rfl := q113
       refine zM (v := (.bool _)) X X X<|Y ?_
       refine zac rfl (fun c114 => ?_) (fun c114 => ?_)
       ·
        exfalso
        have sure_ : (((decide (((h0 : Int)) ∈ ((openN p K)))))) = false := by exact decide_eq_false (sure_openN hvm g105 ha g104 g106)
        exact absurd (c114.symm.trans sure_) (by decide)
       refine zw<|zK<|O<|zn<|zaD X X t_om X<|zg X X<|Y ?_
       refine ⟨⟨j + 1, h110⟩, ⟨?_, rfl, trivial⟩, ?_, ⟨((le63.trans le80).trans le111), st112.take 0, ?_⟩, ?_⟩
       ·exact zab (by rw [zev hv ha]; split <;> omega)
       ·exact zan
       ·first | omega | (simp; omega)
       show p.voters.length - ((j + 1)) < p.voters.length - j
       omega
      refine Z X X X X X<|Z X X X X X<|Z X X X X X<|zH (v := (.bool _)) X X X<|Y ?_
      refine zac rfl (fun c115 => ?_) (fun c115 => ?_)
      ·
       cases c115
      refine zw<|zK<|O<|zn<|zaD X X t_om X<|zg X X<|Y ?_
      refine ⟨⟨j + 1, h79⟩, ⟨?_, rfl, trivial⟩, ?_, ⟨(le63.trans le80), st83.take 0, ?_⟩, ?_⟩
      ·exact zab (by rw [zev hv ha]; split <;> omega)
      ·exact zan
      ·first | omega | (simp; omega)
      show p.voters.length - ((j + 1)) < p.voters.length - j
      omega
     refine Z X X X X X<|Z X X X X X<|zH (v := (.bool _)) X X X<|zQ X X<|Z X X X X X<|Z X X X X X<|Z X X X X X<|zH (v := (.bool _)) X X X<|Y ?_
     refine zac rfl (fun c116 => ?_) (fun c116 => ?_)
     ·
      cases c116
     refine zw<|zK<|O<|zn<|zaD X X t_om X<|zg X X<|Y ?_
     refine ⟨⟨j + 1, h79⟩, ⟨?_, rfl, trivial⟩, ?_, ⟨(le63.trans le80), st83.take 0, ?_⟩, ?_⟩
     ·exact zab (by rw [zev hv ha]; split <;> omega)
     ·exact zan
     ·first | omega | (simp; omega)
     show p.voters.length - ((j + 1)) < p.voters.length - j
     omega
    refine Z X X X X X<|Z X X X X X<|Z X X X X X<|Z X X X X X<|Z X X X X X<|Z X X X X X<|Z X X X X X<|zH (v := (.bool _)) X X X<|zQ X X<|Z X X X X X<|Z X X X X X<|zH (v := (.bool _)) X X X<|zQ X X<|Z X X X X X<|Z X X X X X<|Z X X X X X<|zH (v := (.bool _)) X X X<|Y ?_
    refine zac rfl (fun c117 => ?_) (fun c117 => ?_)
    ·
     cases c117
    refine zw<|zK<|O<|zn<|zaD X X t_om X<|zg X X<|Y ?_
    refine ⟨⟨j + 1, h79⟩, ⟨?_, rfl, trivial⟩, ?_, ⟨(le63.trans le80), st83.take 0, ?_⟩, ?_⟩
    ·exact zab (by rw [zev hv ha]; split <;> omega)
    ·exact zan
    ·first | omega | (simp; omega)
    show p.voters.length - ((j + 1)) < p.voters.length - j
    omega
   refine Z X X X X X<|Z X X X X X<|Z X X X X X<|zH (v := (.bool _)) X X X<|zQ X X<|Z X X X X X<|Z X X X X X<|Z X X X X X<|Z X X X X X<|Z X X X X X<|Z X X X X X<|Z X X X X X<|zH (v := (.bool _)) X X X<|zQ X X<|Z X X X X X<|Z X X X X X<|zH (v := (.bool _)) X X X<|zQ X X<|Z X X X X X<|Z X X X X X<|Z X X X X X<|zH (v := (.bool _)) X X X<|Y ?_
   refine zac rfl (fun c118 => ?_) (fun c118 => ?_)
   ·
    cases c118
   refine zw<|zK<|O<|zn<|zaD X X t_om X<|zg X X<|Y ?_
   refine ⟨⟨j + 1, h79⟩, ⟨?_, rfl, trivial⟩, ?_, ⟨(le63.trans le80), st83.take 0, ?_⟩, ?_⟩
   ·exact zab (by rw [zev hv ha]; split <;> omega)
   ·exact zan
   ·first | omega | (simp; omega)
   show p.voters.length - ((j + 1)) < p.voters.length - j
   omega
  refine zaC<|zo<|zo<|zam<|O<|W.sr<|zg X X<|zcC X X X<|Y ?_
  refine zD rfl (fun c119 => ?_) (fun c119 => ?_)
  ·
   exfalso
   have sure_ : (decide ((n0 - ((forN (p.voters.take j) K (h0 : Int) : Nat) : Int)) ≠ 0)) = false := by have q_ := tally_for p.voters K hn0; rw [show p.voters.take j = p.voters from List.take_of_length_le (by omega)]; exact decide_eq_false (by omega)
   exact t_of sure_ c119
  refine zw<|zK<|O<|zn<|zaD X X t_om X<|zg X X<|Y ?_
  refine ⟨⟨h0 + 1, h62⟩, ⟨rfl, trivial⟩, ?_, ⟨(le53.trans le63), st64, ?_⟩, ?_⟩
  ·exact zan
  ·first | omega | (simp; omega)
  show (zdh p.voters K q.heads.length).length - ((h0 + 1)) < (zdh p.voters K q.heads.length).length - h0
  omega
 refine zaC<|zo<|zo<|zam<|O<|zm<|have hor:=allE_or hk1;zn<|zQ X X<|zQ X X<|M X X X<|zg X X<|M X X X<|zcJ X X X<|M X X X<|zQ X X ?_
 refine zZ (d := 122) rfl (fun g120 => ?_) (fun g120 => ?_)
 ·
  refine Z X X X X X<|Z X X X X X<|M X X X<|zM (v := (.bool _)) X X X<|zM (v := (.bool _)) X X X<|zz X X<|Y<|zq<|zb Tryz.results14 ?_
  refine ⟨h52, _, rfl, st54.done, ?_⟩
  refine zr ?_
  first | rfl | (rcases hor with ⟨h1_, _⟩ | ⟨h1_, _⟩ <;> simp_all; done)
 refine M X X X<|zg X X<|M X X X<|zcJ X X X<|M X X X<|zH (v := (.bool _)) X X X<|zM (v := (.bool _)) X X X<|zz X X<|Y<|zq<|zb Tryz.results14 ?_
 refine ⟨h52, _, rfl, st54.done, ?_⟩
 refine zr ?_
 first | rfl | (rcases hor with ⟨h1_, _⟩ | ⟨h1_, _⟩ <;> simp_all; done)
end Go.Pk
