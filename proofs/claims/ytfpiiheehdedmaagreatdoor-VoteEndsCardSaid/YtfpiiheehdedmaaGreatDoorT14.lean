/- A PART OF THE PROOF: contracts of functions, each walked once (much of it printed by a program of the author's own). -/
import Derived.Test.YtfpiiheehdedmaaGreatDoorT13
import Derived.Test.YtfpiiheehdedmaaGreatDoorT2
import Derived.Test.YtfpiiheehdedmaaGreatDoorT4
set_option linter.unusedSimpArgs false
set_option linter.unusedVariables false
set_option maxRecDepth 4000
namespace Go.Pk
open Go Go.RowKit Go.Proofs
theorem c_stem_Homographs_own {h : Heap} {w : World} (hs : Sub h w) {t : Text} {t_v0 : Value} (t_f0 : Sl LChapter h t_v0 t.chapters) {x : Lexicon} {x_v0 : Value} (x_f0 : Sl LRule h x_v0 x.rules) {x_v1 : Value} (x_f1 : Sl LDecision h x_v1 x.decisions) (K1 : Cells h 1 0 Tryz.glob1) : Calls Tryz.prog 84 #[.agg #[t_v0], .agg #[x_v0, x_v1]] w (fun e_ w' => ∃ h' v0_ o0_, e_ = .returned (.tuple #[v0_, .int .i64 (zaH t x)]) ∧ Le h h' ∧ St h w h' w' [o0_] ∧ OSl LStr 9 h' v0_ (((homR t x))) o0_) := by
 refine zL (n := 60) Tryz.func84 X X X<|have st0:=t_s0 hs;have t_f0_b:=t_f0.le;have x_f0_b:=x_f0.le;have x_f1_b:=x_f1.le;W.sr<|zJ st0 (cs := [t_v0]) X X X<|fun b1 w2 h3 le4 hc5 st6=>zJ st6 (cs := [x_v0, x_v1]) X X X<|fun b7 w8 h9 le10 hc11 st12=>zcv X X<|zt X X<|Y<|W.sr<|zz st12.sub (hc5.up le10) X zbo zax X X<|zz st12.sub hc11 X zca zaJ X X<|have l13:=le4.trans le10;zg st12 X X X Tryz.call117 X (c_stem_open st12.sub (t := t) (t_f0.up l13) (x := x) (x_f0.up l13) (x_f1.up l13) (K1.up l13))<|fun r14 w15 h16 le17 st18 q19=> ?_
 rcases Bool.eq_false_or_eq_true (decide (zaH (t) (x) = 0)) with hb20 | hb20
 ·
  simp only [hb20, if_true, if_false, Bool.false_eq_true, reduceIte] at q19
  obtain ⟨v21, rfl, f22⟩ := q19
  obtain ⟨b23, vs24, rfl, hc25, hr26⟩ := f22
  obtain ⟨v27, v29, v31, v33, rfl, f28, f30, f32, lm34⟩ := hr26
  have f28_b := f28.le
  have f30_b := f30.le
  have f32_b := f32.le
  refine zcE X X<|zM (v := (.pointer (some _))) X X X<|zM (v := (.int _ _)) X X X<|v_asP X X<|zt X X<|Y<|zm<|W.sr<|zf X X<|zcA X X X<|Y ?_
  refine zG rfl (fun c35 => ?_) (fun c35 => ?_)
  ·
   refine W.sr<|zf X X<|zcv X X<|zt X X<|Y<|zw<|zc<|zaY Tryz.results84 ?_
   have st36 := st18.snoc
   have f37 := OSl.nil LStr 9 h16
   refine ⟨h16, (.slice none 0 0), _, congrArg Ending.returned (tup2 rfl (zac ?_)), (l13.trans le17), st36.sublist (own' := [[]]) (.cons_cons _ (.slnil)), OSl.to f37 ?_⟩
   all_goals simp_all [homR]
  refine zx<|E<|zm ?_
  have hx0 : zaH t x = 0 := by simpa using c35
  have hel := entries_len (zdO hx0) x
  refine zl<|zfy (κ := Str) (υ := Head) (ek := strV) (eu := (fun x : Head => .agg [strV x.stem, .int .u8 x.mark].toArray)) st18 X<|fun v38 o39 w40 f41 st42=> ?_
  obtain ⟨mb43, rfl⟩ := f41.form
  have nd44 : (([] : List (Str × Head)).map (·.1)).Nodup := by simp
  refine zaa (v := (.map (some mb43))) X X<|Y<|W.sr<|zcv X X<|Y<|zm<|W.sr<|v_mvP X X ?_
  have l45 := l13.trans le17
  refine zg st42 rfl rfl rfl Tryz.call118 rfl (c_stem_office_entries st42.sub (o := (Office.mk (x) (t) (zeQ (x)))) f28 f30 f32 lm34 hc25 (K1.up l45) (by exact ⟨hx0, rfl⟩)) ?_
  intro r46 w47 h48 le49 st50 q51
  obtain ⟨v52, e54, f53⟩ := q51
  rw [← e54] at f53
  have f53_b := f53.le
  have f55 := Sl.to f53 (show _ = (zbz t x) from rfl)
  have f55_b := f55.le
  refine zaC f55 X Tryz.underlying187 X<|zf X X<|Y<|zH ?_
  have st59 := st50.snoc
  have f60 := OSl.nil LStr 9 h48
  refine zao ([9, 11, 12, 13] ++ t_rg 27 29) (G := Nat × List (Str × Head) × Value × List (Nat × Obj) × List (Nat × Obj) × Heap) (fun ⟨i, m, v_9, o_9, o_8, h56⟩ => [(9, v_9), (27, .int .i64 (i : Int))]) (fun ⟨i, m, v_9, o_9, o_8, h56⟩ w' => Le h48 h56 ∧ St h w h56 w' [o_8, o_9] ∧ (OSl LStr 9 h56 v_9 (homsN (zbz t x) i) o_9) ∧ (OM strV (fun x : Head => .agg [strV x.stem, .int .u8 x.mark].toArray) (m) o_8 (.map (some mb43))) ∧ (((m).map (·.1)).Nodup) ∧ (i ≤ (zbz t x).length) ∧ (∀ wd, look m wd = zdy ((zbz t x).take i) wd)) (fun ⟨i, m, v_9, o_9, o_8, h56⟩ => (zbz t x).length - i) ⟨0, [], (.slice none 0 0), [], o39, h48⟩ ⟨rfl, rfl, trivial⟩ ⟨Le.refl _, st59, (OSl.to f60 (by rfl)), (by have q := f41; exact q), (by have q := nd44; exact q), zaP, (by intro wd; rfl)⟩ ?_
  rintro ⟨i, m, v_9, o_9, o_8, h56⟩ _ w61 ⟨le57, st58, hO_9, hM_8, hN_8, hi, hm⟩
  refine W.sr<|zaO X X X<|Y<|zm ?_
  refine zG rfl (fun c62 => ?_) (fun c62 => ?_)
  ·
   refine zx<|E<|zm<|zH<|W.sr ?_
   obtain ⟨y, hy⟩ : ∃ y_, ((zbz t x))[i]? = some y_ := t_ge (by omega)
   obtain ⟨b63, o64, _, he66, hc65, hr_y⟩ := Sl.elem (f55.up le57) hy
   obtain ⟨rfl, ls67, ls68, lu69⟩ := hr_y
   simp only [big] at ls67
   simp only [big] at ls68
   refine zT he66 X X (hk := X) (hu := Tryz.underlying187) (hz := Tryz.sizeOf190) X<|zz st58.sub hc65 X Tryz.isAgg190 Tryz.sizeOf190 X X<|zX st58 Tryz.zeroValue190 X X<|fun b70 w71 st72=>zN st72 (k := 2) X X X (za X (za X (za X (za X (za X (za X zau)))))) Tryz.sizeOf190 X X X<|fun w73 st74=> ?_
   obtain ⟨h75, le76, hb77, st79⟩ := st74.freeze (k := 2) rfl
   have hc78 := Cells.of hb77
   refine Y<|W.sr<|zO (v := (.map (some mb43))) X X<|O X zdF X zai X X<|U (j := 3) st79.sub hc78 X X X zav X<|zi X X (r_look_ok (k := (y.word)) (zu := zdo) (key_str zar) Tryz.underlying186 hM_8 (st79.ent (k := 0) X) zeN X X X)<|zcE X X<|zM (v := (.agg (List.toArray _))) X X X<|zM (v := (.bool _)) X X X<|zX st79 zeN X X<|fun b80 w81 st82=>zN st82 (k := 3) X X X (za X (za X zau)) zah X X X<|fun w83 st84=> ?_
   obtain ⟨h85, le86, hb87, st89⟩ := st84.freeze (k := 3) rfl
   have hc88 := Cells.of hb87
   refine zF X X<|Y<|W.sr<|zU X X<|zU X X ?_
   refine zas (d := 39) rfl (fun g90 => ?_) (fun g90 => ?_)
   ·
    refine Z X X X<|zz st89.sub hc88 X zbH zah X X<|Z X X X<|O X zdF X zah X X<|Z X X X<|zag (j := 4) st89.sub (hc78.up le86) (us := [strV (y.head.stem), .int .u8 (y.head.mark)]) X X zbH zah X X X<|Z X X X<|zi X X (r_stneq X X Tryz.eqGuardType72 (Tryz.eq_Head ((look m (y.word)).getD zdo) y.head))<|zQ (v := (.bool _)) X X X<|Y ?_
    refine zG rfl (fun c91 => ?_) (fun c91 => ?_)
    ·
     refine zl<|zO (v := v_9) X X<|O X zdF X zai X X<|U (j := 3) st89.sub (hc78.up le86) X X X zav X<|zae (L := LStr) (xs := [(y.word)]) (cs := [strV (y.word)]) st89 (Enc.cons (L := LStr) (vs := [strV (y.word)]) (x := (y.word)) (h := h85) (⟨rfl, zbk⟩) Enc.nil) X X X zV Tryz.info9 X X X t_kr<|fun v92 w93 h96 le97 f94 st95=> ?_
     refine zcN (k := 1) (nb := 16) st95 (hO_9.up ((le76.trans le86).trans le97)) rfl f94 rfl rfl rfl zV Tryz.info9 rfl rfl rfl (by decide) rfl (by have q := zhz (zbz t x) i; simp only [List.length_append, List.length_cons, List.length_nil]; omega) (by have q := zhz (zbz t x) i; simp only [List.length_append, List.length_cons, List.length_nil]; omega) ?_
     intro v98 o99 w100 _ e101 f102 st103
     subst e101
     refine zaa (v := v98) X X<|zr<|zK<|E<|zl<|zay X X t_om X<|zf X X<|Y ?_
     have l104 := ((le57.trans le76).trans le86).trans le97
     refine ⟨⟨i + 1, m, v98, o99, o_8, h96⟩, ⟨rfl, rfl, trivial⟩, ?_, ⟨l104, st103.take 2, ?_, ?_, ?_, ?_, ?_⟩, ?_⟩
     ·exact zal
     ·refine OSl.to f102 ?_
      rw [homsN_succ hy, homAt_yes hm g90 (by simpa using c91)]
     ·have q := hM_8
      exact q
     ·have q := hN_8
      exact q
     ·first | omega | (simp; omega)
     ·exact hom_keep hy hm g90
     show (zbz t x).length - ((i + 1)) < (zbz t x).length - i
     omega
    refine zl<|zO (v := (.map (some mb43))) X X<|O X zdF X zai X X<|U (j := 3) st89.sub (hc78.up le86) X X X zav X<|O X zdF X zah X X<|zag (j := 4) st89.sub (hc78.up le86) (us := [strV (y.head.stem), .int .u8 (y.head.mark)]) X X zbH zah X X X<|zet (i := 0) st89 hM_8 X hN_8 (key_str zar) Tryz.underlying186 X (k := (y.word)) X (u := y.head) X<|fun o105 w106 _ e107 f108 nd109 st110=> ?_
    subst e107
    refine zr<|zK<|E<|zl<|zay X X t_om X<|zf X X<|Y ?_
    refine ⟨⟨i + 1, (putM m y.word y.head), v_9, o_9, o105, h85⟩, ⟨rfl, rfl, trivial⟩, ?_, ⟨((le57.trans le76).trans le86), st110.take 2, ?_, ?_, ?_, ?_, ?_⟩, ?_⟩
    ·exact zal
    ·refine OSl.to (hO_9.up (le76.trans le86)) ?_
     rw [homsN_succ hy, homAt_no hm (fun _ => by simpa using c91), List.append_nil]
    ·have q := f108
     exact q
    ·have q := nd109
     exact q
    ·first | omega | (simp; omega)
    ·exact hom_put hy hm (fun _ => by simpa using c91)
    show (zbz t x).length - ((i + 1)) < (zbz t x).length - i
    omega
   refine M X X X X X<|M X X X X X<|M X X X X X<|M X X X X X<|zP (v := (.bool _)) X X X<|Y ?_
   refine zad rfl (fun c111 => ?_) (fun c111 => ?_)
   ·
    cases c111
   refine zl<|zO (v := (.map (some mb43))) X X<|O X zdF X zai X X<|U (j := 3) st89.sub (hc78.up le86) X X X zav X<|O X zdF X zah X X<|zag (j := 4) st89.sub (hc78.up le86) (us := [strV (y.head.stem), .int .u8 (y.head.mark)]) X X zbH zah X X X<|zet (i := 0) st89 hM_8 X hN_8 (key_str zar) Tryz.underlying186 X (k := (y.word)) X (u := y.head) X<|fun o112 w113 _ e114 f115 nd116 st117=> ?_
   subst e114
   refine zr<|zK<|E<|zl<|zay X X t_om X<|zf X X<|Y ?_
   refine ⟨⟨i + 1, (putM m y.word y.head), v_9, o_9, o112, h85⟩, ⟨rfl, rfl, trivial⟩, ?_, ⟨((le57.trans le76).trans le86), st117.take 2, ?_, ?_, ?_, ?_, ?_⟩, ?_⟩
   ·exact zal
   ·refine OSl.to (hO_9.up (le76.trans le86)) ?_
    rw [homsN_succ hy, homAt_no hm (fun q => by rw [g90] at q; cases q), List.append_nil]
   ·have q := f115
    exact q
   ·have q := nd116
    exact q
   ·first | omega | (simp; omega)
   ·exact hom_put hy hm (fun q => by rw [g90] at q; cases q)
   show (zbz t x).length - ((i + 1)) < (zbz t x).length - i
   omega
  refine zaA<|zo<|zo<|zak<|E<|W.sr<|zO (v := v_9) X X ?_
  have con := sort1 (L := LStr) (T := 9) (f := 119) strV (by rintro _ _ _ ⟨rfl, _⟩; rfl) rfl (fun l => l.mergeSort fun a b => decide (a ≤ b)) (fun l => List.mergeSort_perm _ _) (fun blk off cap zs w hH hb hs => Tryz.slices_Sort_string blk off cap zs w hH hb hs) (fun p cap w => Tryz.slices_Sort_string_none p cap w) (i := 1) st58 hO_9 rfl (by have q := zhz (zbz t x) i; first | omega | (simp only [List.length_mergeSort]; omega))
  refine zaB rfl rfl (zaV rfl Tryz.call119 rfl) (con.mono ?_)
  rintro _ w118 ⟨rfl, o119, _, e120, f121, st122⟩
  subst e120
  refine ⟨_, rfl, ?_⟩
  clear con
  refine Y<|W.sr<|zO (v := v_9) X X ?_
  have st130 := st122.sublist (own' := [o119]) (.cons _ (.cons_cons _ (.slnil)))
  have con := zgx (rest := []) f121 (by have q := zhz (zbz t x) i; first | omega | (simp only [List.length_mergeSort]; omega)) st130
  refine zaB rfl rfl (zaV rfl Tryz.call120 rfl) (con.mono ?_)
  rintro _ w123 ⟨h124, o125, v126, rfl, le127, st128, f129⟩
  refine ⟨_, rfl, ?_⟩
  clear con
  have f131 := OSl.to f129 (show _ = (setL sLt (homsN (zbz t x) (zbz t x).length)) from by rw [show i = (zbz t x).length by omega]; exact setOf_sort _)
  refine zaa (v := v126) X X<|zt X X<|Y<|zw<|zaY Tryz.results84 ?_
  refine ⟨h124, v126, _, congrArg Ending.returned (tup2 rfl (zac ?_)), (((l45.trans le49).trans le57).trans le127), st128.sublist (own' := [o125]) (.cons_cons _ (.slnil)), OSl.to f131 ?_⟩
  ·exact hx0.symm
  simp [homR, hx0]
 simp only [hb20, if_true, if_false, Bool.false_eq_true, reduceIte] at q19
 obtain ⟨v132, rfl, f133⟩ := q19
 obtain rfl := f133
 refine zcE X X<|zM (v := (.pointer none)) X X X<|zM (v := (.int _ _)) X X X<|zaa X X<|zt X X<|Y<|zm<|W.sr<|zf X X<|zcA X X X<|Y ?_
 refine zG rfl (fun c134 => ?_) (fun c134 => ?_)
 ·
  refine W.sr<|zf X X<|zcv X X<|zt X X<|Y<|zw<|zc<|zaY Tryz.results84 ?_
  have st135 := st18.snoc
  have f136 := OSl.nil LStr 9 h16
  refine ⟨h16, (.slice none 0 0), _, congrArg Ending.returned (tup2 rfl (zac ?_)), (l13.trans le17), st135.sublist (own' := [[]]) (.cons_cons _ (.slnil)), OSl.to f136 ?_⟩
  all_goals simp_all [homR]
 exfalso
 simp_all
theorem c_vote_Moot_1 {h : Heap} {w : World} (hs : Sub h w) (wd : Str) (wd_le : wd.length ≤ 281474976710656) {still_b : Nat} {still_v : Value} {still : List (Str × Bool)} (still_f : FM strV (fun b : Bool => .bool b) h still still_v) (still_c : Cells h still_b 0 [still_v]) : Calls Tryz.prog 87 #[strV wd, .pointer (some ⟨still_b, 0, none⟩)] w (Rets h w (fun _ _ res_ => res_ = .bool (((look still wd).getD false)))) := by
 refine zL (n := 7) Tryz.func87 X X X<|have st0:=t_s0 hs;W.sr<|zF X X<|Y<|W.sr<|U (j := 0) st0.sub still_c X X X Tryz.isAgg137 X<|zcd X X<|zi X X (r_look_fm (k := wd) (zu := false) (key_str zar) Tryz.underlying137 still_f st0.sub zfs X X X)<|zF X X<|Y<|zw<|zb Tryz.results87 ?_
 refine ⟨h, _, rfl, st0.done, ?_⟩
 refine zq ?_
 rfl
set_option maxHeartbeats 4000000 in
theorem c_vote_Moot {h : Heap} {w : World} (hs : Sub h w) {p : Poll} {p_v0 : Value} (p_f0 : Sl LChapter h p_v0 p.text.chapters) {p_v1 : Value} (p_f1 : Sl LRule h p_v1 p.lexicon.rules) {p_v2 : Value} (p_f2 : Sl LDecision h p_v2 p.lexicon.decisions) {p_v3 : Value} (p_f3 : Sl LQuestion h p_v3 p.questions) {p_v4 : Value} (p_f4 : Sl LVoter h p_v4 p.voters) (K1 : Cells h 1 0 Tryz.glob1) (K0 : Cells h 0 0 Tryz.glob0) : Calls Tryz.prog 29 #[.agg #[p_v0, p_v1, p_v2, p_v3, p_v4]] w (Rets h w (fun h' _ res_ => ∃ u0, res_ = .tuple #[u0, .int .i64 (allE p true)] ∧ Sl LStr h' u0 ((mootR p)))) := by
 refine zL (n := 69) Tryz.func29 X X X<|have st0:=t_s0 hs;have p_f0_b:=p_f0.le;have p_f1_b:=p_f1.le;have p_f2_b:=p_f2.le;have p_f3_b:=p_f3.le;have p_f4_b:=p_f4.le;W.sr<|zJ st0 (cs := [p_v0, p_v1, p_v2, p_v3, p_v4]) X X X<|fun b1 w2 h3 le4 hc5 st6=>zcv X X<|zt X X<|Y<|W.sr<|zz st6.sub hc5 X zbn zaI X X<|zg st6 X X X zhi X (zfg st6.sub (p := p) (p_f0.up le4) (p_f1.up le4) (p_f2.up le4) (p_f3.up le4) (p_f4.up le4) _ (K1.up le4) (K0.up le4))<|fun r7 w8 h9 le10 st11 q12=> ?_
 obtain ⟨v13, rfl, f14⟩ := q12
 have f14_b := f14.le
 refine zcE X X<|zM (v := v13) X X X<|zM (v := (.int _ _)) X X X<|zaa (v := v13) X X<|zt X X<|Y<|zm<|W.sr<|zf X X<|zcA X X X<|Y ?_
 refine zG rfl (fun c15 => ?_) (fun c15 => ?_)
 ·
  refine W.sr<|zf X X<|zcv X X<|zt X X<|Y<|zw<|zc<|zaY Tryz.results29 ?_
  refine ⟨h9, _, rfl, st11.done, ?_⟩
  refine ⟨_, tup2 rfl (zac ?_), Sl.to (Sl.nil _ _) ?_⟩
  all_goals (simp_all [mootR])
 refine zx<|E<|zm ?_
 have hz0 : allE p true = 0 := by simpa using c15
 obtain ⟨hk1, hk2, hk3, hk4⟩ := zhl hz0
 have hk5 := List.length_pos_iff.2 hk3
 have hk6 : (allL p true).length = (zB p).length := by rw [hk4]
 have hk7 := zen (zbY hk1).2
 have hk8 := zck (zbY hk1).2
 have hpb := (zbY hk1).2
 have hx0 := (zbY hk1).1
 have ht0 := zdO hx0
 have hhl := homR_len hx0
 refine zl<|O X zD X zax X X<|zag (j := 0) st11.sub (hc5.up le10) (us := [p_v0]) X X zbo zax X X X<|O X zD X zaJ X X<|zag (j := 1) st11.sub (hc5.up le10) (us := [p_v1, p_v2]) X X zca zaJ X X X ?_
 have l16 := le4.trans le10
 refine zaB rfl rfl (zaV rfl Tryz.call84 rfl) ((c_stem_Homographs_own st11.sub (t := p.text) (p_f0.up l16) (x := p.lexicon) (p_f1.up l16) (p_f2.up l16) (K1.up l16)).mono ?_)
 rintro _ w17 ⟨h18, v22, o23, rfl, le19, s21, f24⟩
 refine ⟨_, rfl, ?_⟩
 have st20 := st11.call s21
 refine zcE X X<|zM (v := v22) X X X<|zM (v := (.int _ _)) X X X<|zaa (v := v22) X X<|zt X X<|Y<|W.sr<|zfy (κ := Str) (υ := Bool) (ek := strV) (eu := (fun b : Bool => .bool b)) st20 X<|fun v25 o26 w27 f28 st29=> ?_
 obtain ⟨mb30, rfl⟩ := f28.form
 have nd31 : (([] : List (Str × Bool)).map (·.1)).Nodup := by simp
 refine zX st29 Tryz.zeroValue137 X X<|fun b32 w33 st34=>zaM st34 (k := 2) X X (v := (.map (some mb30))) X f28.one Tryz.sizeOf137 X X X<|fun w35 st36=> ?_
 obtain ⟨h37, le38, hb39, st41⟩ := st36.freeze (k := 2) rfl
 have hc40 := Cells.of hb39
 refine Y<|zm<|W.sr<|zO (v := v22) X X<|zfV (f24.up le38) X zV X<|zf X X<|Y<|zH ?_
 refine zao ([10] ++ t_rg 34 7) (G := Nat × List (Str × Bool) × List (Nat × Obj) × Heap) (fun ⟨k, m, o_31, h42⟩ => [(34, .int .i64 (k : Int))]) (fun ⟨k, m, o_31, h42⟩ w' => Le h37 h42 ∧ St h w h42 w' [o23, o_31, []] ∧ (OM strV (fun b : Bool => .bool b) (m) o_31 (.map (some mb30))) ∧ (((m).map (·.1)).Nodup) ∧ (k ≤ (homR p.text p.lexicon).length) ∧ (∀ w, look m w = if w ∈ (homR p.text p.lexicon).take k then some true else none)) (fun ⟨k, m, o_31, h42⟩ => (homR p.text p.lexicon).length - k) ⟨0, [], o26, h37⟩ ⟨rfl, trivial⟩ ⟨Le.refl _, st41, (by have q := f28; exact q), (by have q := nd31; exact q), zaP, (by intro w; simp [look])⟩ ?_
 rintro ⟨k, m, o_31, h42⟩ _ w45 ⟨le43, st44, hM_31, hN_31, hk, hm⟩
 refine W.sr<|zaO X X X<|Y<|zm ?_
 refine zG rfl (fun c46 => ?_) (fun c46 => ?_)
 ·
  refine zx<|E<|zm<|zH<|W.sr ?_
  obtain ⟨wd, hwd⟩ : ∃ y_, ((((homR (p.text) (p.lexicon)))))[k]? = some y_ := t_ge (by omega)
  obtain ⟨b47, o48, cur49, _, e52, he50, hr_wd, hc51⟩ := OSl.elem (f24.up (le38.trans le43)) hwd
  subst e52
  obtain ⟨rfl, ls53⟩ := hr_wd
  simp only [big] at ls53
  refine zT he50 X X (hk := X) (hu := zV) (hz := zai) X<|zi X X (zcJ (j := 0) (st44.get (k := 0) X) hc51 X X X zav)<|zfz X X<|Y<|zl<|U (j := 0) st44.sub (hc40.up le43) X X X Tryz.isAgg137 X<|zcd X X<|zet (i := 1) st44 hM_31 X hN_31 (key_str zar) Tryz.underlying137 X (k := wd) X (u := true) X<|fun o54 w55 _ e56 f57 nd58 st59=> ?_
  subst e56
  refine zr<|zK<|E<|zl<|zay X X t_om X<|zf X X<|Y ?_
  refine ⟨⟨k + 1, (putM m wd true), o54, h42⟩, ⟨rfl, trivial⟩, ?_, ⟨le43, st59, ?_, ?_, ?_, ?_⟩, ?_⟩
  ·exact zal
  ·have q := f57
   exact q
  ·have q := nd58
   exact q
  ·first | omega | (simp; omega)
  ·exact still_put hwd hm
  show (homR p.text p.lexicon).length - ((k + 1)) < (homR p.text p.lexicon).length - k
  omega
 refine zaA<|zo<|zo<|zak<|E<|zm<|W.sr<|zO (v := v13) X X ?_
 refine zg st44 rfl rfl rfl Tryz.call78 rfl (zhK st44.sub (f14.up ((le19.trans le38).trans le43)) (by omega) (by intro t_ ht_; rw [hk4] at ht_; exact zdl ht_) (by omega)) ?_
 intro r60 w61 h62 le63 st64 q65
 obtain ⟨v66, e68, f67⟩ := q65
 rw [← e68] at f67
 have f67_b := f67.le
 have f69 := Sl.to f67 (show _ = (zcB (zB p)) from by rw [hk4])
 have f69_b := f69.le
 refine zaC f69 X ze X<|zf X X<|Y<|zH ?_
 refine zao ([11, 12, 13, 14] ++ t_rg 44 22) (G := Nat × List (Str × Bool) × List (Nat × Obj) × Heap) (fun ⟨k2, m2, o_31, h70⟩ => [(44, .int .i64 (k2 : Int))]) (fun ⟨k2, m2, o_31, h70⟩ w' => Le h62 h70 ∧ St h w h70 w' [o23, o_31, []] ∧ (OM strV (fun b : Bool => .bool b) (m2) o_31 (.map (some mb30))) ∧ (((m2).map (·.1)).Nodup) ∧ (k2 ≤ (zcB (zB p)).length) ∧ (∀ w, look m2 w = zgE (homR p.text p.lexicon) p (zcB (zB p)) k2 w)) (fun ⟨k2, m2, o_31, h70⟩ => (zcB (zB p)).length - k2) ⟨0, m, o_31, h62⟩ ⟨rfl, trivial⟩ ⟨Le.refl _, st64, (by have q := hM_31; exact q), (by have q := hN_31; exact q), zaP, (by exact still_zero (by omega) hm)⟩ ?_
 rintro ⟨k2, m2, o_31, h70⟩ _ w73 ⟨le71, st72, hM_31, hN_31, hk2, hm2⟩
 refine W.sr<|zaO X X X<|Y<|zm ?_
 refine zG rfl (fun c74 => ?_) (fun c74 => ?_)
 ·
  refine zx<|E<|zm<|zH<|W.sr<|zf X X ?_
  obtain ⟨ch, hch⟩ : ∃ y_, ((zcB (zB p)))[k2]? = some y_ := t_ge (by omega)
  obtain ⟨b75, o76, _, he78, hc77, hr_ch⟩ := Sl.elem (f69.up le71) hch
  obtain rfl := hr_ch
  refine zT he78 X X (hk := X) (hu := ze) (hz := zn) X<|U (j := 0) st72.sub hc77 X X X zA X<|zt X X<|zt X X<|Y<|zm ?_
  have hk9 : k2 < p.questions.length := by have q_ := set_len7 hk3; omega
  refine zby Tryz.mixed t_kr (Cls h70 _) (Cls.drew st72)<|zR X zD X zax X X<|have l79:=((((le10.trans le19).trans le38).trans le43).trans le63).trans le71;zC X X (fun _ hC => (zde (j := 0) hC.sub (hc5.up l79) (us := [p_v0]) X X zbo zax X X))<|zR X zD X zbl X X<|zC X X (fun _ hC => (zd (j := 3) hC.sub (hc5.up l79) X X X zbx))<|zcr X X ?_
  obtain ⟨q, hq⟩ : ∃ y_, (p.questions)[k2]? = some y_ := t_ge (by omega)
  have l84 := ((((l16.trans le19).trans le38).trans le43).trans le63).trans le71
  obtain ⟨b80, o81, _, he83, hc82, hr_q⟩ := Sl.elem (p_f3.up l84) hq
  obtain ⟨v85, rfl, f86⟩ := hr_q
  have f86_b := f86.le
  refine zbp he83 X X (hk := X) (hu := zaq) (hz := zbB) X<|zR X zaw X zW X X<|zC X X (fun _ hC => (zde (j := 0) hC.sub hc82 (us := [.int .i64 (q.at_.chapter), .int .i64 (q.at_.line), .int .i64 (q.at_.word)]) X X zaL zW X X)) ?_
  refine zcy rfl rfl (fun _ => zaV rfl Tryz.call85 rfl) (fun _ hC => Rets.quiet hC (by have con := (zgO hC.sub (t := p.text) (p_f0.up l84) (p := q.at_)); rw [at_word ht0, at_err ht0 (zfQ hpb hq).1] at con; exact con)) ?_
  refine u_mvT X X<|u_extract (v := (strV _)) X X X<|u_extract (v := (.int _ _)) X X X<|u_asS X X<|u_asI X X<|zbe ?_
  rintro w87 ⟨h88, s89⟩
  have st90 := st72.call0 s89
  refine E<|W.sr<|zf X X<|zaO X X X<|Y ?_
  refine zG rfl (fun c91 => ?_) (fun c91 => ?_)
  ·
   refine zl<|have l92:=((le43.trans le63).trans le71).trans s89.le;U (j := 0) st90.sub (hc40.up l92) X X X Tryz.isAgg137 X<|zcd X X<|OpsL.mapDelete (i := 1) st90 hM_31 X hN_31 (key_str zar) Tryz.underlying137 X (k := ((zch p.text q.at_))) X<|fun o93 w94 _ e95 f96 nd97 st98=> ?_
   subst e95
   refine zr<|zK<|E<|zl<|zay X X t_om X<|zf X X<|Y ?_
   refine ⟨⟨k2 + 1, (delM m2 (zch p.text q.at_)), o93, h88⟩, ⟨rfl, trivial⟩, ?_, ⟨(le71.trans s89.le), st98, ?_, ?_, ?_, ?_⟩, ?_⟩
   ·exact zal
   ·have q := f96
    exact q
   ·have q := nd97
    exact q
   ·first | omega | (simp; omega)
   ·exact still_del hq hch c91 hm2
   show (zcB (zB p)).length - ((k2 + 1)) < (zcB (zB p)).length - k2
   omega
  refine zx<|zK<|E<|zl<|zay X X t_om X<|zf X X<|Y ?_
  refine ⟨⟨k2 + 1, m2, o_31, h88⟩, ⟨rfl, trivial⟩, ?_, ⟨(le71.trans s89.le), st90, ?_, ?_, ?_, ?_⟩, ?_⟩
  ·exact zal
  ·have q := hM_31
   exact q
  ·have q := hN_31
   exact q
  ·first | omega | (simp; omega)
  ·exact still_skip hq hch c91 hm2
  show (zcB (zB p)).length - ((k2 + 1)) < (zcB (zB p)).length - k2
  omega
 refine zaA<|zo<|zo<|zak<|E<|zm ?_
 obtain ⟨h99, le100, f101, st102⟩ := OM.freeze (k := 1) st72 hM_31 rfl
 refine zl<|zO (v := v22) X X<|zcH X X X ?_
 have st103 := st102.take 1
 have con := zfU (rest := []) (f24.up ((((le38.trans le43).trans le63).trans le71).trans le100)) (g := 87) (caps := [.pointer (some ⟨b32, 0, none⟩)]) (fun x_ => ((look (m2) (x_)).getD false)) (by omega) Tryz.call87 (fun x_ h_ w_ vs_ le_ hs_ hx_ hr_ u_ hu_ => by cases hu_; obtain ⟨hr1_, hr2_⟩ := hr_; cases hr1_; simp only [big] at hr2_; exact c_vote_Moot_1 hs_ _ hr2_ (f101.up le_) ((hc40.up (((le43.trans le63).trans le71).trans le100)).up le_)) st103
 refine zaB rfl rfl (zaV rfl Tryz.call86 rfl) (con.mono ?_)
 rintro _ w104 ⟨h105, o106, v107, rfl, le108, st109, f110⟩
 refine ⟨_, rfl, ?_⟩
 clear con
 refine zaa (v := v107) X X<|zt X X<|Y<|zw<|zaY Tryz.results29 ?_
 obtain ⟨h111, le112, f113, st114⟩ := OSl.freeze (k := 0) st109 f110 rfl (by refine Nat.le_trans (List.length_filter_le _ _) ?_; omega)
 refine ⟨h111, _, rfl, st114.done, ?_⟩
 refine ⟨_, tup2 rfl (zac ?_), Sl.to f113 ?_⟩
 all_goals first | (simp_all [mootR]; done) | (rw [mootR, if_pos hz0]; rw [show (zcB (zB p)).length = k2 by omega]; exact still_filter hm2)
end Go.Pk

namespace Go.Pk
open Go Go.RowKit Go.Proofs
theorem zfq {h : Heap} {w : World} (hs : Sub h w) (chapter : Int) (line : Int) (word : Int) : Calls Tryz.prog 38 #[.int .i64 chapter, .int .i64 line, .int .i64 word] w (Rets h w (fun _ _ res_ => res_ = .agg #[.int .i64 ((Place.mk chapter line word)).chapter, .int .i64 ((Place.mk chapter line word)).line, .int .i64 ((Place.mk chapter line word)).word])) := by
 refine zL (n := 11) Tryz.func38 X X X<|have st0:=t_s0 hs;W.sr<|zX st0 Tryz.zeroValue70 X X<|fun b1 w2 st3=>Y<|W.sr<|zf X X<|zf X X<|zf X X<|zi X X (zbv (cs := [.int .i64 chapter, .int .i64 line, .int .i64 word]) t_kr)<|zN st3 (k := 0) X X X (za X (za X (za X zau))) zW X X X<|fun w4 st5=> ?_
 obtain ⟨h6, le7, hb8, st10⟩ := st5.freeze (k := 0) rfl
 have hc9 := Cells.of hb8
 refine Y<|zw<|zfL Tryz.results38 X zaL zW X st10.sub hc9 ?_
 refine ⟨h6, _, rfl, st10.done, ?_⟩
 refine ?_
 all_goals rfl
theorem zfF {h : Heap} {w : World} (hs : Sub h w) (a : Str) (a_le : a.length ≤ 281474976710656) (m : Int) (m_l : 0 ≤ m ∧ m ≤ 255) (b : Str) (b_le : b.length ≤ 281474976710656) (n : Int) (n_l : 0 ≤ n ∧ n ≤ 255) : Calls Tryz.prog 93 #[strV a, .int .u8 m, strV b, .int .u8 n] w (Rets h w (fun h' _ res_ => ∃ u0, res_ = u0 ∧ Sl LHead h' u0 (([Head.mk a m, Head.mk b n] : List Head)))) := by
 refine zL (n := 16) Tryz.func93 X X X<|have st0:=t_s0 hs;W.sr<|zcv X X<|Y<|W.sr<|zcd X X<|zf X X<|zi X X (zbv (cs := [strV a, .int .u8 m]) t_kr)<|zcd X X<|zf X X<|zi X X (zbv (cs := [strV b, .int .u8 n]) t_kr) ?_
 refine zae (L := LHead) (xs := [(Head.mk (a) (m)), (Head.mk (b) (n))]) (cs := [strV a, .int .u8 m, strV b, .int .u8 n]) st0 (Enc.cons (L := LHead) (vs := [strV a, .int .u8 m]) (x := (Head.mk (a) (m))) (h := h) (⟨rfl, by first | assumption | decide | omega | (simp [big]; done) | (simp [big]; omega), t_u8⟩) (Enc.cons (L := LHead) (vs := [strV b, .int .u8 n]) (x := (Head.mk (b) (n))) (h := h) (⟨rfl, by first | assumption | decide | omega | (simp [big]; done) | (simp [big]; omega), t_u8⟩) Enc.nil)) rfl rfl rfl zaQ Tryz.info72 rfl rfl rfl t_kr ?_
 intro v1 w2 h5 le6 f3 st4
 refine zaa (v := v1) X X<|Y<|zw<|zb Tryz.results93 ?_
 refine ⟨h5, _, rfl, st4.done, ?_⟩
 refine ⟨_, rfl, Sl.to f3 ?_⟩
 all_goals rfl
theorem zdP {h : Heap} {w : World} (hs : Sub h w)  : Calls Tryz.prog 35 #[] w (Rets h w (fun h' _ res_ => ∃ u0 u1 u2 u3 u4, res_ = .agg #[u0, u1, u2, u3, u4] ∧ Sl LChapter h' u0 (zdh).text.chapters ∧ Sl LRule h' u1 (zdh).lexicon.rules ∧ Sl LDecision h' u2 (zdh).lexicon.decisions ∧ Sl LQuestion h' u3 (zdh).questions ∧ Sl LVoter h' u4 (zdh).voters)) := by
 refine zL (n := 33) Tryz.func35 X X X<|have st0:=t_s0 hs;W.sr<|zX st0 Tryz.zeroValue32 X X<|fun b1 w2 st3=>Y<|W.sr ?_
 refine zae (L := LStr) (xs := [wThe, wSea, wIs, wOld]) (cs := [strV wThe, strV wSea, strV wIs, strV wOld]) st3 (Enc.cons (L := LStr) (vs := [strV wThe]) (x := wThe) (h := h) (⟨rfl, by first | assumption | decide | omega | (simp [big]; done) | (simp [big]; omega)⟩) (Enc.cons (L := LStr) (vs := [strV wSea]) (x := wSea) (h := h) (⟨rfl, by first | assumption | decide | omega | (simp [big]; done) | (simp [big]; omega)⟩) (Enc.cons (L := LStr) (vs := [strV wIs]) (x := wIs) (h := h) (⟨rfl, by first | assumption | decide | omega | (simp [big]; done) | (simp [big]; omega)⟩) (Enc.cons (L := LStr) (vs := [strV wOld]) (x := wOld) (h := h) (⟨rfl, by first | assumption | decide | omega | (simp [big]; done) | (simp [big]; omega)⟩) Enc.nil)))) rfl rfl rfl zV Tryz.info9 rfl rfl rfl t_kr ?_
 intro v4 w5 h8 le9 f6 st7
 refine zae (L := LStr) (xs := [wOld, wThe, wSea]) (cs := [strV wOld, strV wThe, strV wSea]) st7 (Enc.cons (L := LStr) (vs := [strV wOld]) (x := wOld) (h := h8) (⟨rfl, by first | assumption | decide | omega | (simp [big]; done) | (simp [big]; omega)⟩) (Enc.cons (L := LStr) (vs := [strV wThe]) (x := wThe) (h := h8) (⟨rfl, by first | assumption | decide | omega | (simp [big]; done) | (simp [big]; omega)⟩) (Enc.cons (L := LStr) (vs := [strV wSea]) (x := wSea) (h := h8) (⟨rfl, by first | assumption | decide | omega | (simp [big]; done) | (simp [big]; omega)⟩) Enc.nil))) rfl rfl rfl zV Tryz.info9 rfl rfl rfl t_kr ?_
 intro v10 w11 h14 le15 f12 st13
 refine zae (L := (LSl LStr)) (xs := [[wThe, wSea, wIs, wOld], [wOld, wThe, wSea]]) (cs := [v4, v10]) st13 (Enc.cons (L := (LSl LStr)) (vs := [v4]) (x := [wThe, wSea, wIs, wOld]) (h := h14) (⟨_, rfl, (f6.up le15)⟩) (Enc.cons (L := (LSl LStr)) (vs := [v10]) (x := [wOld, wThe, wSea]) (h := h14) (⟨_, rfl, f12⟩) Enc.nil)) rfl rfl rfl zaX Tryz.info60 rfl rfl rfl (by obtain ⟨_, _, rfl⟩ := Sl.form f6; obtain ⟨_, _, rfl⟩ := Sl.form f12; kernel_rfl) ?_
 intro v16 w17 h20 le21 f18 st19
 refine zi rfl rfl (zbv (cs := [.int .i64 7, v16]) (by obtain ⟨_, _, rfl⟩ := Sl.form f18; kernel_rfl)) ?_
 refine zae (L := LStr) (xs := [wSea, wAnd, wSea]) (cs := [strV wSea, strV wAnd, strV wSea]) st19 (Enc.cons (L := LStr) (vs := [strV wSea]) (x := wSea) (h := h20) (⟨rfl, by first | assumption | decide | omega | (simp [big]; done) | (simp [big]; omega)⟩) (Enc.cons (L := LStr) (vs := [strV wAnd]) (x := wAnd) (h := h20) (⟨rfl, by first | assumption | decide | omega | (simp [big]; done) | (simp [big]; omega)⟩) (Enc.cons (L := LStr) (vs := [strV wSea]) (x := wSea) (h := h20) (⟨rfl, by first | assumption | decide | omega | (simp [big]; done) | (simp [big]; omega)⟩) Enc.nil))) rfl rfl rfl zV Tryz.info9 rfl rfl rfl t_kr ?_
 intro v22 w23 h26 le27 f24 st25
 refine zae (L := (LSl LStr)) (xs := [[wSea, wAnd, wSea]]) (cs := [v22]) st25 (Enc.cons (L := (LSl LStr)) (vs := [v22]) (x := [wSea, wAnd, wSea]) (h := h26) (⟨_, rfl, f24⟩) Enc.nil) rfl rfl rfl zaX Tryz.info60 rfl rfl rfl (by obtain ⟨_, _, rfl⟩ := Sl.form f24; kernel_rfl) ?_
 intro v28 w29 h32 le33 f30 st31
 refine zi rfl rfl (zbv (cs := [.int .i64 3, v28]) (by obtain ⟨_, _, rfl⟩ := Sl.form f30; kernel_rfl)) ?_
 refine zae (L := LChapter) (xs := [(Chapter.mk (7) ([[wThe, wSea, wIs, wOld], [wOld, wThe, wSea]])), (Chapter.mk (3) ([[wSea, wAnd, wSea]]))]) (cs := [.int .i64 7, v16, .int .i64 3, v28]) st31 (Enc.cons (L := LChapter) (vs := [.int .i64 7, v16]) (x := (Chapter.mk (7) ([[wThe, wSea, wIs, wOld], [wOld, wThe, wSea]]))) (h := h32) (⟨_, X, (f18.up (le27.trans le33))⟩) (Enc.cons (L := LChapter) (vs := [.int .i64 3, v28]) (x := (Chapter.mk (3) ([[wSea, wAnd, wSea]]))) (h := h32) (⟨_, X, f30⟩) Enc.nil)) X X X zaS Tryz.info152 X X X t_kr<|fun v34 w35 h38 le39 f36 st37=> ?_
 refine zi rfl rfl (zbv (cs := [v34]) (by obtain ⟨_, _, rfl⟩ := Sl.form f36; kernel_rfl)) ?_
 refine zg st37 X X X Tryz.call38 X (zfq st37.sub _ _ _)<|fun r40 w41 h42 le43 st44 q45=> ?_
 obtain rfl := q45
 refine zi X X (zbv (cs := [strV wSee, .int .u8 2]) t_kr)<|zi X X (zbv (cs := [.int .i64 1, .int .u8 3, strV [], .int .i64 ((Place.mk (1) (0) (2)).chapter), .int .i64 ((Place.mk (1) (0) (2)).line), .int .i64 ((Place.mk (1) (0) (2)).word), strV wSee, .int .u8 2, .int .i64 0]) t_kr) ?_
 refine zae (L := LDecision) (xs := [({ zcm with number := 1, kind := 3, at_ := (Place.mk (1) (0) (2)), to := (Head.mk (wSee) (2)) } : Decision)]) (cs := [.int .i64 1, .int .u8 3, strV [], .int .i64 ((Place.mk (1) (0) (2)).chapter), .int .i64 ((Place.mk (1) (0) (2)).line), .int .i64 ((Place.mk (1) (0) (2)).word), strV wSee, .int .u8 2, .int .i64 0]) st44 (Enc.cons (L := LDecision) (vs := [.int .i64 1, .int .u8 3, strV [], .int .i64 ((Place.mk (1) (0) (2)).chapter), .int .i64 ((Place.mk (1) (0) (2)).line), .int .i64 ((Place.mk (1) (0) (2)).word), strV wSee, .int .u8 2, .int .i64 0]) (x := ({ zcm with number := 1, kind := 3, at_ := (Place.mk (1) (0) (2)), to := (Head.mk (wSee) (2)) } : Decision)) (h := h42) (⟨rfl, t_u8, by first | assumption | decide | omega | (simp [big]; done) | (simp [big]; omega), by first | assumption | decide | omega | (simp [big]; done) | (simp [big]; omega), t_u8⟩) Enc.nil) rfl rfl rfl zaR Tryz.info74 rfl rfl rfl t_kr ?_
 intro v46 w47 h50 le51 f48 st49
 refine zi rfl rfl (zbv (cs := [(.slice none 0 0), v46]) (by obtain ⟨_, _, rfl⟩ := Sl.form f48; kernel_rfl)) ?_
 refine zg st49 X X X Tryz.call38 X (zfq st49.sub _ _ _)<|fun r52 w53 h54 le55 st56 q57=> ?_
 obtain rfl := q57
 refine zg st56 rfl rfl rfl Tryz.call93 rfl (zfF st56.sub _ (by first | assumption | decide | omega | (simp [big]; done) | (simp [big]; omega)) _ (by omega) _ (by first | assumption | decide | omega | (simp [big]; done) | (simp [big]; omega)) _ (by omega)) ?_
 intro r58 w59 h60 le61 st62 q63
 obtain ⟨v64, e66, f65⟩ := q63
 rw [← e66] at f65
 have f65_b := f65.le
 refine zi rfl rfl (zbv (cs := [.int .i64 ((Place.mk (0) (0) (1)).chapter), .int .i64 ((Place.mk (0) (0) (1)).line), .int .i64 ((Place.mk (0) (0) (1)).word), r58]) (by obtain ⟨_, _, rfl⟩ := Sl.form f65; kernel_rfl)) ?_
 refine zg st62 X X X Tryz.call38 X (zfq st62.sub _ _ _)<|fun r67 w68 h69 le70 st71 q72=> ?_
 obtain rfl := q72
 refine zg st71 rfl rfl rfl Tryz.call93 rfl (zfF st71.sub _ (by first | assumption | decide | omega | (simp [big]; done) | (simp [big]; omega)) _ (by omega) _ (by first | assumption | decide | omega | (simp [big]; done) | (simp [big]; omega)) _ (by omega)) ?_
 intro r73 w74 h75 le76 st77 q78
 obtain ⟨v79, e81, f80⟩ := q78
 rw [← e81] at f80
 have f80_b := f80.le
 refine zi rfl rfl (zbv (cs := [.int .i64 ((Place.mk (0) (0) (3)).chapter), .int .i64 ((Place.mk (0) (0) (3)).line), .int .i64 ((Place.mk (0) (0) (3)).word), r73]) (by obtain ⟨_, _, rfl⟩ := Sl.form f80; kernel_rfl)) ?_
 refine zg st77 X X X Tryz.call38 X (zfq st77.sub _ _ _)<|fun r82 w83 h84 le85 st86 q87=> ?_
 obtain rfl := q87
 refine zg st86 rfl rfl rfl Tryz.call93 rfl (zfF st86.sub _ (by first | assumption | decide | omega | (simp [big]; done) | (simp [big]; omega)) _ (by omega) _ (by first | assumption | decide | omega | (simp [big]; done) | (simp [big]; omega)) _ (by omega)) ?_
 intro r88 w89 h90 le91 st92 q93
 obtain ⟨v94, e96, f95⟩ := q93
 rw [← e96] at f95
 have f95_b := f95.le
 refine zi rfl rfl (zbv (cs := [.int .i64 ((Place.mk (1) (0) (0)).chapter), .int .i64 ((Place.mk (1) (0) (0)).line), .int .i64 ((Place.mk (1) (0) (0)).word), r88]) (by obtain ⟨_, _, rfl⟩ := Sl.form f95; kernel_rfl)) ?_
 have l97 := ((le70.trans le76).trans le85).trans le91
 refine zae (L := LQuestion) (xs := [(Question.mk ((Place.mk (0) (0) (1))) (([Head.mk (wSea) (1), Head.mk (wSee) (2)] : List Head))), (Question.mk ((Place.mk (0) (0) (3))) (([Head.mk (wAge) (3), Head.mk (wOld) (0)] : List Head))), (Question.mk ((Place.mk (1) (0) (0))) (([Head.mk (wSea) (1), Head.mk (wSee) (2)] : List Head)))]) (cs := [.int .i64 ((Place.mk (0) (0) (1)).chapter), .int .i64 ((Place.mk (0) (0) (1)).line), .int .i64 ((Place.mk (0) (0) (1)).word), r58, .int .i64 ((Place.mk (0) (0) (3)).chapter), .int .i64 ((Place.mk (0) (0) (3)).line), .int .i64 ((Place.mk (0) (0) (3)).word), r73, .int .i64 ((Place.mk (1) (0) (0)).chapter), .int .i64 ((Place.mk (1) (0) (0)).line), .int .i64 ((Place.mk (1) (0) (0)).word), r88]) st92 (Enc.cons (L := LQuestion) (vs := [.int .i64 ((Place.mk (0) (0) (1)).chapter), .int .i64 ((Place.mk (0) (0) (1)).line), .int .i64 ((Place.mk (0) (0) (1)).word), r58]) (x := (Question.mk ((Place.mk (0) (0) (1))) (([Head.mk (wSea) (1), Head.mk (wSee) (2)] : List Head)))) (h := h90) (⟨_, X, (f65.up l97)⟩) (Enc.cons (L := LQuestion) (vs := [.int .i64 ((Place.mk (0) (0) (3)).chapter), .int .i64 ((Place.mk (0) (0) (3)).line), .int .i64 ((Place.mk (0) (0) (3)).word), r73]) (x := (Question.mk ((Place.mk (0) (0) (3))) (([Head.mk (wAge) (3), Head.mk (wOld) (0)] : List Head)))) (h := h90) (⟨_, X, (f80.up (le85.trans le91))⟩) (Enc.cons (L := LQuestion) (vs := [.int .i64 ((Place.mk (1) (0) (0)).chapter), .int .i64 ((Place.mk (1) (0) (0)).line), .int .i64 ((Place.mk (1) (0) (0)).word), r88]) (x := (Question.mk ((Place.mk (1) (0) (0))) (([Head.mk (wSea) (1), Head.mk (wSee) (2)] : List Head)))) (h := h90) (⟨_, X, f95⟩) Enc.nil))) X X X zaq Tryz.info84 X X X t_kr<|fun v98 w99 h102 le103 f100 st101=>zae (L := LInt) (xs := [(-1), 1, (-1)]) (cs := [.int .i64 (-1), .int .i64 1, .int .i64 (-1)]) st101 (Enc.cons (L := LInt) (vs := [.int .i64 (-1)]) (x := (-1)) (h := h102) (X) (Enc.cons (L := LInt) (vs := [.int .i64 1]) (x := 1) (h := h102) (X) (Enc.cons (L := LInt) (vs := [.int .i64 (-1)]) (x := (-1)) (h := h102) (X) Enc.nil))) X X X ze Tryz.info3 X X X t_kr<|fun v104 w105 h108 le109 f106 st107=> ?_
 refine zi rfl rfl (zbv (cs := [.int .i64 5, .int .i64 0, v104]) (by obtain ⟨_, _, rfl⟩ := Sl.form f106; kernel_rfl)) ?_
 refine zae (L := LInt) (xs := [0, 0, 0]) (cs := [.int .i64 0, .int .i64 0, .int .i64 0]) st107 (Enc.cons (L := LInt) (vs := [.int .i64 0]) (x := 0) (h := h108) (X) (Enc.cons (L := LInt) (vs := [.int .i64 0]) (x := 0) (h := h108) (X) (Enc.cons (L := LInt) (vs := [.int .i64 0]) (x := 0) (h := h108) (X) Enc.nil))) X X X ze Tryz.info3 X X X t_kr<|fun v110 w111 h114 le115 f112 st113=> ?_
 refine zi rfl rfl (zbv (cs := [.int .i64 2, .int .i64 1, v110]) (by obtain ⟨_, _, rfl⟩ := Sl.form f112; kernel_rfl)) ?_
 refine zae (L := LInt) (xs := [0, (-1), 1]) (cs := [.int .i64 0, .int .i64 (-1), .int .i64 1]) st113 (Enc.cons (L := LInt) (vs := [.int .i64 0]) (x := 0) (h := h114) (X) (Enc.cons (L := LInt) (vs := [.int .i64 (-1)]) (x := (-1)) (h := h114) (X) (Enc.cons (L := LInt) (vs := [.int .i64 1]) (x := 1) (h := h114) (X) Enc.nil))) X X X ze Tryz.info3 X X X t_kr<|fun v116 w117 h120 le121 f118 st119=> ?_
 refine zi rfl rfl (zbv (cs := [.int .i64 8, .int .i64 1, v116]) (by obtain ⟨_, _, rfl⟩ := Sl.form f118; kernel_rfl)) ?_
 refine zae (L := LVoter) (xs := [(Voter.mk 5 0 ([(-1), 1, (-1)])), (Voter.mk (2) (1) ([0, 0, 0])), (Voter.mk (8) (1) ([0, (-1), 1]))]) (cs := [.int .i64 5, .int .i64 0, v104, .int .i64 2, .int .i64 1, v110, .int .i64 8, .int .i64 1, v116]) st119 (Enc.cons (L := LVoter) (vs := [.int .i64 5, .int .i64 0, v104]) (x := (Voter.mk 5 0 ([(-1), 1, (-1)]))) (h := h120) (⟨_, X, (f106.up (le115.trans le121))⟩) (Enc.cons (L := LVoter) (vs := [.int .i64 2, .int .i64 1, v110]) (x := (Voter.mk (2) (1) ([0, 0, 0]))) (h := h120) (⟨_, X, (f112.up le121)⟩) (Enc.cons (L := LVoter) (vs := [.int .i64 8, .int .i64 1, v116]) (x := (Voter.mk (8) (1) ([0, (-1), 1]))) (h := h120) (⟨_, X, f118⟩) Enc.nil))) X X X zan Tryz.info79 X X X t_kr<|fun v122 w123 h126 le127 f124 st125=> ?_
 refine zi rfl rfl (zbv (cs := [v34, (.slice none 0 0), v46, v98, v122]) (by obtain ⟨_, _, rfl⟩ := Sl.form f36; obtain ⟨_, _, rfl⟩ := Sl.form f48; obtain ⟨_, _, rfl⟩ := Sl.form f100; obtain ⟨_, _, rfl⟩ := Sl.form f124; kernel_rfl)) ?_
 refine zN st125 (k := 0) X X X (za f36.one (za X (za f48.one (za f100.one (za f124.one zau))))) zaI X X X<|fun w128 st129=> ?_
 obtain ⟨h130, le131, hb132, st134⟩ := st129.freeze (k := 0) rfl
 have hc133 := Cells.of hb132
 refine Y<|zw<|zfL Tryz.results35 X zbn zaI X st134.sub hc133 ?_
 refine ⟨h130, _, rfl, st134.done, ?_⟩
 refine ⟨_, _, _, _, _, ?_, Sl.to (f36.up (((((((((((((le43.trans le51).trans le55).trans le61).trans le70).trans le76).trans le85).trans le91).trans le103).trans le109).trans le115).trans le121).trans le127).trans le131)) ?_, Sl.to (Sl.nil _ _) ?_, Sl.to (f48.up (((((((((((le55.trans le61).trans le70).trans le76).trans le85).trans le91).trans le103).trans le109).trans le115).trans le121).trans le127).trans le131)) ?_, Sl.to (f100.up ((((le109.trans le115).trans le121).trans le127).trans le131)) ?_, Sl.to (f124.up le131) ?_⟩
 all_goals rfl
theorem zdz {h : Heap} {w : World} (hs : Sub h w)  : Calls Tryz.prog 90 #[] w (Rets h w (fun h' _ res_ => ∃ u0 u1 u2 u3 u4, res_ = .agg #[u0, u1, u2, u3, u4] ∧ Sl LChapter h' u0 (twoE).text.chapters ∧ Sl LRule h' u1 (twoE).lexicon.rules ∧ Sl LDecision h' u2 (twoE).lexicon.decisions ∧ Sl LQuestion h' u3 (twoE).questions ∧ Sl LVoter h' u4 (twoE).voters)) := by
 refine zL (n := 8) Tryz.func90 X X X<|have st0:=t_s0 hs;W.sr<|zX st0 Tryz.zeroValue32 X X<|fun b1 w2 st3=>Y<|W.sr<|zg st3 X X X Tryz.call35 X (zdP st3.sub )<|fun r4 w5 h6 le7 st8 q9=> ?_
 obtain ⟨v10, v12, v14, v16, v18, rfl, f11, f13, f15, f17, f19⟩ := q9
 have f11_b := f11.le
 have f13_b := f13.le
 have f15_b := f15.le
 have f17_b := f17.le
 have f19_b := f19.le
 refine zX st8 Tryz.zeroValue32 X X<|fun b20 w21 st22=>zN st22 (k := 1) X X X (za f11.one (za f13.one (za f15.one (za f17.one (za f19.one zau))))) zaI X X X<|fun w23 st24=>Y<|W.sr<|O X zD X zbi X X<|zbR (st24.get (k := 1) X) X X zbF X ?_
 have f25 := Sl.drop f19 (k := 1) (by decide)
 refine zi rfl rfl (r_slice_from_sl f19 rfl rfl (hk := rfl) (by decide) zan zbq) ?_
 refine O X zD X zbi X X<|zaM st24 (k := 1) X X (v := (zfG LVoter.size v18 (1))) X f25.one zbi X X X<|fun w26 st27=>Y<|W.sr<|zcI (st27.get (k := 1) X) X zbn zaI X X<|zN st27 (k := 0) X X X (za f11.one (za f13.one (za f15.one (za f17.one (za f25.one zau))))) zaI X X X<|fun w28 st29=> ?_
 obtain ⟨h30, le31, hb32, st34⟩ := st29.freeze (k := 0) rfl
 have hc33 := Cells.of hb32
 refine Y<|zw<|zfL Tryz.results90 X zbn zaI X st34.sub hc33 ?_
 refine ⟨h30, _, rfl, st34.done, ?_⟩
 refine ⟨_, _, _, _, _, ?_, Sl.to (f11.up le31) ?_, Sl.to (f13.up le31) ?_, Sl.to (f15.up le31) ?_, Sl.to (f17.up le31) ?_, Sl.to (f25.up le31) ?_⟩
 all_goals rfl
theorem c_postillaw07_has {h : Heap} {w : World} (hs : Sub h w) {l_v : Value} {l : (List Int)} (l_f : Sl LInt h l_v l) (n : Int) : Calls Tryz.prog 45 #[l_v, .int .i64 n] w (Rets h w (fun _ _ res_ => res_ = .bool ((decide (n ∈ l))))) := by
 refine zL (n := 17) Tryz.func45 X X X<|have st0:=t_s0 hs;have l_f_b:=l_f.le;W.sr<|zF X X<|Y<|zm<|W.sr<|zO (v := l_v) X X<|zaC l_f X ze X<|zf X X<|Y<|zH ?_
 refine zao ([4, 6] ++ t_rg 9 8) (G := Nat × Heap) (fun ⟨i, h1⟩ => [(9, .int .i64 (i : Int))]) (fun ⟨i, h1⟩ w' => Le h h1 ∧ St h w h1 w' [] ∧ (i ≤ l.length) ∧ (n ∉ l.take i)) (fun ⟨i, h1⟩ => l.length - i) ⟨0, h⟩ ⟨rfl, trivial⟩ ⟨Le.refl _, st0, zaP, (by simp)⟩ ?_
 rintro ⟨i, h1⟩ _ w4 ⟨le2, st3, hi, hn⟩
 refine W.sr<|zaO X X X<|Y<|zm ?_
 refine zG rfl (fun c5 => ?_) (fun c5 => ?_)
 ·
  refine zx<|E<|zm<|zH<|W.sr ?_
  obtain ⟨x, hx⟩ : ∃ y_, (l)[i]? = some y_ := t_ge (by omega)
  obtain ⟨b6, o7, _, he9, hc8, hr_x⟩ := Sl.elem (l_f.up le2) hx
  obtain rfl := hr_x
  refine zT he9 X X (hk := X) (hu := ze) (hz := zn) X<|U (j := 0) st3.sub hc8 X X X zA X<|zt X X<|Y<|W.sr<|zf X X<|zf X X<|zcX X X X<|Y ?_
  refine zG rfl (fun c10 => ?_) (fun c10 => ?_)
  ·
   refine W.sr<|zF X X<|Y<|zw<|zI<|zc<|zc<|zI<|zc<|zb Tryz.results45 ?_
   refine ⟨h1, _, rfl, st3.done, ?_⟩
   refine zq ?_
   exact (decide_eq_true (by rw [← c10]; exact List.mem_of_getElem? hx)).symm
  refine zx<|zK<|E<|zl<|zay X X t_om X<|zf X X<|Y ?_
  refine ⟨⟨i + 1, h1⟩, ⟨rfl, trivial⟩, ?_, ⟨le2, st3, ?_, ?_⟩, ?_⟩
  ·exact zal
  ·first | omega | (simp; omega)
  ·rw [zba hx, List.mem_append, List.mem_singleton]; rintro (q | q); exact hn q; exact absurd q.symm c10
  show l.length - ((i + 1)) < l.length - i
  omega
 refine zaA<|zo<|zo<|zak<|E<|W.sr<|zF X X<|Y<|zw<|zb Tryz.results45 ?_
 refine ⟨h1, _, rfl, st3.done, ?_⟩
 refine zq ?_
 rw [List.take_of_length_le (by omega)] at hn; exact (decide_eq_false hn).symm
theorem zho {h : Heap} {w : World} (hs : Sub h w) {p : Poll} {p_v0 : Value} (p_f0 : Sl LChapter h p_v0 p.text.chapters) {p_v1 : Value} (p_f1 : Sl LRule h p_v1 p.lexicon.rules) {p_v2 : Value} (p_f2 : Sl LDecision h p_v2 p.lexicon.decisions) {p_v3 : Value} (p_f3 : Sl LQuestion h p_v3 p.questions) {p_v4 : Value} (p_f4 : Sl LVoter h p_v4 p.voters) : Calls Tryz.prog 41 #[.agg #[p_v0, p_v1, p_v2, p_v3, p_v4]] w (Rets h w (fun _ _ res_ => res_ = .bool ((zgn p && decide (zcw p = 0))))) := by
 refine zL (n := 11) Tryz.func41 X X X<|have st0:=t_s0 hs;have p_f0_b:=p_f0.le;have p_f1_b:=p_f1.le;have p_f2_b:=p_f2.le;have p_f3_b:=p_f3.le;have p_f4_b:=p_f4.le;W.sr<|zJ st0 (cs := [p_v0, p_v1, p_v2, p_v3, p_v4]) X X X<|fun b1 w2 h3 le4 hc5 st6=>zF X X<|Y<|W.sr<|zz st6.sub hc5 X zbn zaI X X<|zg st6 X X X Tryz.call15 X (c_postilref07_Great st6.sub (p := p) (p_f0.up le4) (p_f1.up le4) (p_f2.up le4) (p_f3.up le4) (p_f4.up le4))<|fun r7 w8 h9 le10 st11 q12=> ?_
 obtain rfl := q12
 refine zbr X X<|zU X X ?_
 refine zas (d := 6) rfl (fun g13 => ?_) (fun g13 => ?_)
 ·
  refine Z X X X<|zz st11.sub (hc5.up le10) X zbn zaI X X<|Z X X X<|have l14:=le4.trans le10;zg st11 X X X Tryz.call59 X (c_postilref07_Check st11.sub (p := p) (p_f0.up l14) (p_f1.up l14) (p_f2.up l14) (p_f3.up l14) (p_f4.up l14))<|fun r15 w16 h17 le18 st19 q20=> ?_
  obtain rfl := q20
  refine Z X X X<|zcX X X X<|zQ (v := (.bool _)) X X X<|zF X X<|Y<|zw<|zb Tryz.results41 ?_
  refine ⟨h17, _, rfl, st19.done, ?_⟩
  refine zq ?_
  simp_all
 refine M X X X X X<|M X X X X X<|M X X X X X<|zP (v := (.bool _)) X X X<|zF X X<|Y<|zw<|zb Tryz.results41 ?_
 refine ⟨h9, _, rfl, st11.done, ?_⟩
 refine zq ?_
 simp_all
end Go.Pk

namespace Go.Pk
open Go Go.RowKit Go.Proofs
set_option maxHeartbeats 4000000 in
theorem zhp {h : Heap} {w : World} (hs : Sub h w) (K1 : Cells h 1 0 Tryz.glob1) (K0 : Cells h 0 0 Tryz.glob0) : Calls Tryz.prog 33 #[] w (Rets h w (fun _ _ res_ => res_ = .bool (true))) := by
 refine zL (n := 158) Tryz.func33 X X X<|have st0:=t_s0 hs;W.sr<|zF X X<|Y<|W.sr<|zg st0 X X X Tryz.call90 X (zdz st0.sub )<|fun r1 w2 h3 le4 st5 q6=> ?_
 obtain ⟨v7, v9, v11, v13, v15, rfl, f8, f10, f12, f14, f16⟩ := q6
 have f8_b := f8.le
 have f10_b := f10.le
 have f12_b := f12.le
 have f14_b := f14.le
 have f16_b := f16.le
 refine zg st5 X X X Tryz.call34 X (c_vote_Count st5.sub (p := twoE) f8 f10 f12 f14 f16 (K1.up le4) (K0.up le4))<|fun r17 w18 h19 le20 st21 q22=> ?_
 obtain rfl := q22
 refine zcE X X<|zM (v := (.int _ _)) X X X<|zM (v := (.int _ _)) X X X<|zt X X<|zt X X<|Y<|W.sr<|zg st21 X X X Tryz.call35 X (zdP st21.sub )<|fun r23 w24 h25 le26 st27 q28=> ?_
 obtain ⟨v29, v31, v33, v35, v37, rfl, f30, f32, f34, f36, f38⟩ := q28
 have f30_b := f30.le
 have f32_b := f32.le
 have f34_b := f34.le
 have f36_b := f36.le
 have f38_b := f38.le
 have l39 := (le4.trans le20).trans le26
 refine zg st27 X X X Tryz.call39 X (c_vote_Truth st27.sub (p := zdh) f30 f32 f34 f36 f38 (K1.up l39) (K0.up l39))<|fun r40 w41 h42 le43 st44 q45=> ?_
 obtain ⟨v46, rfl, f47⟩ := q45
 have f47_b := f47.le
 refine zcE X X<|zM (v := v46) X X X<|zM (v := (.int _ _)) X X X<|zaa (v := v46) X X<|zt X X<|Y<|W.sr<|zg st44 X X X Tryz.call90 X (zdz st44.sub )<|fun r48 w49 h50 le51 st52 q53=> ?_
 obtain ⟨v54, v56, v58, v60, v62, rfl, f55, f57, f59, f61, f63⟩ := q53
 have f55_b := f55.le
 have f57_b := f57.le
 have f59_b := f59.le
 have f61_b := f61.le
 have f63_b := f63.le
 have l64 := (l39.trans le43).trans le51
 refine zg st52 X X X Tryz.call36 X (c_vote_Open st52.sub (p := twoE) f55 f57 f59 f61 f63 _ (K1.up l64) (K0.up l64))<|fun r65 w66 h67 le68 st69 q70=> ?_
 obtain ⟨v71, rfl, f72⟩ := q70
 have f72_b := f72.le
 refine zcE X X<|zM (v := v71) X X X<|zM (v := (.int _ _)) X X X<|zaa (v := v71) X X<|zt X X<|Y<|W.sr<|zg st69 X X X Tryz.call90 X (zdz st69.sub )<|fun r73 w74 h75 le76 st77 q78=> ?_
 obtain ⟨v79, v81, v83, v85, v87, rfl, f80, f82, f84, f86, f88⟩ := q78
 have f80_b := f80.le
 have f82_b := f82.le
 have f84_b := f84.le
 have f86_b := f86.le
 have f88_b := f88.le
 have l89 := (l64.trans le68).trans le76
 refine zg st77 X X X Tryz.call37 X (c_vote_Settled st77.sub (p := twoE) f80 f82 f84 f86 f88 (K1.up l89) (K0.up l89))<|fun r90 w91 h92 le93 st94 q95=> ?_
 obtain ⟨v96, rfl, f97⟩ := q95
 have f97_b := f97.le
 refine zcE X X<|zM (v := v96) X X X<|zM (v := (.int _ _)) X X X<|zaa (v := v96) X X<|zt X X<|Y<|W.sr<|zg st94 X X X Tryz.call35 X (zdP st94.sub )<|fun r98 w99 h100 le101 st102 q103=> ?_
 obtain ⟨v104, v106, v108, v110, v112, rfl, f105, f107, f109, f111, f113⟩ := q103
 have f105_b := f105.le
 have f107_b := f107.le
 have f109_b := f109.le
 have f111_b := f111.le
 have f113_b := f113.le
 have l114 := (l89.trans le93).trans le101
 refine zg st102 X X X Tryz.call17 X (c_vote_Wrongs st102.sub (p := zdh) f105 f107 f109 f111 f113 _ (K1.up l114) (K0.up l114))<|fun r115 w116 h117 le118 st119 q120=> ?_
 obtain rfl := q120
 refine zcE X X<|zM (v := (.agg (List.toArray _))) X X X<|zM (v := (.int _ _)) X X X<|zX st119 Tryz.zeroValue36 X X<|fun b121 w122 st123=>zN st123 (k := 0) X X X (za X (za X zau)) zej X X X<|fun w124 st125=> ?_
 obtain ⟨h126, le127, hb128, st130⟩ := st125.freeze (k := 0) rfl
 have hc129 := Cells.of hb128
 refine zt X X<|Y<|W.sr<|zg st130 X X X Tryz.call35 X (zdP st130.sub )<|fun r131 w132 h133 le134 st135 q136=> ?_
 obtain ⟨v137, v139, v141, v143, v145, rfl, f138, f140, f142, f144, f146⟩ := q136
 have f138_b := f138.le
 have f140_b := f140.le
 have f142_b := f142.le
 have f144_b := f144.le
 have f146_b := f146.le
 have l147 := ((l114.trans le118).trans le127).trans le134
 refine zg st135 X X X Tryz.call19 X (c_vote_Tally st135.sub (p := zdh) f138 f140 f142 f144 f146 _ (K1.up l147) (K0.up l147))<|fun r148 w149 h150 le151 st152 q153=> ?_
 obtain ⟨v154, rfl, f155⟩ := q153
 have f155_b := f155.le
 refine zcE X X<|zM (v := v154) X X X<|zM (v := (.int _ _)) X X X<|zaa (v := v154) X X<|zt X X<|Y<|W.sr<|zg st152 X X X Tryz.call90 X (zdz st152.sub )<|fun r156 w157 h158 le159 st160 q161=> ?_
 obtain ⟨v162, v164, v166, v168, v170, rfl, f163, f165, f167, f169, f171⟩ := q161
 have f163_b := f163.le
 have f165_b := f165.le
 have f167_b := f167.le
 have f169_b := f169.le
 have f171_b := f171.le
 have l172 := (l147.trans le151).trans le159
 refine zg st160 X X X Tryz.call22 X (c_vote_Ask st160.sub (p := twoE) f163 f165 f167 f169 f171 (K1.up l172) (K0.up l172))<|fun r173 w174 h175 le176 st177 q178=> ?_
 obtain ⟨v179, rfl, f180⟩ := q178
 have f180_b := f180.le
 refine zcE X X<|zM (v := v179) X X X<|zM (v := (.int _ _)) X X X<|zaa (v := v179) X X<|zt X X<|Y<|W.sr<|zg st177 X X X Tryz.call90 X (zdz st177.sub )<|fun r181 w182 h183 le184 st185 q186=> ?_
 obtain ⟨v187, v189, v191, v193, v195, rfl, f188, f190, f192, f194, f196⟩ := q186
 have f188_b := f188.le
 have f190_b := f190.le
 have f192_b := f192.le
 have f194_b := f194.le
 have f196_b := f196.le
 have l197 := (l172.trans le176).trans le184
 refine zg st185 X X X Tryz.call24 X (c_vote_Next st185.sub (p := twoE) f188 f190 f192 f194 f196 (K1.up l197) (K0.up l197))<|fun r198 w199 h200 le201 st202 q203=> ?_
 obtain rfl := q203
 refine zcE X X<|zM (v := (.int _ _)) X X X<|zM (v := (.int _ _)) X X X<|zt X X<|zt X X<|Y<|W.sr<|zg st202 X X X Tryz.call35 X (zdP st202.sub )<|fun r204 w205 h206 le207 st208 q209=> ?_
 obtain ⟨v210, v212, v214, v216, v218, rfl, f211, f213, f215, f217, f219⟩ := q209
 have f211_b := f211.le
 have f213_b := f213.le
 have f215_b := f215.le
 have f217_b := f217.le
 have f219_b := f219.le
 have l220 := (l197.trans le201).trans le207
 refine zaB rfl rfl (zaV rfl Tryz.call27 rfl) ((c_vote_Decide st208.sub (p := zdh) f211 f213 f215 f217 f219 (K1.up l220) (K0.up l220)).mono ?_)
 rintro _ w221 ⟨h222, v226, v229, o227, o230, rfl, le223, s225, f228, f231⟩
 refine ⟨_, rfl, ?_⟩
 have st224 := st208.call s225
 refine zcE X X<|zM (v := (.agg (List.toArray _))) X X X<|zM (v := (.int _ _)) X X X<|zX st224 Tryz.zeroValue28 X X<|fun b232 w233 st234=>zN st234 (k := 3) X X X (za f228.one (za f231.one zau)) zaJ X X X<|fun w235 st236=> ?_
 obtain ⟨h237, le238, hb239, st241⟩ := st236.freeze (k := 3) rfl
 have hc240 := Cells.of hb239
 refine zt X X<|Y<|W.sr<|zg st241 X X X Tryz.call90 X (zdz st241.sub )<|fun r242 w243 h244 le245 st246 q247=> ?_
 obtain ⟨v248, v250, v252, v254, v256, rfl, f249, f251, f253, f255, f257⟩ := q247
 have f249_b := f249.le
 have f251_b := f251.le
 have f253_b := f253.le
 have f255_b := f255.le
 have f257_b := f257.le
 have l258 := ((l220.trans le223).trans le238).trans le245
 refine zg st246 X X X Tryz.call29 X (c_vote_Moot st246.sub (p := twoE) f249 f251 f253 f255 f257 (K1.up l258) (K0.up l258))<|fun r259 w260 h261 le262 st263 q264=> ?_
 obtain ⟨v265, rfl, f266⟩ := q264
 have f266_b := f266.le
 refine zcE X X<|zM (v := v265) X X X<|zM (v := (.int _ _)) X X X<|zaa (v := v265) X X<|zt X X<|Y<|W.sr<|zf X X<|zcX X X X<|zU X X ?_
 refine zab (d := 73) rfl (fun g267 => ?_) (fun g267 => ?_)
 ·
  refine Z X X X<|zf X X<|Z X X X<|zcX X X X<|zQ (v := (.bool _)) X X X<|zU X X ?_
  refine zab (d := 77) rfl (fun g268 => ?_) (fun g268 => ?_)
  ·
   refine Z X X X<|zf X X<|Z X X X<|zcX X X X<|zQ (v := (.bool _)) X X X<|zU X X ?_
   refine zab (d := 81) rfl (fun g269 => ?_) (fun g269 => ?_)
   ·
    refine Z X X X<|zO (v := v46) X X<|Z X X X<|zae (L := LInt) (xs := [0, 1, 0]) (cs := [.int .i64 0, .int .i64 1, .int .i64 0]) st263 (Enc.cons (L := LInt) (vs := [.int .i64 0]) (x := 0) (h := h261) (X) (Enc.cons (L := LInt) (vs := [.int .i64 1]) (x := 1) (h := h261) (X) (Enc.cons (L := LInt) (vs := [.int .i64 0]) (x := 0) (h := h261) (X) Enc.nil))) X X X ze Tryz.info3 X X X t_kr<|fun v270 w271 h274 le275 f272 st273=>Z X X X<|have l276:=(((((((((((((((((le51.trans le68).trans le76).trans le93).trans le101).trans le118).trans le127).trans le134).trans le151).trans le159).trans le176).trans le184).trans le201).trans le207).trans le223).trans le238).trans le245).trans le262).trans le275;zg st273 X X X Tryz.call21 X (zcR st273.sub (f47.up l276) f272)<|fun r277 w278 h279 le280 st281 q282=> ?_
    obtain rfl := q282
    refine zQ (v := (.bool _)) X X X<|zU X X ?_
    refine zas (d := 86) rfl (fun g283 => ?_) (fun g283 => ?_)
    ·
     refine Z X X X<|zf X X<|Z X X X<|zcX X X X<|zQ (v := (.bool _)) X X X<|zU X X ?_
     refine zab (d := 90) rfl (fun g284 => ?_) (fun g284 => ?_)
     ·
      refine Z X X X<|zO (v := v71) X X<|Z X X X<|zae (L := LInt) (xs := [0, 1]) (cs := [.int .i64 0, .int .i64 1]) st281 (Enc.cons (L := LInt) (vs := [.int .i64 0]) (x := 0) (h := h279) (X) (Enc.cons (L := LInt) (vs := [.int .i64 1]) (x := 1) (h := h279) (X) Enc.nil)) X X X ze Tryz.info3 X X X t_kr<|fun v285 w286 h289 le290 f287 st288=>Z X X X<|have l291:=(((((((((((((((((le76.trans le93).trans le101).trans le118).trans le127).trans le134).trans le151).trans le159).trans le176).trans le184).trans le201).trans le207).trans le223).trans le238).trans le245).trans le262).trans le275).trans le280).trans le290;zg st288 X X X Tryz.call21 X (zcR st288.sub (f72.up l291) f287)<|fun r292 w293 h294 le295 st296 q297=> ?_
      obtain rfl := q297
      refine zQ (v := (.bool _)) X X X<|zU X X ?_
      refine zas (d := 95) rfl (fun g298 => ?_) (fun g298 => ?_)
      ·
       refine Z X X X<|zf X X<|Z X X X<|zcX X X X<|zQ (v := (.bool _)) X X X<|zU X X ?_
       refine zab (d := 99) rfl (fun g299 => ?_) (fun g299 => ?_)
       ·
        refine Z X X X<|zO (v := v96) X X<|Z X X X<|zae (L := LInt) (xs := [0, (-1), (-1)]) (cs := [.int .i64 0, .int .i64 (-1), .int .i64 (-1)]) st296 (Enc.cons (L := LInt) (vs := [.int .i64 0]) (x := 0) (h := h294) (X) (Enc.cons (L := LInt) (vs := [.int .i64 (-1)]) (x := (-1)) (h := h294) (X) (Enc.cons (L := LInt) (vs := [.int .i64 (-1)]) (x := (-1)) (h := h294) (X) Enc.nil))) X X X ze Tryz.info3 X X X t_kr<|fun v300 w301 h304 le305 f302 st303=>Z X X X<|have l306:=(((((((((((((((((le101.trans le118).trans le127).trans le134).trans le151).trans le159).trans le176).trans le184).trans le201).trans le207).trans le223).trans le238).trans le245).trans le262).trans le275).trans le280).trans le290).trans le295).trans le305;zg st303 X X X Tryz.call21 X (zcR st303.sub (f97.up l306) f302)<|fun r307 w308 h309 le310 st311 q312=> ?_
        obtain rfl := q312
        refine zQ (v := (.bool _)) X X X<|zU X X ?_
        refine zas (d := 104) rfl (fun g313 => ?_) (fun g313 => ?_)
        ·
         refine Z X X X<|zf X X<|Z X X X<|zcX X X X<|zQ (v := (.bool _)) X X X<|zU X X ?_
         refine zab (d := 108) rfl (fun g314 => ?_) (fun g314 => ?_)
         ·
          refine Z X X X<|have l315:=(((((((((((((((le134.trans le151).trans le159).trans le176).trans le184).trans le201).trans le207).trans le223).trans le238).trans le245).trans le262).trans le275).trans le280).trans le290).trans le295).trans le305).trans le310;zz st311.sub (hc129.up l315) X Tryz.isAgg36 zej X X<|Z X X X<|zi X X (zbv (cs := [.int .i64 1, .int .i64 1]) t_kr)<|Z X X X<|zi X X (zgS X X Tryz.eqGuardType36 (Tryz.eq_Span (zfl (zdh) (1)) (Span.mk (1) (1))))<|zQ (v := (.bool _)) X X X<|zU X X ?_
          refine zab (d := 113) rfl (fun g316 => ?_) (fun g316 => ?_)
          ·
           refine Z X X X<|zf X X<|Z X X X<|zcX X X X<|zQ (v := (.bool _)) X X X<|zU X X ?_
           refine zab (d := 117) rfl (fun g317 => ?_) (fun g317 => ?_)
           ·
            refine Z X X X<|zO (v := v154) X X<|Z X X X<|zae (L := LInt) (xs := [2, 0]) (cs := [.int .i64 2, .int .i64 0]) st311 (Enc.cons (L := LInt) (vs := [.int .i64 2]) (x := 2) (h := h309) (X) (Enc.cons (L := LInt) (vs := [.int .i64 0]) (x := 0) (h := h309) (X) Enc.nil)) X X X ze Tryz.info3 X X X t_kr<|fun v318 w319 h322 le323 f320 st321=>Z X X X<|have l324:=((((((((((((((le159.trans le176).trans le184).trans le201).trans le207).trans le223).trans le238).trans le245).trans le262).trans le275).trans le280).trans le290).trans le295).trans le305).trans le310).trans le323;zg st321 X X X Tryz.call21 X (zcR st321.sub (f155.up l324) f320)<|fun r325 w326 h327 le328 st329 q330=> ?_
            obtain rfl := q330
            refine zQ (v := (.bool _)) X X X<|zU X X ?_
            refine zas (d := 122) rfl (fun g331 => ?_) (fun g331 => ?_)
            ·
             refine Z X X X<|zf X X<|Z X X X<|zcX X X X<|zQ (v := (.bool _)) X X X<|zU X X ?_
             refine zab (d := 126) rfl (fun g332 => ?_) (fun g332 => ?_)
             ·
              refine Z X X X<|zO (v := v179) X X<|Z X X X<|zae (L := LInt) (xs := [1, 2]) (cs := [.int .i64 1, .int .i64 2]) st329 (Enc.cons (L := LInt) (vs := [.int .i64 1]) (x := 1) (h := h327) (X) (Enc.cons (L := LInt) (vs := [.int .i64 2]) (x := 2) (h := h327) (X) Enc.nil)) X X X ze Tryz.info3 X X X t_kr<|fun v333 w334 h337 le338 f335 st336=>Z X X X<|have l339:=((((((((((((((le184.trans le201).trans le207).trans le223).trans le238).trans le245).trans le262).trans le275).trans le280).trans le290).trans le295).trans le305).trans le310).trans le323).trans le328).trans le338;zg st336 X X X Tryz.call21 X (zcR st336.sub (f180.up l339) f335)<|fun r340 w341 h342 le343 st344 q345=> ?_
              obtain rfl := q345
              refine zQ (v := (.bool _)) X X X<|zU X X ?_
              refine zas (d := 131) rfl (fun g346 => ?_) (fun g346 => ?_)
              ·
               refine Z X X X<|zf X X<|Z X X X<|zcX X X X<|zQ (v := (.bool _)) X X X<|zU X X ?_
               refine zab (d := 135) rfl (fun g347 => ?_) (fun g347 => ?_)
               ·
                refine Z X X X<|zf X X<|Z X X X<|zcX X X X<|zQ (v := (.bool _)) X X X<|zU X X ?_
                refine zab (d := 139) rfl (fun g348 => ?_) (fun g348 => ?_)
                ·
                 refine Z X X X<|zf X X<|Z X X X<|zcX X X X<|zQ (v := (.bool _)) X X X<|zU X X ?_
                 refine zab (d := 143) rfl (fun g349 => ?_) (fun g349 => ?_)
                 ·
                  refine Z X X X<|O X zaD X zcL X X<|Z X X X<|have l350:=((((((((((le245.trans le262).trans le275).trans le280).trans le290).trans le295).trans le305).trans le310).trans le323).trans le328).trans le338).trans le343;U (j := 1) st344.sub (hc240.up l350) X X X zdc X<|Z X X X<|have l351:=(((((((((((le238.trans le245).trans le262).trans le275).trans le280).trans le290).trans le295).trans le305).trans le310).trans le323).trans le328).trans le338).trans le343;zfV (f231.up l351) X zaR X<|Z X X X<|zcX X X X<|zQ (v := (.bool _)) X X X<|zU X X ?_
                  refine zab (d := 149) rfl (fun g352 => ?_) (fun g352 => ?_)
                  ·
                   refine Z X X X<|zf X X<|Z X X X<|zcX X X X<|zQ (v := (.bool _)) X X X<|zU X X ?_
                   refine zab (d := 153) rfl (fun g353 => ?_) (fun g353 => ?_)
                   ·
                    refine Z X X X<|zO (v := v265) X X<|Z X X X ?_
                    refine zae (L := LStr) (xs := [wSea]) (cs := [strV wSea]) st344 (Enc.cons (L := LStr) (vs := [strV wSea]) (x := wSea) (h := h342) (⟨rfl, by first | assumption | decide | omega | (simp [big]; done) | (simp [big]; omega)⟩) Enc.nil) rfl rfl rfl zV Tryz.info9 rfl rfl rfl t_kr ?_
                    intro v354 w355 h358 le359 f356 st357
                    refine Z X X X<|have l360:=(((((((((le275.trans le280).trans le290).trans le295).trans le305).trans le310).trans le323).trans le328).trans le338).trans le343).trans le359;zg st357 X X X Tryz.call32 X (ziz st357.sub (f266.up l360) f356)<|fun r361 w362 h363 le364 st365 q366=> ?_
                    obtain rfl := q366
                    refine zQ (v := (.bool _)) X X X<|zF X X<|Y<|zw<|zb Tryz.results33 ?_
                    refine ⟨h363, _, rfl, st365.done, ?_⟩
                    refine zq ?_
                    exact decide_eq_true moot2
                   exfalso
                   have sure_ : (decide ((allE (twoE) true) = 0)) = true := by exact decide_eq_true allE2
                   exact g353 (t_ot sure_)
                  exfalso
                  have sure_ : (decide (((((zeU (zdh))).decisions).length : Int) = 3)) = true := by exact decide_eq_true ex_13
                  exact g352 (t_ot sure_)
                 exfalso
                 have sure_ : (decide (((zfP (zdh))) = 0)) = true := by exact decide_eq_true decideEE.1
                 exact g349 (t_ot sure_)
                exfalso
                have sure_ : (decide (((nextR (twoE))) = 1)) = true := by exact decide_eq_true ex_12
                exact g348 (t_ot sure_)
               exfalso
               have sure_ : (decide ((nextE (twoE)) = 0)) = true := by exact decide_eq_true ex_11
               exact g347 (t_ot sure_)
              exfalso
              have sure_ : ((decide (((askR7 (twoE))) = ([1, 2])))) = true := by exact decide_eq_true ex_10
              simp_all
             exfalso
             have sure_ : (decide ((allE (twoE) true) = 0)) = true := by exact decide_eq_true allE2
             exact g332 (t_ot sure_)
            exfalso
            have sure_ : ((decide (((tallyR (zdh) (0))) = ([2, 0])))) = true := by exact decide_eq_true ex_09
            simp_all
           exfalso
           have sure_ : (decide ((zie (zdh) (0)) = 0)) = true := by exact decide_eq_true ex_08
           exact g317 (t_ot sure_)
          exfalso
          have sure_ : (decide ((zfl (zdh) (1)) = (Span.mk (1) (1)))) = true := by exact decide_eq_true ex_07
          exact g316 (t_ot sure_)
         exfalso
         have sure_ : (decide ((allE (zdh) (inB (1) 0 (((zdh).voters.length : Int) - 1))) = 0)) = true := by exact decide_eq_true ex_06
         exact g314 (t_ot sure_)
        exfalso
        have sure_ : ((decide (((zed (twoE))) = ([0, (-1), (-1)])))) = true := by exact decide_eq_true ex_05
        simp_all
       exfalso
       have sure_ : (decide ((allE (twoE) true) = 0)) = true := by exact decide_eq_true allE2
       exact g299 (t_ot sure_)
      exfalso
      have sure_ : ((decide (((openR (twoE) (1))) = ([0, 1])))) = true := by exact decide_eq_true ex_04
      simp_all
     exfalso
     have sure_ : (decide ((allE (twoE) (inB (1) 0 (((twoE).questions.length : Int) - 1))) = 0)) = true := by exact decide_eq_true ex_03
     exact g284 (t_ot sure_)
    exfalso
    have sure_ : ((decide (((((allL (zdh) true)[0]?).getD [])) = ([0, 1, 0])))) = true := by exact decide_eq_true ex_02
    simp_all
   exfalso
   have sure_ : (decide ((allE (zdh) true) = 0)) = true := by exact decide_eq_true allEE
   exact g269 (t_ot sure_)
  exfalso
  have sure_ : (decide (((if zcw (twoE) = 0 then ((zB (twoE)).length : Int) else 0)) = 3)) = true := by exact decide_eq_true ex_01
  exact g268 (t_ot sure_)
 exfalso
 have sure_ : (decide ((zcw (twoE)) = 0)) = true := by exact decide_eq_true checkP2
 exact g267 (t_ot sure_)
end Go.Pk

namespace Go.Pk
open Go Go.RowKit Go.Proofs
theorem c_postillaw07_wrongs {h : Heap} {w : World} (hs : Sub h w) {votes_v : Value} {votes : (List Int)} (votes_f : Sl LInt h votes_v votes) {xs_v : Value} {xs : (List Int)} (xs_f : Sl LInt h xs_v xs) (hb : votes.length ≤ 1000) : Calls Tryz.prog 43 #[votes_v, xs_v] w (Rets h w (fun _ _ res_ => res_ = .int .i64 (((zbb (Voter.mk 0 0 votes) xs : Nat) : Int)))) := by
 refine zL (n := 35) Tryz.func43 X X X<|have st0:=t_s0 hs;have votes_f_b:=votes_f.le;have xs_f_b:=xs_f.le;W.sr<|zt X X<|Y<|W.sr<|zt X X<|Y<|zm<|W.sr<|zO (v := votes_v) X X<|zaC votes_f X ze X<|zf X X<|Y<|zH ?_
 refine zao ([5, 6, 7] ++ t_rg 10 24) (G := Nat × Heap) (fun ⟨k, h1⟩ => [(5, .int .i64 (zeP (Voter.mk 0 0 votes) xs k : Int)), (10, .int .i64 (k : Int))]) (fun ⟨k, h1⟩ w' => Le h h1 ∧ St h w h1 w' [] ∧ (k ≤ votes.length)) (fun ⟨k, h1⟩ => votes.length - k) ⟨0, h⟩ ⟨rfl, rfl, trivial⟩ ⟨Le.refl _, st0, zaP⟩ ?_
 rintro ⟨k, h1⟩ _ w4 ⟨le2, st3, hk⟩
 have hwk := wrongK_le (Voter.mk 0 0 votes) xs k
 refine W.sr<|zaO X X X<|Y<|zm ?_
 refine zG rfl (fun c5 => ?_) (fun c5 => ?_)
 ·
  refine zx<|E<|zm<|zH<|W.sr<|zf X X ?_
  obtain ⟨a, ha⟩ : ∃ y_, (votes)[k]? = some y_ := t_ge (by omega)
  obtain ⟨b6, o7, _, he9, hc8, hr_a⟩ := Sl.elem (votes_f.up le2) ha
  obtain rfl := hr_a
  refine zT he9 X X (hk := X) (hu := ze) (hz := zn) X<|U (j := 0) st3.sub hc8 X X X zA X<|zt X X<|zt X X<|Y<|W.sr<|zf X X<|zO (v := xs_v) X X<|zaC (xs_f.up le2) X ze X<|zaO X X X<|zU X X ?_
  refine zab (d := 19) rfl (fun g10 => ?_) (fun g10 => ?_)
  ·
   refine Z X X X<|zf X X<|Z X X X<|zhC X X X<|zQ (v := (.bool _)) X X X<|zU X X ?_
   refine zab (d := 23) rfl (fun g11 => ?_) (fun g11 => ?_)
   ·
    refine Z X X X<|zf X X<|Z X X X<|zO (v := xs_v) X X<|Z X X X<|zf X X<|Z X X X ?_
    obtain ⟨c, hc⟩ : ∃ y_, (xs)[k]? = some y_ := t_ge (by omega)
    obtain ⟨b12, o13, _, he15, hc14, hr_c⟩ := Sl.elem (xs_f.up le2) hc
    obtain rfl := hr_c
    refine zT he15 X X (hk := X) (hu := ze) (hz := zn) X<|Z X X X<|U (j := 0) st3.sub hc14 X X X zA X<|Z X X X<|zcA X X X<|zQ (v := (.bool _)) X X X<|Y ?_
    refine zG rfl (fun c16 => ?_) (fun c16 => ?_)
    ·
     refine zl<|zf X X<|zay X X t_om X<|zt X X<|zr<|zK<|E<|zl<|zay X X t_om X<|zf X X<|Y ?_
     refine ⟨⟨k + 1, h1⟩, ⟨?_, rfl, trivial⟩, ?_, ⟨le2, st3, ?_⟩, ?_⟩
     ·exact zac (by rw [zds]; first | (rw [zgW (show xs.length ≤ k by omega)]; simp; done) | (rw [zdI (v := (Voter.mk 0 0 votes)) ha (by omega)]; simp; done) | (rw [zcc (v := (Voter.mk 0 0 votes)) ha hc]; simp_all; done) | (rw [zcc (v := (Voter.mk 0 0 votes)) ha hc]; simp_all; omega))
     ·exact zal
     ·first | omega | (simp; omega)
     show votes.length - ((k + 1)) < votes.length - k
     omega
    refine zx<|zK<|E<|zl<|zay X X t_om X<|zf X X<|Y ?_
    refine ⟨⟨k + 1, h1⟩, ⟨?_, rfl, trivial⟩, ?_, ⟨le2, st3, ?_⟩, ?_⟩
    ·exact zac (by rw [zds]; first | (rw [zgW (show xs.length ≤ k by omega)]; simp; done) | (rw [zdI (v := (Voter.mk 0 0 votes)) ha (by omega)]; simp; done) | (rw [zcc (v := (Voter.mk 0 0 votes)) ha hc]; simp_all; done) | (rw [zcc (v := (Voter.mk 0 0 votes)) ha hc]; simp_all; omega))
    ·exact zal
    ·first | omega | (simp; omega)
    show votes.length - ((k + 1)) < votes.length - k
    omega
   refine M X X X X X<|M X X X X X<|M X X X X X<|M X X X X X<|M X X X X X<|M X X X X X<|zP (v := (.bool _)) X X X<|Y ?_
   refine zad rfl (fun c17 => ?_) (fun c17 => ?_)
   ·
    cases c17
   refine zx<|zK<|E<|zl<|zay X X t_om X<|zf X X<|Y ?_
   refine ⟨⟨k + 1, h1⟩, ⟨?_, rfl, trivial⟩, ?_, ⟨le2, st3, ?_⟩, ?_⟩
   ·exact zac (by rw [zds]; first | (rw [zgW (show xs.length ≤ k by omega)]; simp; done) | (rw [zdI (v := (Voter.mk 0 0 votes)) ha (by omega)]; simp; done) | (rw [zcc (v := (Voter.mk 0 0 votes)) ha hc]; simp_all; done) | (rw [zcc (v := (Voter.mk 0 0 votes)) ha hc]; simp_all; omega))
   ·exact zal
   ·first | omega | (simp; omega)
   show votes.length - ((k + 1)) < votes.length - k
   omega
  refine M X X X X X<|M X X X X X<|zP (v := (.bool _)) X X X<|zU X X<|M X X X X X<|M X X X X X<|M X X X X X<|M X X X X X<|M X X X X X<|M X X X X X<|zP (v := (.bool _)) X X X<|Y ?_
  refine zad rfl (fun c18 => ?_) (fun c18 => ?_)
  ·
   cases c18
  refine zx<|zK<|E<|zl<|zay X X t_om X<|zf X X<|Y ?_
  refine ⟨⟨k + 1, h1⟩, ⟨?_, rfl, trivial⟩, ?_, ⟨le2, st3, ?_⟩, ?_⟩
  ·exact zac (by rw [zds]; first | (rw [zgW (show xs.length ≤ k by omega)]; simp; done) | (rw [zdI (v := (Voter.mk 0 0 votes)) ha (by omega)]; simp; done) | (rw [zcc (v := (Voter.mk 0 0 votes)) ha hc]; simp_all; done) | (rw [zcc (v := (Voter.mk 0 0 votes)) ha hc]; simp_all; omega))
  ·exact zal
  ·first | omega | (simp; omega)
  show votes.length - ((k + 1)) < votes.length - k
  omega
 refine zaA<|zo<|zo<|zak<|E<|W.sr<|zf X X<|zt X X<|Y<|zw<|zb Tryz.results43 ?_
 refine ⟨h1, _, rfl, st3.done, ?_⟩
 refine zac ?_
 rw [show k = (Voter.mk 0 0 votes).votes.length by (show k = votes.length); omega, wrongK_votes]
set_option maxHeartbeats 4000000 in
theorem zhg {h : Heap} {w : World} (hs : Sub h w) {p : Poll} {p_v0 : Value} (p_f0 : Sl LChapter h p_v0 p.text.chapters) {p_v1 : Value} (p_f1 : Sl LRule h p_v1 p.lexicon.rules) {p_v2 : Value} (p_f2 : Sl LDecision h p_v2 p.lexicon.decisions) {p_v3 : Value} (p_f3 : Sl LQuestion h p_v3 p.questions) {p_v4 : Value} (p_f4 : Sl LVoter h p_v4 p.voters) (hp : zcF p = true) : Calls Tryz.prog 46 #[.agg #[p_v0, p_v1, p_v2, p_v3, p_v4]] w (Rets h w (fun h' _ res_ => ∃ u0, res_ = u0 ∧ Sl (LSl LInt) h' u0 ((zB p)))) := by
 refine zL (n := 61) Tryz.func46 X X X<|have st0:=t_s0 hs;have p_f0_b:=p_f0.le;have p_f1_b:=p_f1.le;have p_f2_b:=p_f2.le;have p_f3_b:=p_f3.le;have p_f4_b:=p_f4.le;have hpl:=zck hp;W.sr<|zJ st0 (cs := [p_v0, p_v1, p_v2, p_v3, p_v4]) X X X<|fun b1 w2 h3 le4 hc5 st6=>zcv X X<|Y<|W.sr<|zae (L := (LSl LInt)) (xs := [[]]) (cs := [(.slice none 0 0)]) st6 (Enc.cons (L := (LSl LInt)) (vs := [(.slice none 0 0)]) (x := []) (h := h3) (⟨_, X, Sl.nil _ _⟩) Enc.nil) X X X zap Tryz.info42 X X X t_kr<|fun v7 w8 h11 le12 f9 st10=>zaa (v := v7) X X<|Y<|zm<|W.sr<|O X zD X zbl X X<|U (j := 3) st10.sub (hc5.up le12) X X X zbx X<|have l13:=le4.trans le12;zaC (p_f3.up l13) X zaq X<|zf X X ?_
 refine Y<|zH ?_
 refine zao ([3, 5, 6, 8, 9] ++ t_rg 17 29) (G := Nat × Value × Heap) (fun ⟨i, v_3, h14⟩ => [(3, v_3), (17, .int .i64 (i : Int))]) (fun ⟨i, v_3, h14⟩ w' => Le h11 h14 ∧ St h w h14 w' [] ∧ (Sl (LSl LInt) h14 v_3 ((zbM ((zbj p).take i)))) ∧ (i ≤ p.questions.length)) (fun ⟨i, v_3, h14⟩ => p.questions.length - i) ⟨0, v7, h11⟩ ⟨rfl, rfl, trivial⟩ ⟨Le.refl _, st10, (Sl.to f9 (by rfl)), zaP⟩ ?_
 rintro ⟨i, v_3, h14⟩ _ w17 ⟨le15, st16, hF_3, hi⟩
 refine W.sr<|zaO X X X<|Y<|zm ?_
 refine zG rfl (fun c18 => ?_) (fun c18 => ?_)
 ·
  refine zx<|E<|zm<|zH<|W.sr ?_
  obtain ⟨q, hq⟩ : ∃ y_, (p.questions)[i]? = some y_ := t_ge (by omega)
  have l23 := l13.trans le15
  obtain ⟨b19, o20, _, he22, hc21, hr_q⟩ := Sl.elem (p_f3.up l23) hq
  obtain ⟨v24, rfl, f25⟩ := hr_q
  have f25_b := f25.le
  refine zT he22 X X (hk := X) (hu := zaq) (hz := zbB) X<|zz st16.sub hc21 X Tryz.isAgg84 zbB X X<|zX st16 Tryz.zeroValue84 X X<|fun b26 w27 st28=>zN st28 (k := 0) X X X (za X (za X (za X (za f25.one zau)))) zbB X X X<|fun w29 st30=> ?_
  obtain ⟨h31, le32, hb33, st35⟩ := st30.freeze (k := 0) rfl
  have hc34 := Cells.of hb33
  refine Y<|zm<|have hq0:=zfQ hp hq;have hcl:=zcS hp i;zl<|zcv X X<|Y<|zm<|W.sr<|zO (v := v_3) X X<|zaC (hF_3.up le32) X zap X<|zf X X<|Y<|zH ?_
  have st39 := st35.snoc
  have f40 := OSl.nil (LSl LInt) 42 h31
  refine zao ([6, 8, 9] ++ t_rg 23 21) (G := Nat × Value × List (Nat × Obj) × Heap) (fun ⟨k, v_6, o_6, h36⟩ => [(6, v_6), (23, .int .i64 (k : Int))]) (fun ⟨k, v_6, o_6, h36⟩ w' => Le h31 h36 ∧ St h w h36 w' [[], o_6] ∧ (OSl (LSl LInt) 42 h36 v_6 ((zgd ((zbM ((zbj p).take i)).take k) q.heads.length)) o_6) ∧ (k ≤ (zbM ((zbj p).take i)).length)) (fun ⟨k, v_6, o_6, h36⟩ => (zbM ((zbj p).take i)).length - k) ⟨0, (.slice none 0 0), [], h31⟩ ⟨rfl, rfl, trivial⟩ ⟨Le.refl _, st39, (OSl.to f40 (by rfl)), zaP⟩ ?_
  rintro ⟨k, v_6, o_6, h36⟩ _ w41 ⟨le37, st38, hO_6, hk⟩
  refine W.sr<|zaO X X X<|Y<|zm ?_
  refine zG rfl (fun c42 => ?_) (fun c42 => ?_)
  ·
   refine zx<|E<|zm<|zH<|W.sr ?_
   obtain ⟨x, hx⟩ : ∃ y_, ((zbM ((zbj p).take i)))[k]? = some y_ := t_ge (by omega)
   obtain ⟨b43, o44, _, he46, hc45, hr_x⟩ := Sl.elem (hF_3.up (le32.trans le37)) hx
   obtain ⟨v47, rfl, f48⟩ := hr_x
   have f48_b := f48.le
   refine zT he46 X X (hk := X) (hu := zap) (hz := zbs) X<|U (j := 0) st38.sub hc45 X X X zbI X<|zaa (v := v47) X X<|Y<|zm ?_
   have hxl := cand_xs hp hx
   have hcx := zeI hp (i := i) (k := k) (n := q.heads.length) (by omega)
   refine zl<|O X zaw X zbO X X<|U (j := 3) st38.sub (hc34.up le37) X X X zcg X<|zaC (f25.up (le32.trans le37)) X zaQ X<|zf X X<|Y<|zH ?_
   refine zao ([6, 9] ++ t_rg 30 13) (G := Nat × Value × List (Nat × Obj) × Heap) (fun ⟨h0, v_6, o_6, h49⟩ => [(6, v_6), (30, .int .i64 (h0 : Int))]) (fun ⟨h0, v_6, o_6, h49⟩ w' => Le h36 h49 ∧ St h w h49 w' [[], o_6] ∧ (OSl (LSl LInt) 42 h49 v_6 (((zgd ((zbM ((zbj p).take i)).take k) q.heads.length) ++ heads1 x h0)) o_6) ∧ (h0 ≤ q.heads.length)) (fun ⟨h0, v_6, o_6, h49⟩ => q.heads.length - h0) ⟨0, v_6, o_6, h36⟩ ⟨rfl, rfl, trivial⟩ ⟨Le.refl _, st38, (OSl.to hO_6 (by simp [heads1])), zaP⟩ ?_
   rintro ⟨h0, v_6, o_6, h49⟩ _ w52 ⟨le50, st51, hO_6, hh0⟩
   refine W.sr<|zaO X X X<|Y<|zm ?_
   refine zG rfl (fun c53 => ?_) (fun c53 => ?_)
   ·
    refine zx<|E<|zm<|zH<|W.sr<|zf X X<|zt X X<|Y<|zl<|zO (v := v_6) X X<|zic (L := LInt) st51 X ⟨_, zn⟩ ze<|fun v54 o55 w56 f57 st58=>zO (v := v47) X X ?_
    refine zcN (k := 2) (nb := 8) st58 f57 rfl (f48.up le50) rfl rfl rfl ze Tryz.info3 rfl rfl rfl (by decide) rfl (by first | omega | (simp only [List.length_append, List.length_cons, List.length_nil, zfd]; omega) | (have q_ := List.length_filter_le (zdd p) ((zbM ((zbj p).take i)).take k); rw [List.length_take] at q_; have q2_ := zcS hp i; simp only [List.length_append, List.length_cons, List.length_nil]; omega) | (have q_ := List.length_filter_le (zdd p) ((zbM ((zbj p).take i)).take k); rw [List.length_take] at q_; have q2_ := zcS hp i; omega) | (have q2_ := zeI hp (i := i) (k := k) (n := q.heads.length) (by omega); omega)) (by first | omega | (simp only [List.length_append, List.length_cons, List.length_nil, zfd]; omega) | (have q_ := List.length_filter_le (zdd p) ((zbM ((zbj p).take i)).take k); rw [List.length_take] at q_; have q2_ := zcS hp i; simp only [List.length_append, List.length_cons, List.length_nil]; omega) | (have q_ := List.length_filter_le (zdd p) ((zbM ((zbj p).take i)).take k); rw [List.length_take] at q_; have q2_ := zcS hp i; omega) | (have q2_ := zeI hp (i := i) (k := k) (n := q.heads.length) (by omega); omega)) ?_
    intro v59 o60 w61 _ e62 f63 st64
    subst e62
    refine zf X X<|zae (L := LInt) (xs := [(h0 : Int)]) (cs := [.int .i64 (h0 : Int)]) st64 (Enc.cons (L := LInt) (vs := [.int .i64 (h0 : Int)]) (x := (h0 : Int)) (h := h49) (X) Enc.nil) X X X ze Tryz.info3 X X X t_kr<|fun v65 w66 h69 le70 f67 st68=> ?_
    refine zcN (k := 2) (nb := 8) st68 (f63.up le70) rfl f67 rfl rfl rfl ze Tryz.info3 rfl rfl rfl (by decide) rfl (by first | omega | (simp only [List.length_append, List.length_cons, List.length_nil, zfd]; omega) | (have q_ := List.length_filter_le (zdd p) ((zbM ((zbj p).take i)).take k); rw [List.length_take] at q_; have q2_ := zcS hp i; simp only [List.length_append, List.length_cons, List.length_nil]; omega) | (have q_ := List.length_filter_le (zdd p) ((zbM ((zbj p).take i)).take k); rw [List.length_take] at q_; have q2_ := zcS hp i; omega) | (have q2_ := zeI hp (i := i) (k := k) (n := q.heads.length) (by omega); omega)) (by first | omega | (simp only [List.length_append, List.length_cons, List.length_nil, zfd]; omega) | (have q_ := List.length_filter_le (zdd p) ((zbM ((zbj p).take i)).take k); rw [List.length_take] at q_; have q2_ := zcS hp i; simp only [List.length_append, List.length_cons, List.length_nil]; omega) | (have q_ := List.length_filter_le (zdd p) ((zbM ((zbj p).take i)).take k); rw [List.length_take] at q_; have q2_ := zcS hp i; omega) | (have q2_ := zeI hp (i := i) (k := k) (n := q.heads.length) (by omega); omega)) ?_
    intro v71 o72 w73 _ e74 f75 st76
    subst e74
    obtain ⟨h77, le78, f79, st80⟩ := OSl.freeze (k := 2) st76 f75 rfl (by first | (simp; done) | omega | (simp only [List.length_append, List.length_cons, List.length_nil]; omega) | (have q2_ := zeI hp (i := i) (k := k) (n := q.heads.length) (by omega); omega) | (have q_ := List.length_filter_le (zdd p) ((zbM ((zbj p).take i)).take k); rw [List.length_take] at q_; have q2_ := zcS hp i; omega))
    refine zae (L := (LSl LInt)) (xs := [(([] ++ x) ++ [(h0 : Int)])]) (cs := [v71]) st80 (Enc.cons (L := (LSl LInt)) (vs := [v71]) (x := (([] ++ x) ++ [(h0 : Int)])) (h := h77) (⟨_, rfl, f79⟩) Enc.nil) rfl rfl rfl zap Tryz.info42 rfl rfl rfl (by obtain ⟨_, _, rfl⟩ := Sl.form f79; kernel_rfl) ?_
    intro v81 w82 h85 le86 f83 st84
    refine zcN (k := 1) (nb := 24) st84 (hO_6.up ((le70.trans le78).trans le86)) rfl f83 rfl rfl rfl zap Tryz.info42 rfl rfl rfl (by decide) rfl (by first | omega | (simp only [List.length_append, List.length_cons, List.length_nil, zfd]; omega) | (have q_ := List.length_filter_le (zdd p) ((zbM ((zbj p).take i)).take k); rw [List.length_take] at q_; have q2_ := zcS hp i; simp only [List.length_append, List.length_cons, List.length_nil]; omega) | (have q_ := List.length_filter_le (zdd p) ((zbM ((zbj p).take i)).take k); rw [List.length_take] at q_; have q2_ := zcS hp i; omega) | (have q2_ := zeI hp (i := i) (k := k) (n := q.heads.length) (by omega); omega)) (by first | omega | (simp only [List.length_append, List.length_cons, List.length_nil, zfd]; omega) | (have q_ := List.length_filter_le (zdd p) ((zbM ((zbj p).take i)).take k); rw [List.length_take] at q_; have q2_ := zcS hp i; simp only [List.length_append, List.length_cons, List.length_nil]; omega) | (have q_ := List.length_filter_le (zdd p) ((zbM ((zbj p).take i)).take k); rw [List.length_take] at q_; have q2_ := zcS hp i; omega) | (have q2_ := zeI hp (i := i) (k := k) (n := q.heads.length) (by omega); omega)) ?_
    intro v87 o88 w89 _ e90 f91 st92
    subst e90
    refine zaa (v := v87) X X<|zr<|zK<|E<|zl<|zay X X t_om X<|zf X X<|Y ?_
    have l93 := ((le50.trans le70).trans le78).trans le86
    refine ⟨⟨h0 + 1, v87, o88, h85⟩, ⟨rfl, rfl, trivial⟩, ?_, ⟨l93, st92.take 2, ?_, ?_⟩, ?_⟩
    ·exact zal
    ·refine OSl.to f91 ?_
     rw [heads1_succ, List.append_assoc]; rfl
    ·first | omega | (simp; omega)
    show q.heads.length - ((h0 + 1)) < q.heads.length - h0
    omega
   refine zaA<|zo<|zo<|zak<|zK<|E<|zl<|zay X X t_om X<|zf X X<|Y ?_
   refine ⟨⟨k + 1, v_6, o_6, h49⟩, ⟨rfl, rfl, trivial⟩, ?_, ⟨(le37.trans le50), st51, ?_, ?_⟩, ?_⟩
   ·exact zal
   ·refine OSl.to hO_6 ?_
    rw [show h0 = q.heads.length by omega]; exact candX_heads hx
   ·first | omega | (simp; omega)
   show (zbM ((zbj p).take i)).length - ((k + 1)) < (zbM ((zbj p).take i)).length - k
   omega
  refine zaA<|zo<|zo<|zak<|E<|zl<|zO (v := v_6) X X<|zaa (v := v_6) X X<|zr<|zK<|E<|zl<|zay X X t_om X<|zf X X<|Y ?_
  obtain ⟨h94, le95, f96, st97⟩ := OSl.freeze (k := 1) st38 hO_6 rfl (by first | (simp; done) | omega | (simp only [List.length_append, List.length_cons, List.length_nil]; omega) | (have q2_ := zeI hp (i := i) (k := k) (n := q.heads.length) (by omega); omega) | (have q_ := List.length_filter_le (zdd p) ((zbM ((zbj p).take i)).take k); rw [List.length_take] at q_; have q2_ := zcS hp i; omega))
  have l98 := ((le15.trans le32).trans le37).trans le95
  refine ⟨⟨i + 1, v_6, h94⟩, ⟨rfl, rfl, trivial⟩, ?_, ⟨l98, st97.take 0, ?_, ?_⟩, ?_⟩
  ·exact zal
  ·refine Sl.to f96 ?_
   exact candX_all hq (by omega)
  ·first | omega | (simp; omega)
  show p.questions.length - ((i + 1)) < p.questions.length - i
  omega
 refine zaA<|zo<|zo<|zak<|E<|W.sr<|zcv X X<|Y<|zm<|W.sr<|zO (v := v_3) X X<|zaC hF_3 X zap X<|zf X X<|Y<|zH ?_
 have st102 := st16.snoc
 have f103 := OSl.nil (LSl LInt) 42 h14
 refine zao ([10, 12] ++ t_rg 48 12) (G := Nat × Value × List (Nat × Obj) × Heap) (fun ⟨k, v_10, o_10, h99⟩ => [(10, v_10), (48, .int .i64 (k : Int))]) (fun ⟨k, v_10, o_10, h99⟩ w' => Le h14 h99 ∧ St h w h99 w' [o_10] ∧ (OSl (LSl LInt) 42 h99 v_10 ((((zbM ((zbj p).take i)).take k).filter (zdd p))) o_10) ∧ (k ≤ (zbM ((zbj p).take i)).length)) (fun ⟨k, v_10, o_10, h99⟩ => (zbM ((zbj p).take i)).length - k) ⟨0, (.slice none 0 0), [], h14⟩ ⟨rfl, rfl, trivial⟩ ⟨Le.refl _, st102, (OSl.to f103 (by rfl)), zaP⟩ ?_
 rintro ⟨k, v_10, o_10, h99⟩ _ w104 ⟨le100, st101, hO_10, hk⟩
 have hcl := zcS hp i
 refine W.sr<|zaO X X X<|Y<|zm ?_
 refine zG rfl (fun c105 => ?_) (fun c105 => ?_)
 ·
  refine zx<|E<|zm<|zH<|W.sr ?_
  obtain ⟨y, hy⟩ : ∃ y_, ((zbM ((zbj p).take i)))[k]? = some y_ := t_ge (by omega)
  obtain ⟨b106, o107, _, he109, hc108, hr_y⟩ := Sl.elem (hF_3.up le100) hy
  obtain ⟨v110, rfl, f111⟩ := hr_y
  have f111_b := f111.le
  refine zT he109 X X (hk := X) (hu := zap) (hz := zbs) X<|U (j := 0) st101.sub hc108 X X X zbI X<|zaa (v := v110) X X<|Y<|W.sr<|zz st101.sub (hc5.up ((le12.trans le15).trans le100)) X zbn zaI X X<|zO (v := v110) X X ?_
  have l112 := (l13.trans le15).trans le100
  refine zg st101 rfl rfl rfl Tryz.call44 rfl (c_postilref07_True st101.sub (p := p) (p_f0.up l112) (p_f1.up l112) (p_f2.up l112) (p_f3.up l112) (p_f4.up l112) f111 (by exact hp) (by have q_ := cand_xs hp hy; omega)) ?_
  intro r113 w114 h115 le116 st117 q118
  obtain rfl := q118
  refine Y ?_
  refine zad rfl (fun c119 => ?_) (fun c119 => ?_)
  ·
   refine zl<|zO (v := v_10) X X<|zO (v := v110) X X ?_
   refine zae (L := (LSl LInt)) (xs := [y]) (cs := [v110]) st117 (Enc.cons (L := (LSl LInt)) (vs := [v110]) (x := y) (h := h115) (⟨_, rfl, (f111.up le116)⟩) Enc.nil) rfl rfl rfl zap Tryz.info42 rfl rfl rfl (by obtain ⟨_, _, rfl⟩ := Sl.form f111; kernel_rfl) ?_
   intro v120 w121 h124 le125 f122 st123
   refine zcN (k := 0) (nb := 24) st123 (hO_10.up (le116.trans le125)) rfl f122 rfl rfl rfl zap Tryz.info42 rfl rfl rfl (by decide) rfl (by first | omega | (simp only [List.length_append, List.length_cons, List.length_nil, zfd]; omega) | (have q_ := List.length_filter_le (zdd p) ((zbM ((zbj p).take i)).take k); rw [List.length_take] at q_; have q2_ := zcS hp i; simp only [List.length_append, List.length_cons, List.length_nil]; omega) | (have q_ := List.length_filter_le (zdd p) ((zbM ((zbj p).take i)).take k); rw [List.length_take] at q_; have q2_ := zcS hp i; omega) | (have q2_ := zeI hp (i := i) (k := k) (n := q.heads.length) (by omega); omega)) (by first | omega | (simp only [List.length_append, List.length_cons, List.length_nil, zfd]; omega) | (have q_ := List.length_filter_le (zdd p) ((zbM ((zbj p).take i)).take k); rw [List.length_take] at q_; have q2_ := zcS hp i; simp only [List.length_append, List.length_cons, List.length_nil]; omega) | (have q_ := List.length_filter_le (zdd p) ((zbM ((zbj p).take i)).take k); rw [List.length_take] at q_; have q2_ := zcS hp i; omega) | (have q2_ := zeI hp (i := i) (k := k) (n := q.heads.length) (by omega); omega)) ?_
   intro v126 o127 w128 _ e129 f130 st131
   subst e129
   refine zaa (v := v126) X X<|zr<|zK<|E<|zl<|zay X X t_om X<|zf X X<|Y ?_
   refine ⟨⟨k + 1, v126, o127, h124⟩, ⟨rfl, rfl, trivial⟩, ?_, ⟨((le100.trans le116).trans le125), st131, ?_, ?_⟩, ?_⟩
   ·exact zal
   ·refine OSl.to f130 ?_
    rw [zba hy, List.filter_append, List.filter_cons, if_pos (by simpa using c119)]; rfl
   ·first | omega | (simp; omega)
   show (zbM ((zbj p).take i)).length - ((k + 1)) < (zbM ((zbj p).take i)).length - k
   omega
  refine zx<|zK<|E<|zl<|zay X X t_om X<|zf X X<|Y ?_
  refine ⟨⟨k + 1, v_10, o_10, h115⟩, ⟨rfl, rfl, trivial⟩, ?_, ⟨(le100.trans le116), st117, ?_, ?_⟩, ?_⟩
  ·exact zal
  ·refine OSl.to (hO_10.up le116) ?_
   rw [zba hy, List.filter_append, List.filter_cons, if_neg (by simpa using c119)]; simp
  ·first | omega | (simp; omega)
  show (zbM ((zbj p).take i)).length - ((k + 1)) < (zbM ((zbj p).take i)).length - k
  omega
 refine zaA<|zo<|zo<|zak<|E<|W.sr<|zO (v := v_10) X X<|zaa (v := v_10) X X<|Y<|zw<|zb Tryz.results46 ?_
 obtain ⟨h132, le133, f134, st135⟩ := OSl.freeze (k := 0) st101 hO_10 rfl (by first | (simp; done) | omega | (simp only [List.length_append, List.length_cons, List.length_nil]; omega) | (have q2_ := zeI hp (i := i) (k := k) (n := q.heads.length) (by omega); omega) | (have q_ := List.length_filter_le (zdd p) ((zbM ((zbj p).take i)).take k); rw [List.length_take] at q_; have q2_ := zcS hp i; omega))
 refine ⟨h132, _, rfl, st135.done, ?_⟩
 refine ⟨_, rfl, Sl.to f134 ?_⟩
 exact truths_take (by omega) (by omega)
end Go.Pk
