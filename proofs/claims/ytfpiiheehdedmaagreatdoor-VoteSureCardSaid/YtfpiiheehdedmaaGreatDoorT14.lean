/- A PART OF THE PROOF: contracts of functions, each walked once (much of it printed by a program of the author's own). -/
import Derived.Test.YtfpiiheehdedmaaGreatDoorT13
import Derived.Test.YtfpiiheehdedmaaGreatDoorT2
import Derived.Test.YtfpiiheehdedmaaGreatDoorT4
set_option linter.unusedSimpArgs false
set_option linter.unusedVariables false
set_option maxRecDepth 4000
namespace Go.Pk
open Go Go.RowKit Go.Proofs
theorem c_stem_Homographs_own {h : Heap} {w : World} (hs : Sub h w) {t : Text} {t_v0 : Value} (t_f0 : Sl LChapter h t_v0 t.chapters) {x : Lexicon} {x_v0 : Value} (x_f0 : Sl LRule h x_v0 x.rules) {x_v1 : Value} (x_f1 : Sl LDecision h x_v1 x.decisions) (K1 : Cells h 1 0 Tryz.glob1) : Calls Tryz.prog 84 #[.agg #[t_v0], .agg #[x_v0, x_v1]] w (fun e_ w' => ∃ h' v0_ o0_, e_ = .returned (.tuple #[v0_, .int .i64 (zaR t x)]) ∧ Le h h' ∧ St h w h' w' [o0_] ∧ OSl LStr 9 h' v0_ (((homR t x))) o0_) := by
 refine zP (n := 60) Tryz.func84 X X X<|have st0:=t_s0 hs;have t_f0_b:=t_f0.le;have x_f0_b:=x_f0.le;have x_f1_b:=x_f1.le;W.sr<|zJ st0 (cs := [t_v0]) X X X<|fun b1 w2 h3 le4 hc5 st6=>zJ st6 (cs := [x_v0, x_v1]) X X X<|fun b7 w8 h9 le10 hc11 st12=>zcM X X<|zq X X<|Y<|W.sr<|zr st12.sub (hc5.up le10) X zbk zaA X X<|zr st12.sub hc11 X zbL zaC X X<|have l13:=le4.trans le10;ze st12 X X X Tryz.call117 X (c_stem_open st12.sub (t := t) (t_f0.up l13) (x := x) (x_f0.up l13) (x_f1.up l13) (K1.up l13))<|fun r14 w15 h16 le17 st18 q19=> ?_
 rcases Bool.eq_false_or_eq_true (decide (zaR (t) (x) = 0)) with hb20 | hb20
 ·
  simp only [hb20, if_true, if_false, Bool.false_eq_true, reduceIte] at q19
  obtain ⟨v21, rfl, f22⟩ := q19
  obtain ⟨b23, vs24, rfl, hc25, hr26⟩ := f22
  obtain ⟨v27, v29, v31, v33, rfl, f28, f30, f32, lm34⟩ := hr26
  have f28_b := f28.le
  have f30_b := f30.le
  have f32_b := f32.le
  refine zbY X X<|zA (v := (.pointer (some _))) X X X<|zA (v := (.int _ _)) X X X<|v_asP X X<|zq X X<|Y<|zj<|W.sr<|zh X X<|zcf X X X<|Y ?_
  refine zC rfl (fun c35 => ?_) (fun c35 => ?_)
  ·
   refine W.sr<|zh X X<|zcM X X<|zq X X<|Y<|zw<|zd<|zbb Tryz.results84 ?_
   have st36 := st18.snoc
   have f37 := OSl.nil LStr 9 h16
   refine ⟨h16, (.slice none 0 0), _, congrArg Ending.returned (tup2 rfl (zah ?_)), (l13.trans le17), st36.sublist (own' := [[]]) (.cons_cons _ (.slnil)), OSl.to f37 ?_⟩
   all_goals simp_all [homR]
  refine zy<|O<|zj ?_
  have hx0 : zaR t x = 0 := by simpa using c35
  have hel := entries_len (zdW hx0) x
  refine zn<|zfC (κ := Str) (υ := Head) (ek := strV) (eu := (fun x : Head => .agg [strV x.stem, .int .u8 x.mark].toArray)) st18 X<|fun v38 o39 w40 f41 st42=> ?_
  obtain ⟨mb43, rfl⟩ := f41.form
  have nd44 : (([] : List (Str × Head)).map (·.1)).Nodup := by simp
  refine zaf (v := (.map (some mb43))) X X<|Y<|W.sr<|zcM X X<|Y<|zj<|W.sr<|v_mvP X X ?_
  have l45 := l13.trans le17
  refine ze st42 rfl rfl rfl Tryz.call118 rfl (c_stem_office_entries st42.sub (o := (Office.mk (x) (t) (zeP (x)))) f28 f30 f32 lm34 hc25 (K1.up l45) (by exact ⟨hx0, rfl⟩)) ?_
  intro r46 w47 h48 le49 st50 q51
  obtain ⟨v52, e54, f53⟩ := q51
  rw [← e54] at f53
  have f53_b := f53.le
  have f55 := Sl.to f53 (show _ = (zbF t x) from rfl)
  have f55_b := f55.le
  refine zaH f55 X Tryz.underlying187 X<|zh X X<|Y<|zG ?_
  have st59 := st50.snoc
  have f60 := OSl.nil LStr 9 h48
  refine zax ([9, 11, 12, 13] ++ t_rg 27 29) (G := Nat × List (Str × Head) × Value × List (Nat × Obj) × List (Nat × Obj) × Heap) (fun ⟨i, m, v_9, o_9, o_8, h56⟩ => [(9, v_9), (27, .int .i64 (i : Int))]) (fun ⟨i, m, v_9, o_9, o_8, h56⟩ w' => Le h48 h56 ∧ St h w h56 w' [o_8, o_9] ∧ (OSl LStr 9 h56 v_9 (homsN (zbF t x) i) o_9) ∧ (OM strV (fun x : Head => .agg [strV x.stem, .int .u8 x.mark].toArray) (m) o_8 (.map (some mb43))) ∧ (((m).map (·.1)).Nodup) ∧ (i ≤ (zbF t x).length) ∧ (∀ wd, look m wd = zdC ((zbF t x).take i) wd)) (fun ⟨i, m, v_9, o_9, o_8, h56⟩ => (zbF t x).length - i) ⟨0, [], (.slice none 0 0), [], o39, h48⟩ ⟨rfl, rfl, trivial⟩ ⟨Le.refl _, st59, (OSl.to f60 (by rfl)), (by have q := f41; exact q), (by have q := nd44; exact q), zaW, (by intro wd; rfl)⟩ ?_
  rintro ⟨i, m, v_9, o_9, o_8, h56⟩ _ w61 ⟨le57, st58, hO_9, hM_8, hN_8, hi, hm⟩
  refine W.sr<|zaX X X X<|Y<|zj ?_
  refine zC rfl (fun c62 => ?_) (fun c62 => ?_)
  ·
   refine zy<|O<|zj<|zG<|W.sr ?_
   obtain ⟨y, hy⟩ : ∃ y_, ((zbF t x))[i]? = some y_ := t_ge (by omega)
   obtain ⟨b63, o64, _, he66, hc65, hr_y⟩ := Sl.elem (f55.up le57) hy
   obtain ⟨rfl, ls67, ls68, lu69⟩ := hr_y
   simp only [big] at ls67
   simp only [big] at ls68
   refine zU he66 X X (hk := X) (hu := Tryz.underlying187) (hz := Tryz.sizeOf190) X<|zr st58.sub hc65 X Tryz.isAgg190 Tryz.sizeOf190 X X<|zQ st58 Tryz.zeroValue190 X X<|fun b70 w71 st72=>zI st72 (k := 2) X X X (za X (za X (za X (za X (za X (za X zan)))))) Tryz.sizeOf190 X X X<|fun w73 st74=> ?_
   obtain ⟨h75, le76, hb77, st79⟩ := st74.freeze (k := 2) rfl
   have hc78 := Cells.of hb77
   refine Y<|W.sr<|zR (v := (.map (some mb43))) X X<|E X zdJ X zak X X<|U (j := 3) st79.sub hc78 X X X zaD X<|zi X X (r_look_ok (k := (y.word)) (zu := zdq) (key_str zaB) Tryz.underlying186 hM_8 (st79.ent (k := 0) X) zeN X X X)<|zbY X X<|zA (v := (.agg (List.toArray _))) X X X<|zA (v := (.bool _)) X X X<|zQ st79 zeN X X<|fun b80 w81 st82=>zI st82 (k := 3) X X X (za X (za X zan)) zai X X X<|fun w83 st84=> ?_
   obtain ⟨h85, le86, hb87, st89⟩ := st84.freeze (k := 3) rfl
   have hc88 := Cells.of hb87
   refine zF X X<|Y<|W.sr<|zS X X<|zS X X ?_
   refine zaw (d := 39) rfl (fun g90 => ?_) (fun g90 => ?_)
   ·
    refine Z X X X<|zr st89.sub hc88 X zbQ zai X X<|Z X X X<|E X zdJ X zai X X<|Z X X X<|zal (j := 4) st89.sub (hc78.up le86) (us := [strV (y.head.stem), .int .u8 (y.head.mark)]) X X zbQ zai X X X<|Z X X X<|zi X X (r_stneq X X Tryz.eqGuardType72 (Tryz.eq_Head ((look m (y.word)).getD zdq) y.head))<|zT (v := (.bool _)) X X X<|Y ?_
    refine zC rfl (fun c91 => ?_) (fun c91 => ?_)
    ·
     refine zn<|zR (v := v_9) X X<|E X zdJ X zak X X<|U (j := 3) st89.sub (hc78.up le86) X X X zaD X<|zac (L := LStr) (xs := [(y.word)]) (cs := [strV (y.word)]) st89 (Enc.cons (L := LStr) (vs := [strV (y.word)]) (x := (y.word)) (h := h85) (⟨rfl, zbr⟩) Enc.nil) X X X zV Tryz.info9 X X X t_kr<|fun v92 w93 h96 le97 f94 st95=> ?_
     refine zbB (k := 1) (nb := 16) st95 (hO_9.up ((le76.trans le86).trans le97)) rfl f94 rfl rfl rfl zV Tryz.info9 rfl rfl rfl (by decide) rfl (by have q := zhI (zbF t x) i; simp only [List.length_append, List.length_cons, List.length_nil]; omega) (by have q := zhI (zbF t x) i; simp only [List.length_append, List.length_cons, List.length_nil]; omega) ?_
     intro v98 o99 w100 _ e101 f102 st103
     subst e101
     refine zaf (v := v98) X X<|zp<|zO<|O<|zn<|zaM X X t_om X<|zh X X<|Y ?_
     have l104 := ((le57.trans le76).trans le86).trans le97
     refine ⟨⟨i + 1, m, v98, o99, o_8, h96⟩, ⟨rfl, rfl, trivial⟩, ?_, ⟨l104, st103.take 2, ?_, ?_, ?_, ?_, ?_⟩, ?_⟩
     ·exact zau
     ·refine OSl.to f102 ?_
      rw [homsN_succ hy, homAt_yes hm g90 (by simpa using c91)]
     ·have q := hM_8
      exact q
     ·have q := hN_8
      exact q
     ·first | omega | (simp; omega)
     ·exact hom_keep hy hm g90
     show (zbF t x).length - ((i + 1)) < (zbF t x).length - i
     omega
    refine zn<|zR (v := (.map (some mb43))) X X<|E X zdJ X zak X X<|U (j := 3) st89.sub (hc78.up le86) X X X zaD X<|E X zdJ X zai X X<|zal (j := 4) st89.sub (hc78.up le86) (us := [strV (y.head.stem), .int .u8 (y.head.mark)]) X X zbQ zai X X X<|zeu (i := 0) st89 hM_8 X hN_8 (key_str zaB) Tryz.underlying186 X (k := (y.word)) X (u := y.head) X<|fun o105 w106 _ e107 f108 nd109 st110=> ?_
    subst e107
    refine zp<|zO<|O<|zn<|zaM X X t_om X<|zh X X<|Y ?_
    refine ⟨⟨i + 1, (putM m y.word y.head), v_9, o_9, o105, h85⟩, ⟨rfl, rfl, trivial⟩, ?_, ⟨((le57.trans le76).trans le86), st110.take 2, ?_, ?_, ?_, ?_, ?_⟩, ?_⟩
    ·exact zau
    ·refine OSl.to (hO_9.up (le76.trans le86)) ?_
     rw [homsN_succ hy, homAt_no hm (fun _ => by simpa using c91), List.append_nil]
    ·have q := f108
     exact q
    ·have q := nd109
     exact q
    ·first | omega | (simp; omega)
    ·exact hom_put hy hm (fun _ => by simpa using c91)
    show (zbF t x).length - ((i + 1)) < (zbF t x).length - i
    omega
   refine M X X X X X<|M X X X X X<|M X X X X X<|M X X X X X<|zN (v := (.bool _)) X X X<|Y ?_
   refine zae rfl (fun c111 => ?_) (fun c111 => ?_)
   ·
    cases c111
   refine zn<|zR (v := (.map (some mb43))) X X<|E X zdJ X zak X X<|U (j := 3) st89.sub (hc78.up le86) X X X zaD X<|E X zdJ X zai X X<|zal (j := 4) st89.sub (hc78.up le86) (us := [strV (y.head.stem), .int .u8 (y.head.mark)]) X X zbQ zai X X X<|zeu (i := 0) st89 hM_8 X hN_8 (key_str zaB) Tryz.underlying186 X (k := (y.word)) X (u := y.head) X<|fun o112 w113 _ e114 f115 nd116 st117=> ?_
   subst e114
   refine zp<|zO<|O<|zn<|zaM X X t_om X<|zh X X<|Y ?_
   refine ⟨⟨i + 1, (putM m y.word y.head), v_9, o_9, o112, h85⟩, ⟨rfl, rfl, trivial⟩, ?_, ⟨((le57.trans le76).trans le86), st117.take 2, ?_, ?_, ?_, ?_, ?_⟩, ?_⟩
   ·exact zau
   ·refine OSl.to (hO_9.up (le76.trans le86)) ?_
    rw [homsN_succ hy, homAt_no hm (fun q => by rw [g90] at q; cases q), List.append_nil]
   ·have q := f115
    exact q
   ·have q := nd116
    exact q
   ·first | omega | (simp; omega)
   ·exact hom_put hy hm (fun q => by rw [g90] at q; cases q)
   show (zbF t x).length - ((i + 1)) < (zbF t x).length - i
   omega
  refine zaI<|zm<|zm<|zam<|O<|W.sr<|zR (v := v_9) X X ?_
  have con := sort1 (L := LStr) (T := 9) (f := 119) strV (by rintro _ _ _ ⟨rfl, _⟩; rfl) rfl (fun l => l.mergeSort fun a b => decide (a ≤ b)) (fun l => List.mergeSort_perm _ _) (fun blk off cap zs w hH hb hs => Tryz.slices_Sort_string blk off cap zs w hH hb hs) (fun p cap w => Tryz.slices_Sort_string_none p cap w) (i := 1) st58 hO_9 rfl (by have q := zhI (zbF t x) i; first | omega | (simp only [List.length_mergeSort]; omega))
  refine zay rfl rfl (zaV rfl Tryz.call119 rfl) (con.mono ?_)
  rintro _ w118 ⟨rfl, o119, _, e120, f121, st122⟩
  subst e120
  refine ⟨_, rfl, ?_⟩
  clear con
  refine Y<|W.sr<|zR (v := v_9) X X ?_
  have st130 := st122.sublist (own' := [o119]) (.cons _ (.cons_cons _ (.slnil)))
  have con := zgA (rest := []) f121 (by have q := zhI (zbF t x) i; first | omega | (simp only [List.length_mergeSort]; omega)) st130
  refine zay rfl rfl (zaV rfl Tryz.call120 rfl) (con.mono ?_)
  rintro _ w123 ⟨h124, o125, v126, rfl, le127, st128, f129⟩
  refine ⟨_, rfl, ?_⟩
  clear con
  have f131 := OSl.to f129 (show _ = (setL sLt (homsN (zbF t x) (zbF t x).length)) from by rw [show i = (zbF t x).length by omega]; exact setOf_sort _)
  refine zaf (v := v126) X X<|zq X X<|Y<|zw<|zbb Tryz.results84 ?_
  refine ⟨h124, v126, _, congrArg Ending.returned (tup2 rfl (zah ?_)), (((l45.trans le49).trans le57).trans le127), st128.sublist (own' := [o125]) (.cons_cons _ (.slnil)), OSl.to f131 ?_⟩
  ·exact hx0.symm
  simp [homR, hx0]
 simp only [hb20, if_true, if_false, Bool.false_eq_true, reduceIte] at q19
 obtain ⟨v132, rfl, f133⟩ := q19
 obtain rfl := f133
 refine zbY X X<|zA (v := (.pointer none)) X X X<|zA (v := (.int _ _)) X X X<|zaf X X<|zq X X<|Y<|zj<|W.sr<|zh X X<|zcf X X X<|Y ?_
 refine zC rfl (fun c134 => ?_) (fun c134 => ?_)
 ·
  refine W.sr<|zh X X<|zcM X X<|zq X X<|Y<|zw<|zd<|zbb Tryz.results84 ?_
  have st135 := st18.snoc
  have f136 := OSl.nil LStr 9 h16
  refine ⟨h16, (.slice none 0 0), _, congrArg Ending.returned (tup2 rfl (zah ?_)), (l13.trans le17), st135.sublist (own' := [[]]) (.cons_cons _ (.slnil)), OSl.to f136 ?_⟩
  all_goals simp_all [homR]
 exfalso
 simp_all
theorem c_vote_Moot_1 {h : Heap} {w : World} (hs : Sub h w) (wd : Str) (wd_le : wd.length ≤ 281474976710656) {still_b : Nat} {still_v : Value} {still : List (Str × Bool)} (still_f : FM strV (fun b : Bool => .bool b) h still still_v) (still_c : Cells h still_b 0 [still_v]) : Calls Tryz.prog 87 #[strV wd, .pointer (some ⟨still_b, 0, none⟩)] w (Rets h w (fun _ _ res_ => res_ = .bool (((look still wd).getD false)))) := by
 refine zP (n := 7) Tryz.func87 X X X<|have st0:=t_s0 hs;W.sr<|zF X X<|Y<|W.sr<|U (j := 0) st0.sub still_c X X X Tryz.isAgg137 X<|zcn X X<|zi X X (r_look_fm (k := wd) (zu := false) (key_str zaB) Tryz.underlying137 still_f st0.sub zfw X X X)<|zF X X<|Y<|zw<|zb Tryz.results87 ?_
 refine ⟨h, _, rfl, st0.done, ?_⟩
 refine zx ?_
 rfl
set_option maxHeartbeats 4000000 in
theorem c_vote_Moot {h : Heap} {w : World} (hs : Sub h w) {p : Poll} {p_v0 : Value} (p_f0 : Sl LChapter h p_v0 p.text.chapters) {p_v1 : Value} (p_f1 : Sl LRule h p_v1 p.lexicon.rules) {p_v2 : Value} (p_f2 : Sl LDecision h p_v2 p.lexicon.decisions) {p_v3 : Value} (p_f3 : Sl LQuestion h p_v3 p.questions) {p_v4 : Value} (p_f4 : Sl LVoter h p_v4 p.voters) (K1 : Cells h 1 0 Tryz.glob1) (K0 : Cells h 0 0 Tryz.glob0) : Calls Tryz.prog 29 #[.agg #[p_v0, p_v1, p_v2, p_v3, p_v4]] w (Rets h w (fun h' _ res_ => ∃ u0, res_ = .tuple #[u0, .int .i64 (allE p true)] ∧ Sl LStr h' u0 ((mootR p)))) := by
 refine zP (n := 69) Tryz.func29 X X X<|have st0:=t_s0 hs;have p_f0_b:=p_f0.le;have p_f1_b:=p_f1.le;have p_f2_b:=p_f2.le;have p_f3_b:=p_f3.le;have p_f4_b:=p_f4.le;W.sr<|zJ st0 (cs := [p_v0, p_v1, p_v2, p_v3, p_v4]) X X X<|fun b1 w2 h3 le4 hc5 st6=>zcM X X<|zq X X<|Y<|W.sr<|zr st6.sub hc5 X zaE zad X X<|ze st6 X X X zhj X (zfi st6.sub (p := p) (p_f0.up le4) (p_f1.up le4) (p_f2.up le4) (p_f3.up le4) (p_f4.up le4) _ (K1.up le4) (K0.up le4))<|fun r7 w8 h9 le10 st11 q12=> ?_
 obtain ⟨v13, rfl, f14⟩ := q12
 have f14_b := f14.le
 refine zbY X X<|zA (v := v13) X X X<|zA (v := (.int _ _)) X X X<|zaf (v := v13) X X<|zq X X<|Y<|zj<|W.sr<|zh X X<|zcf X X X<|Y ?_
 refine zC rfl (fun c15 => ?_) (fun c15 => ?_)
 ·
  refine W.sr<|zh X X<|zcM X X<|zq X X<|Y<|zw<|zd<|zbb Tryz.results29 ?_
  refine ⟨h9, _, rfl, st11.done, ?_⟩
  refine ⟨_, tup2 rfl (zah ?_), Sl.to (Sl.nil _ _) ?_⟩
  all_goals (simp_all [mootR])
 refine zy<|O<|zj ?_
 have hz0 : allE p true = 0 := by simpa using c15
 obtain ⟨hk1, hk2, hk3, hk4⟩ := zgQ hz0
 have hk5 := List.length_pos_iff.2 hk3
 have hk6 : (allL p true).length = (zM p).length := by rw [hk4]
 have hk7 := zep (zcb hk1).2
 have hk8 := zcO (zcb hk1).2
 have hpb := (zcb hk1).2
 have hx0 := (zcb hk1).1
 have ht0 := zdW hx0
 have hhl := homR_len hx0
 refine zn<|E X zt X zaA X X<|zal (j := 0) st11.sub (hc5.up le10) (us := [p_v0]) X X zbk zaA X X X<|E X zt X zaC X X<|zal (j := 1) st11.sub (hc5.up le10) (us := [p_v1, p_v2]) X X zbL zaC X X X ?_
 have l16 := le4.trans le10
 refine zay rfl rfl (zaV rfl Tryz.call84 rfl) ((c_stem_Homographs_own st11.sub (t := p.text) (p_f0.up l16) (x := p.lexicon) (p_f1.up l16) (p_f2.up l16) (K1.up l16)).mono ?_)
 rintro _ w17 ⟨h18, v22, o23, rfl, le19, s21, f24⟩
 refine ⟨_, rfl, ?_⟩
 have st20 := st11.call s21
 refine zbY X X<|zA (v := v22) X X X<|zA (v := (.int _ _)) X X X<|zaf (v := v22) X X<|zq X X<|Y<|W.sr<|zfC (κ := Str) (υ := Bool) (ek := strV) (eu := (fun b : Bool => .bool b)) st20 X<|fun v25 o26 w27 f28 st29=> ?_
 obtain ⟨mb30, rfl⟩ := f28.form
 have nd31 : (([] : List (Str × Bool)).map (·.1)).Nodup := by simp
 refine zQ st29 Tryz.zeroValue137 X X<|fun b32 w33 st34=>zar st34 (k := 2) X X (v := (.map (some mb30))) X f28.one Tryz.sizeOf137 X X X<|fun w35 st36=> ?_
 obtain ⟨h37, le38, hb39, st41⟩ := st36.freeze (k := 2) rfl
 have hc40 := Cells.of hb39
 refine Y<|zj<|W.sr<|zR (v := v22) X X<|zfq (f24.up le38) X zV X<|zh X X<|Y<|zG ?_
 refine zax ([10] ++ t_rg 34 7) (G := Nat × List (Str × Bool) × List (Nat × Obj) × Heap) (fun ⟨k, m, o_31, h42⟩ => [(34, .int .i64 (k : Int))]) (fun ⟨k, m, o_31, h42⟩ w' => Le h37 h42 ∧ St h w h42 w' [o23, o_31, []] ∧ (OM strV (fun b : Bool => .bool b) (m) o_31 (.map (some mb30))) ∧ (((m).map (·.1)).Nodup) ∧ (k ≤ (homR p.text p.lexicon).length) ∧ (∀ w, look m w = if w ∈ (homR p.text p.lexicon).take k then some true else none)) (fun ⟨k, m, o_31, h42⟩ => (homR p.text p.lexicon).length - k) ⟨0, [], o26, h37⟩ ⟨rfl, trivial⟩ ⟨Le.refl _, st41, (by have q := f28; exact q), (by have q := nd31; exact q), zaW, (by intro w; simp [look])⟩ ?_
 rintro ⟨k, m, o_31, h42⟩ _ w45 ⟨le43, st44, hM_31, hN_31, hk, hm⟩
 refine W.sr<|zaX X X X<|Y<|zj ?_
 refine zC rfl (fun c46 => ?_) (fun c46 => ?_)
 ·
  refine zy<|O<|zj<|zG<|W.sr ?_
  obtain ⟨wd, hwd⟩ : ∃ y_, ((((homR (p.text) (p.lexicon)))))[k]? = some y_ := t_ge (by omega)
  obtain ⟨b47, o48, cur49, _, e52, he50, hr_wd, hc51⟩ := OSl.elem (f24.up (le38.trans le43)) hwd
  subst e52
  obtain ⟨rfl, ls53⟩ := hr_wd
  simp only [big] at ls53
  refine zU he50 X X (hk := X) (hu := zV) (hz := zak) X<|zi X X (zcN (j := 0) (st44.get (k := 0) X) hc51 X X X zaD)<|zfD X X<|Y<|zn<|U (j := 0) st44.sub (hc40.up le43) X X X Tryz.isAgg137 X<|zcn X X<|zeu (i := 1) st44 hM_31 X hN_31 (key_str zaB) Tryz.underlying137 X (k := wd) X (u := true) X<|fun o54 w55 _ e56 f57 nd58 st59=> ?_
  subst e56
  refine zp<|zO<|O<|zn<|zaM X X t_om X<|zh X X<|Y ?_
  refine ⟨⟨k + 1, (putM m wd true), o54, h42⟩, ⟨rfl, trivial⟩, ?_, ⟨le43, st59, ?_, ?_, ?_, ?_⟩, ?_⟩
  ·exact zau
  ·have q := f57
   exact q
  ·have q := nd58
   exact q
  ·first | omega | (simp; omega)
  ·exact still_put hwd hm
  show (homR p.text p.lexicon).length - ((k + 1)) < (homR p.text p.lexicon).length - k
  omega
 refine zaI<|zm<|zm<|zam<|O<|zj<|W.sr<|zR (v := v13) X X ?_
 refine ze st44 rfl rfl rfl Tryz.call78 rfl (zhY st44.sub (f14.up ((le19.trans le38).trans le43)) (by omega) (by intro t_ ht_; rw [hk4] at ht_; exact zdB ht_) (by omega)) ?_
 intro r60 w61 h62 le63 st64 q65
 obtain ⟨v66, e68, f67⟩ := q65
 rw [← e68] at f67
 have f67_b := f67.le
 have f69 := Sl.to f67 (show _ = (zcU (zM p)) from by rw [hk4])
 have f69_b := f69.le
 refine zaH f69 X zg X<|zh X X<|Y<|zG ?_
 refine zax ([11, 12, 13, 14] ++ t_rg 44 22) (G := Nat × List (Str × Bool) × List (Nat × Obj) × Heap) (fun ⟨k2, m2, o_31, h70⟩ => [(44, .int .i64 (k2 : Int))]) (fun ⟨k2, m2, o_31, h70⟩ w' => Le h62 h70 ∧ St h w h70 w' [o23, o_31, []] ∧ (OM strV (fun b : Bool => .bool b) (m2) o_31 (.map (some mb30))) ∧ (((m2).map (·.1)).Nodup) ∧ (k2 ≤ (zcU (zM p)).length) ∧ (∀ w, look m2 w = zgG (homR p.text p.lexicon) p (zcU (zM p)) k2 w)) (fun ⟨k2, m2, o_31, h70⟩ => (zcU (zM p)).length - k2) ⟨0, m, o_31, h62⟩ ⟨rfl, trivial⟩ ⟨Le.refl _, st64, (by have q := hM_31; exact q), (by have q := hN_31; exact q), zaW, (by exact still_zero (by omega) hm)⟩ ?_
 rintro ⟨k2, m2, o_31, h70⟩ _ w73 ⟨le71, st72, hM_31, hN_31, hk2, hm2⟩
 refine W.sr<|zaX X X X<|Y<|zj ?_
 refine zC rfl (fun c74 => ?_) (fun c74 => ?_)
 ·
  refine zy<|O<|zj<|zG<|W.sr<|zh X X ?_
  obtain ⟨ch, hch⟩ : ∃ y_, ((zcU (zM p)))[k2]? = some y_ := t_ge (by omega)
  obtain ⟨b75, o76, _, he78, hc77, hr_ch⟩ := Sl.elem (f69.up le71) hch
  obtain rfl := hr_ch
  refine zU he78 X X (hk := X) (hu := zg) (hz := zl) X<|U (j := 0) st72.sub hc77 X X X zz X<|zq X X<|zq X X<|Y<|zj ?_
  have hk9 : k2 < p.questions.length := by have q_ := set_len7 hk3; omega
  refine zbX Tryz.mixed t_kr (Cls h70 _) (Cls.drew st72)<|zZ X zt X zaA X X<|have l79:=((((le10.trans le19).trans le38).trans le43).trans le63).trans le71;zH X X (fun _ hC => (zcD (j := 0) hC.sub (hc5.up l79) (us := [p_v0]) X X zbk zaA X X))<|zZ X zt X zbe X X<|zH X X (fun _ hC => (zf (j := 3) hC.sub (hc5.up l79) X X X zby))<|zde X X ?_
  obtain ⟨q, hq⟩ : ∃ y_, (p.questions)[k2]? = some y_ := t_ge (by omega)
  have l84 := ((((l16.trans le19).trans le38).trans le43).trans le63).trans le71
  obtain ⟨b80, o81, _, he83, hc82, hr_q⟩ := Sl.elem (p_f3.up l84) hq
  obtain ⟨v85, rfl, f86⟩ := hr_q
  have f86_b := f86.le
  refine zbZ he83 X X (hk := X) (hu := zaq) (hz := zbR) X<|zZ X zaF X zW X X<|zH X X (fun _ hC => (zcD (j := 0) hC.sub hc82 (us := [.int .i64 (q.at_.chapter), .int .i64 (q.at_.line), .int .i64 (q.at_.word)]) X X zaQ zW X X)) ?_
  refine zcW rfl rfl (fun _ => zaV rfl Tryz.call85 rfl) (fun _ hC => Rets.quiet hC (by have con := (zgP hC.sub (t := p.text) (p_f0.up l84) (p := q.at_)); rw [at_word ht0, at_err ht0 (zgL hpb hq).1] at con; exact con)) ?_
  refine u_mvT X X<|u_extract (v := (strV _)) X X X<|u_extract (v := (.int _ _)) X X X<|u_asS X X<|u_asI X X<|zbC ?_
  rintro w87 ⟨h88, s89⟩
  have st90 := st72.call0 s89
  refine O<|W.sr<|zh X X<|zaX X X X<|Y ?_
  refine zC rfl (fun c91 => ?_) (fun c91 => ?_)
  ·
   refine zn<|have l92:=((le43.trans le63).trans le71).trans s89.le;U (j := 0) st90.sub (hc40.up l92) X X X Tryz.isAgg137 X<|zcn X X<|OpsL.mapDelete (i := 1) st90 hM_31 X hN_31 (key_str zaB) Tryz.underlying137 X (k := ((zcs p.text q.at_))) X<|fun o93 w94 _ e95 f96 nd97 st98=> ?_
   subst e95
   refine zp<|zO<|O<|zn<|zaM X X t_om X<|zh X X<|Y ?_
   refine ⟨⟨k2 + 1, (delM m2 (zcs p.text q.at_)), o93, h88⟩, ⟨rfl, trivial⟩, ?_, ⟨(le71.trans s89.le), st98, ?_, ?_, ?_, ?_⟩, ?_⟩
   ·exact zau
   ·have q := f96
    exact q
   ·have q := nd97
    exact q
   ·first | omega | (simp; omega)
   ·exact still_del hq hch c91 hm2
   show (zcU (zM p)).length - ((k2 + 1)) < (zcU (zM p)).length - k2
   omega
  refine zy<|zO<|O<|zn<|zaM X X t_om X<|zh X X<|Y ?_
  refine ⟨⟨k2 + 1, m2, o_31, h88⟩, ⟨rfl, trivial⟩, ?_, ⟨(le71.trans s89.le), st90, ?_, ?_, ?_, ?_⟩, ?_⟩
  ·exact zau
  ·have q := hM_31
   exact q
  ·have q := hN_31
   exact q
  ·first | omega | (simp; omega)
  ·exact still_skip hq hch c91 hm2
  show (zcU (zM p)).length - ((k2 + 1)) < (zcU (zM p)).length - k2
  omega
 refine zaI<|zm<|zm<|zam<|O<|zj ?_
 obtain ⟨h99, le100, f101, st102⟩ := OM.freeze (k := 1) st72 hM_31 rfl
 refine zn<|zR (v := v22) X X<|zcL X X X ?_
 have st103 := st102.take 1
 have con := zgb (rest := []) (f24.up ((((le38.trans le43).trans le63).trans le71).trans le100)) (g := 87) (caps := [.pointer (some ⟨b32, 0, none⟩)]) (fun x_ => ((look (m2) (x_)).getD false)) (by omega) Tryz.call87 (fun x_ h_ w_ vs_ le_ hs_ hx_ hr_ u_ hu_ => by cases hu_; obtain ⟨hr1_, hr2_⟩ := hr_; cases hr1_; simp only [big] at hr2_; exact c_vote_Moot_1 hs_ _ hr2_ (f101.up le_) ((hc40.up (((le43.trans le63).trans le71).trans le100)).up le_)) st103
 refine zay rfl rfl (zaV rfl Tryz.call86 rfl) (con.mono ?_)
 rintro _ w104 ⟨h105, o106, v107, rfl, le108, st109, f110⟩
 refine ⟨_, rfl, ?_⟩
 clear con
 refine zaf (v := v107) X X<|zq X X<|Y<|zw<|zbb Tryz.results29 ?_
 obtain ⟨h111, le112, f113, st114⟩ := OSl.freeze (k := 0) st109 f110 rfl (by refine Nat.le_trans (List.length_filter_le _ _) ?_; omega)
 refine ⟨h111, _, rfl, st114.done, ?_⟩
 refine ⟨_, tup2 rfl (zah ?_), Sl.to f113 ?_⟩
 all_goals first | (simp_all [mootR]; done) | (rw [mootR, if_pos hz0]; rw [show (zcU (zM p)).length = k2 by omega]; exact still_filter hm2)
end Go.Pk

namespace Go.Pk
open Go Go.RowKit Go.Proofs
theorem zfu {h : Heap} {w : World} (hs : Sub h w) (chapter : Int) (line : Int) (word : Int) : Calls Tryz.prog 38 #[.int .i64 chapter, .int .i64 line, .int .i64 word] w (Rets h w (fun _ _ res_ => res_ = .agg #[.int .i64 ((Place.mk chapter line word)).chapter, .int .i64 ((Place.mk chapter line word)).line, .int .i64 ((Place.mk chapter line word)).word])) := by
 refine zP (n := 11) Tryz.func38 X X X<|have st0:=t_s0 hs;W.sr<|zQ st0 Tryz.zeroValue70 X X<|fun b1 w2 st3=>Y<|W.sr<|zh X X<|zh X X<|zh X X<|zi X X (zbq (cs := [.int .i64 chapter, .int .i64 line, .int .i64 word]) t_kr)<|zI st3 (k := 0) X X X (za X (za X (za X zan))) zW X X X<|fun w4 st5=> ?_
 obtain ⟨h6, le7, hb8, st10⟩ := st5.freeze (k := 0) rfl
 have hc9 := Cells.of hb8
 refine Y<|zw<|zdv Tryz.results38 X zaQ zW X st10.sub hc9 ?_
 refine ⟨h6, _, rfl, st10.done, ?_⟩
 refine ?_
 all_goals rfl
theorem zfI {h : Heap} {w : World} (hs : Sub h w) (a : Str) (a_le : a.length ≤ 281474976710656) (m : Int) (m_l : 0 ≤ m ∧ m ≤ 255) (b : Str) (b_le : b.length ≤ 281474976710656) (n : Int) (n_l : 0 ≤ n ∧ n ≤ 255) : Calls Tryz.prog 93 #[strV a, .int .u8 m, strV b, .int .u8 n] w (Rets h w (fun h' _ res_ => ∃ u0, res_ = u0 ∧ Sl LHead h' u0 (([Head.mk a m, Head.mk b n] : List Head)))) := by
 refine zP (n := 16) Tryz.func93 X X X<|have st0:=t_s0 hs;W.sr<|zcM X X<|Y<|W.sr<|zcn X X<|zh X X<|zi X X (zbq (cs := [strV a, .int .u8 m]) t_kr)<|zcn X X<|zh X X<|zi X X (zbq (cs := [strV b, .int .u8 n]) t_kr) ?_
 refine zac (L := LHead) (xs := [(Head.mk (a) (m)), (Head.mk (b) (n))]) (cs := [strV a, .int .u8 m, strV b, .int .u8 n]) st0 (Enc.cons (L := LHead) (vs := [strV a, .int .u8 m]) (x := (Head.mk (a) (m))) (h := h) (⟨rfl, by first | assumption | decide | omega | (simp [big]; done) | (simp [big]; omega), t_u8⟩) (Enc.cons (L := LHead) (vs := [strV b, .int .u8 n]) (x := (Head.mk (b) (n))) (h := h) (⟨rfl, by first | assumption | decide | omega | (simp [big]; done) | (simp [big]; omega), t_u8⟩) Enc.nil)) rfl rfl rfl zaZ Tryz.info72 rfl rfl rfl t_kr ?_
 intro v1 w2 h5 le6 f3 st4
 refine zaf (v := v1) X X<|Y<|zw<|zb Tryz.results93 ?_
 refine ⟨h5, _, rfl, st4.done, ?_⟩
 refine ⟨_, rfl, Sl.to f3 ?_⟩
 all_goals rfl
theorem zdX {h : Heap} {w : World} (hs : Sub h w)  : Calls Tryz.prog 35 #[] w (Rets h w (fun h' _ res_ => ∃ u0 u1 u2 u3 u4, res_ = .agg #[u0, u1, u2, u3, u4] ∧ Sl LChapter h' u0 (zdj).text.chapters ∧ Sl LRule h' u1 (zdj).lexicon.rules ∧ Sl LDecision h' u2 (zdj).lexicon.decisions ∧ Sl LQuestion h' u3 (zdj).questions ∧ Sl LVoter h' u4 (zdj).voters)) := by
 refine zP (n := 33) Tryz.func35 X X X<|have st0:=t_s0 hs;W.sr<|zQ st0 zdu X X<|fun b1 w2 st3=>Y<|W.sr ?_
 refine zac (L := LStr) (xs := [wThe, wSea, wIs, wOld]) (cs := [strV wThe, strV wSea, strV wIs, strV wOld]) st3 (Enc.cons (L := LStr) (vs := [strV wThe]) (x := wThe) (h := h) (⟨rfl, by first | assumption | decide | omega | (simp [big]; done) | (simp [big]; omega)⟩) (Enc.cons (L := LStr) (vs := [strV wSea]) (x := wSea) (h := h) (⟨rfl, by first | assumption | decide | omega | (simp [big]; done) | (simp [big]; omega)⟩) (Enc.cons (L := LStr) (vs := [strV wIs]) (x := wIs) (h := h) (⟨rfl, by first | assumption | decide | omega | (simp [big]; done) | (simp [big]; omega)⟩) (Enc.cons (L := LStr) (vs := [strV wOld]) (x := wOld) (h := h) (⟨rfl, by first | assumption | decide | omega | (simp [big]; done) | (simp [big]; omega)⟩) Enc.nil)))) rfl rfl rfl zV Tryz.info9 rfl rfl rfl t_kr ?_
 intro v4 w5 h8 le9 f6 st7
 refine zac (L := LStr) (xs := [wOld, wThe, wSea]) (cs := [strV wOld, strV wThe, strV wSea]) st7 (Enc.cons (L := LStr) (vs := [strV wOld]) (x := wOld) (h := h8) (⟨rfl, by first | assumption | decide | omega | (simp [big]; done) | (simp [big]; omega)⟩) (Enc.cons (L := LStr) (vs := [strV wThe]) (x := wThe) (h := h8) (⟨rfl, by first | assumption | decide | omega | (simp [big]; done) | (simp [big]; omega)⟩) (Enc.cons (L := LStr) (vs := [strV wSea]) (x := wSea) (h := h8) (⟨rfl, by first | assumption | decide | omega | (simp [big]; done) | (simp [big]; omega)⟩) Enc.nil))) rfl rfl rfl zV Tryz.info9 rfl rfl rfl t_kr ?_
 intro v10 w11 h14 le15 f12 st13
 refine zac (L := (LSl LStr)) (xs := [[wThe, wSea, wIs, wOld], [wOld, wThe, wSea]]) (cs := [v4, v10]) st13 (Enc.cons (L := (LSl LStr)) (vs := [v4]) (x := [wThe, wSea, wIs, wOld]) (h := h14) (⟨_, rfl, (f6.up le15)⟩) (Enc.cons (L := (LSl LStr)) (vs := [v10]) (x := [wOld, wThe, wSea]) (h := h14) (⟨_, rfl, f12⟩) Enc.nil)) rfl rfl rfl zaO Tryz.info60 rfl rfl rfl (by obtain ⟨_, _, rfl⟩ := Sl.form f6; obtain ⟨_, _, rfl⟩ := Sl.form f12; kernel_rfl) ?_
 intro v16 w17 h20 le21 f18 st19
 refine zi rfl rfl (zbq (cs := [.int .i64 7, v16]) (by obtain ⟨_, _, rfl⟩ := Sl.form f18; kernel_rfl)) ?_
 refine zac (L := LStr) (xs := [wSea, wAnd, wSea]) (cs := [strV wSea, strV wAnd, strV wSea]) st19 (Enc.cons (L := LStr) (vs := [strV wSea]) (x := wSea) (h := h20) (⟨rfl, by first | assumption | decide | omega | (simp [big]; done) | (simp [big]; omega)⟩) (Enc.cons (L := LStr) (vs := [strV wAnd]) (x := wAnd) (h := h20) (⟨rfl, by first | assumption | decide | omega | (simp [big]; done) | (simp [big]; omega)⟩) (Enc.cons (L := LStr) (vs := [strV wSea]) (x := wSea) (h := h20) (⟨rfl, by first | assumption | decide | omega | (simp [big]; done) | (simp [big]; omega)⟩) Enc.nil))) rfl rfl rfl zV Tryz.info9 rfl rfl rfl t_kr ?_
 intro v22 w23 h26 le27 f24 st25
 refine zac (L := (LSl LStr)) (xs := [[wSea, wAnd, wSea]]) (cs := [v22]) st25 (Enc.cons (L := (LSl LStr)) (vs := [v22]) (x := [wSea, wAnd, wSea]) (h := h26) (⟨_, rfl, f24⟩) Enc.nil) rfl rfl rfl zaO Tryz.info60 rfl rfl rfl (by obtain ⟨_, _, rfl⟩ := Sl.form f24; kernel_rfl) ?_
 intro v28 w29 h32 le33 f30 st31
 refine zi rfl rfl (zbq (cs := [.int .i64 3, v28]) (by obtain ⟨_, _, rfl⟩ := Sl.form f30; kernel_rfl)) ?_
 refine zac (L := LChapter) (xs := [(Chapter.mk (7) ([[wThe, wSea, wIs, wOld], [wOld, wThe, wSea]])), (Chapter.mk (3) ([[wSea, wAnd, wSea]]))]) (cs := [.int .i64 7, v16, .int .i64 3, v28]) st31 (Enc.cons (L := LChapter) (vs := [.int .i64 7, v16]) (x := (Chapter.mk (7) ([[wThe, wSea, wIs, wOld], [wOld, wThe, wSea]]))) (h := h32) (⟨_, X, (f18.up (le27.trans le33))⟩) (Enc.cons (L := LChapter) (vs := [.int .i64 3, v28]) (x := (Chapter.mk (3) ([[wSea, wAnd, wSea]]))) (h := h32) (⟨_, X, f30⟩) Enc.nil)) X X X zaK Tryz.info152 X X X t_kr<|fun v34 w35 h38 le39 f36 st37=> ?_
 refine zi rfl rfl (zbq (cs := [v34]) (by obtain ⟨_, _, rfl⟩ := Sl.form f36; kernel_rfl)) ?_
 refine ze st37 X X X Tryz.call38 X (zfu st37.sub _ _ _)<|fun r40 w41 h42 le43 st44 q45=> ?_
 obtain rfl := q45
 refine zi X X (zbq (cs := [strV wSee, .int .u8 2]) t_kr)<|zi X X (zbq (cs := [.int .i64 1, .int .u8 3, strV [], .int .i64 ((Place.mk (1) (0) (2)).chapter), .int .i64 ((Place.mk (1) (0) (2)).line), .int .i64 ((Place.mk (1) (0) (2)).word), strV wSee, .int .u8 2, .int .i64 0]) t_kr) ?_
 refine zac (L := LDecision) (xs := [({ zcw with number := 1, kind := 3, at_ := (Place.mk (1) (0) (2)), to := (Head.mk (wSee) (2)) } : Decision)]) (cs := [.int .i64 1, .int .u8 3, strV [], .int .i64 ((Place.mk (1) (0) (2)).chapter), .int .i64 ((Place.mk (1) (0) (2)).line), .int .i64 ((Place.mk (1) (0) (2)).word), strV wSee, .int .u8 2, .int .i64 0]) st44 (Enc.cons (L := LDecision) (vs := [.int .i64 1, .int .u8 3, strV [], .int .i64 ((Place.mk (1) (0) (2)).chapter), .int .i64 ((Place.mk (1) (0) (2)).line), .int .i64 ((Place.mk (1) (0) (2)).word), strV wSee, .int .u8 2, .int .i64 0]) (x := ({ zcw with number := 1, kind := 3, at_ := (Place.mk (1) (0) (2)), to := (Head.mk (wSee) (2)) } : Decision)) (h := h42) (⟨rfl, t_u8, by first | assumption | decide | omega | (simp [big]; done) | (simp [big]; omega), by first | assumption | decide | omega | (simp [big]; done) | (simp [big]; omega), t_u8⟩) Enc.nil) rfl rfl rfl zaG Tryz.info74 rfl rfl rfl t_kr ?_
 intro v46 w47 h50 le51 f48 st49
 refine zi rfl rfl (zbq (cs := [(.slice none 0 0), v46]) (by obtain ⟨_, _, rfl⟩ := Sl.form f48; kernel_rfl)) ?_
 refine ze st49 X X X Tryz.call38 X (zfu st49.sub _ _ _)<|fun r52 w53 h54 le55 st56 q57=> ?_
 obtain rfl := q57
 refine ze st56 rfl rfl rfl Tryz.call93 rfl (zfI st56.sub _ (by first | assumption | decide | omega | (simp [big]; done) | (simp [big]; omega)) _ (by omega) _ (by first | assumption | decide | omega | (simp [big]; done) | (simp [big]; omega)) _ (by omega)) ?_
 intro r58 w59 h60 le61 st62 q63
 obtain ⟨v64, e66, f65⟩ := q63
 rw [← e66] at f65
 have f65_b := f65.le
 refine zi rfl rfl (zbq (cs := [.int .i64 ((Place.mk (0) (0) (1)).chapter), .int .i64 ((Place.mk (0) (0) (1)).line), .int .i64 ((Place.mk (0) (0) (1)).word), r58]) (by obtain ⟨_, _, rfl⟩ := Sl.form f65; kernel_rfl)) ?_
 refine ze st62 X X X Tryz.call38 X (zfu st62.sub _ _ _)<|fun r67 w68 h69 le70 st71 q72=> ?_
 obtain rfl := q72
 refine ze st71 rfl rfl rfl Tryz.call93 rfl (zfI st71.sub _ (by first | assumption | decide | omega | (simp [big]; done) | (simp [big]; omega)) _ (by omega) _ (by first | assumption | decide | omega | (simp [big]; done) | (simp [big]; omega)) _ (by omega)) ?_
 intro r73 w74 h75 le76 st77 q78
 obtain ⟨v79, e81, f80⟩ := q78
 rw [← e81] at f80
 have f80_b := f80.le
 refine zi rfl rfl (zbq (cs := [.int .i64 ((Place.mk (0) (0) (3)).chapter), .int .i64 ((Place.mk (0) (0) (3)).line), .int .i64 ((Place.mk (0) (0) (3)).word), r73]) (by obtain ⟨_, _, rfl⟩ := Sl.form f80; kernel_rfl)) ?_
 refine ze st77 X X X Tryz.call38 X (zfu st77.sub _ _ _)<|fun r82 w83 h84 le85 st86 q87=> ?_
 obtain rfl := q87
 refine ze st86 rfl rfl rfl Tryz.call93 rfl (zfI st86.sub _ (by first | assumption | decide | omega | (simp [big]; done) | (simp [big]; omega)) _ (by omega) _ (by first | assumption | decide | omega | (simp [big]; done) | (simp [big]; omega)) _ (by omega)) ?_
 intro r88 w89 h90 le91 st92 q93
 obtain ⟨v94, e96, f95⟩ := q93
 rw [← e96] at f95
 have f95_b := f95.le
 refine zi rfl rfl (zbq (cs := [.int .i64 ((Place.mk (1) (0) (0)).chapter), .int .i64 ((Place.mk (1) (0) (0)).line), .int .i64 ((Place.mk (1) (0) (0)).word), r88]) (by obtain ⟨_, _, rfl⟩ := Sl.form f95; kernel_rfl)) ?_
 have l97 := ((le70.trans le76).trans le85).trans le91
 refine zac (L := LQuestion) (xs := [(Question.mk ((Place.mk (0) (0) (1))) (([Head.mk (wSea) (1), Head.mk (wSee) (2)] : List Head))), (Question.mk ((Place.mk (0) (0) (3))) (([Head.mk (wAge) (3), Head.mk (wOld) (0)] : List Head))), (Question.mk ((Place.mk (1) (0) (0))) (([Head.mk (wSea) (1), Head.mk (wSee) (2)] : List Head)))]) (cs := [.int .i64 ((Place.mk (0) (0) (1)).chapter), .int .i64 ((Place.mk (0) (0) (1)).line), .int .i64 ((Place.mk (0) (0) (1)).word), r58, .int .i64 ((Place.mk (0) (0) (3)).chapter), .int .i64 ((Place.mk (0) (0) (3)).line), .int .i64 ((Place.mk (0) (0) (3)).word), r73, .int .i64 ((Place.mk (1) (0) (0)).chapter), .int .i64 ((Place.mk (1) (0) (0)).line), .int .i64 ((Place.mk (1) (0) (0)).word), r88]) st92 (Enc.cons (L := LQuestion) (vs := [.int .i64 ((Place.mk (0) (0) (1)).chapter), .int .i64 ((Place.mk (0) (0) (1)).line), .int .i64 ((Place.mk (0) (0) (1)).word), r58]) (x := (Question.mk ((Place.mk (0) (0) (1))) (([Head.mk (wSea) (1), Head.mk (wSee) (2)] : List Head)))) (h := h90) (⟨_, X, (f65.up l97)⟩) (Enc.cons (L := LQuestion) (vs := [.int .i64 ((Place.mk (0) (0) (3)).chapter), .int .i64 ((Place.mk (0) (0) (3)).line), .int .i64 ((Place.mk (0) (0) (3)).word), r73]) (x := (Question.mk ((Place.mk (0) (0) (3))) (([Head.mk (wAge) (3), Head.mk (wOld) (0)] : List Head)))) (h := h90) (⟨_, X, (f80.up (le85.trans le91))⟩) (Enc.cons (L := LQuestion) (vs := [.int .i64 ((Place.mk (1) (0) (0)).chapter), .int .i64 ((Place.mk (1) (0) (0)).line), .int .i64 ((Place.mk (1) (0) (0)).word), r88]) (x := (Question.mk ((Place.mk (1) (0) (0))) (([Head.mk (wSea) (1), Head.mk (wSee) (2)] : List Head)))) (h := h90) (⟨_, X, f95⟩) Enc.nil))) X X X zaq Tryz.info84 X X X t_kr<|fun v98 w99 h102 le103 f100 st101=>zac (L := LInt) (xs := [(-1), 1, (-1)]) (cs := [.int .i64 (-1), .int .i64 1, .int .i64 (-1)]) st101 (Enc.cons (L := LInt) (vs := [.int .i64 (-1)]) (x := (-1)) (h := h102) (X) (Enc.cons (L := LInt) (vs := [.int .i64 1]) (x := 1) (h := h102) (X) (Enc.cons (L := LInt) (vs := [.int .i64 (-1)]) (x := (-1)) (h := h102) (X) Enc.nil))) X X X zg Tryz.info3 X X X t_kr<|fun v104 w105 h108 le109 f106 st107=> ?_
 refine zi rfl rfl (zbq (cs := [.int .i64 5, .int .i64 0, v104]) (by obtain ⟨_, _, rfl⟩ := Sl.form f106; kernel_rfl)) ?_
 refine zac (L := LInt) (xs := [0, 0, 0]) (cs := [.int .i64 0, .int .i64 0, .int .i64 0]) st107 (Enc.cons (L := LInt) (vs := [.int .i64 0]) (x := 0) (h := h108) (X) (Enc.cons (L := LInt) (vs := [.int .i64 0]) (x := 0) (h := h108) (X) (Enc.cons (L := LInt) (vs := [.int .i64 0]) (x := 0) (h := h108) (X) Enc.nil))) X X X zg Tryz.info3 X X X t_kr<|fun v110 w111 h114 le115 f112 st113=> ?_
 refine zi rfl rfl (zbq (cs := [.int .i64 2, .int .i64 1, v110]) (by obtain ⟨_, _, rfl⟩ := Sl.form f112; kernel_rfl)) ?_
 refine zac (L := LInt) (xs := [0, (-1), 1]) (cs := [.int .i64 0, .int .i64 (-1), .int .i64 1]) st113 (Enc.cons (L := LInt) (vs := [.int .i64 0]) (x := 0) (h := h114) (X) (Enc.cons (L := LInt) (vs := [.int .i64 (-1)]) (x := (-1)) (h := h114) (X) (Enc.cons (L := LInt) (vs := [.int .i64 1]) (x := 1) (h := h114) (X) Enc.nil))) X X X zg Tryz.info3 X X X t_kr<|fun v116 w117 h120 le121 f118 st119=> ?_
 refine zi rfl rfl (zbq (cs := [.int .i64 8, .int .i64 1, v116]) (by obtain ⟨_, _, rfl⟩ := Sl.form f118; kernel_rfl)) ?_
 refine zac (L := LVoter) (xs := [(Voter.mk 5 0 ([(-1), 1, (-1)])), (Voter.mk (2) (1) ([0, 0, 0])), (Voter.mk (8) (1) ([0, (-1), 1]))]) (cs := [.int .i64 5, .int .i64 0, v104, .int .i64 2, .int .i64 1, v110, .int .i64 8, .int .i64 1, v116]) st119 (Enc.cons (L := LVoter) (vs := [.int .i64 5, .int .i64 0, v104]) (x := (Voter.mk 5 0 ([(-1), 1, (-1)]))) (h := h120) (⟨_, X, (f106.up (le115.trans le121))⟩) (Enc.cons (L := LVoter) (vs := [.int .i64 2, .int .i64 1, v110]) (x := (Voter.mk (2) (1) ([0, 0, 0]))) (h := h120) (⟨_, X, (f112.up le121)⟩) (Enc.cons (L := LVoter) (vs := [.int .i64 8, .int .i64 1, v116]) (x := (Voter.mk (8) (1) ([0, (-1), 1]))) (h := h120) (⟨_, X, f118⟩) Enc.nil))) X X X zaa Tryz.info79 X X X t_kr<|fun v122 w123 h126 le127 f124 st125=> ?_
 refine zi rfl rfl (zbq (cs := [v34, (.slice none 0 0), v46, v98, v122]) (by obtain ⟨_, _, rfl⟩ := Sl.form f36; obtain ⟨_, _, rfl⟩ := Sl.form f48; obtain ⟨_, _, rfl⟩ := Sl.form f100; obtain ⟨_, _, rfl⟩ := Sl.form f124; kernel_rfl)) ?_
 refine zI st125 (k := 0) X X X (za f36.one (za X (za f48.one (za f100.one (za f124.one zan))))) zad X X X<|fun w128 st129=> ?_
 obtain ⟨h130, le131, hb132, st134⟩ := st129.freeze (k := 0) rfl
 have hc133 := Cells.of hb132
 refine Y<|zw<|zdv Tryz.results35 X zaE zad X st134.sub hc133 ?_
 refine ⟨h130, _, rfl, st134.done, ?_⟩
 refine ⟨_, _, _, _, _, ?_, Sl.to (f36.up (((((((((((((le43.trans le51).trans le55).trans le61).trans le70).trans le76).trans le85).trans le91).trans le103).trans le109).trans le115).trans le121).trans le127).trans le131)) ?_, Sl.to (Sl.nil _ _) ?_, Sl.to (f48.up (((((((((((le55.trans le61).trans le70).trans le76).trans le85).trans le91).trans le103).trans le109).trans le115).trans le121).trans le127).trans le131)) ?_, Sl.to (f100.up ((((le109.trans le115).trans le121).trans le127).trans le131)) ?_, Sl.to (f124.up le131) ?_⟩
 all_goals rfl
theorem zdD {h : Heap} {w : World} (hs : Sub h w)  : Calls Tryz.prog 90 #[] w (Rets h w (fun h' _ res_ => ∃ u0 u1 u2 u3 u4, res_ = .agg #[u0, u1, u2, u3, u4] ∧ Sl LChapter h' u0 (twoE).text.chapters ∧ Sl LRule h' u1 (twoE).lexicon.rules ∧ Sl LDecision h' u2 (twoE).lexicon.decisions ∧ Sl LQuestion h' u3 (twoE).questions ∧ Sl LVoter h' u4 (twoE).voters)) := by
 refine zP (n := 8) Tryz.func90 X X X<|have st0:=t_s0 hs;W.sr<|zQ st0 zdu X X<|fun b1 w2 st3=>Y<|W.sr<|ze st3 X X X Tryz.call35 X (zdX st3.sub )<|fun r4 w5 h6 le7 st8 q9=> ?_
 obtain ⟨v10, v12, v14, v16, v18, rfl, f11, f13, f15, f17, f19⟩ := q9
 have f11_b := f11.le
 have f13_b := f13.le
 have f15_b := f15.le
 have f17_b := f17.le
 have f19_b := f19.le
 refine zQ st8 zdu X X<|fun b20 w21 st22=>zI st22 (k := 1) X X X (za f11.one (za f13.one (za f15.one (za f17.one (za f19.one zan))))) zad X X X<|fun w23 st24=>Y<|W.sr<|E X zt X zaL X X<|zbi (st24.get (k := 1) X) X X zbj X ?_
 have f25 := Sl.drop f19 (k := 1) (by decide)
 refine zi rfl rfl (r_slice_from_sl f19 rfl rfl (hk := rfl) (by decide) zaa zaT) ?_
 refine E X zt X zaL X X<|zar st24 (k := 1) X X (v := (zfK LVoter.size v18 (1))) X f25.one zaL X X X<|fun w26 st27=>Y<|W.sr<|zbc (st27.get (k := 1) X) X zaE zad X X<|zI st27 (k := 0) X X X (za f11.one (za f13.one (za f15.one (za f17.one (za f25.one zan))))) zad X X X<|fun w28 st29=> ?_
 obtain ⟨h30, le31, hb32, st34⟩ := st29.freeze (k := 0) rfl
 have hc33 := Cells.of hb32
 refine Y<|zw<|zdv Tryz.results90 X zaE zad X st34.sub hc33 ?_
 refine ⟨h30, _, rfl, st34.done, ?_⟩
 refine ⟨_, _, _, _, _, ?_, Sl.to (f11.up le31) ?_, Sl.to (f13.up le31) ?_, Sl.to (f15.up le31) ?_, Sl.to (f17.up le31) ?_, Sl.to (f25.up le31) ?_⟩
 all_goals rfl
theorem zgw {h : Heap} {w : World} (hs : Sub h w) {l_v : Value} {l : (List Int)} (l_f : Sl LInt h l_v l) (n : Int) : Calls Tryz.prog 45 #[l_v, .int .i64 n] w (Rets h w (fun _ _ res_ => res_ = .bool ((decide (n ∈ l))))) := by
 refine zP (n := 17) Tryz.func45 X X X<|have st0:=t_s0 hs;have l_f_b:=l_f.le;W.sr<|zF X X<|Y<|zj<|W.sr<|zR (v := l_v) X X<|zaH l_f X zg X<|zh X X<|Y<|zG ?_
 refine zax ([4, 6] ++ t_rg 9 8) (G := Nat × Heap) (fun ⟨i, h1⟩ => [(9, .int .i64 (i : Int))]) (fun ⟨i, h1⟩ w' => Le h h1 ∧ St h w h1 w' [] ∧ (i ≤ l.length) ∧ (n ∉ l.take i)) (fun ⟨i, h1⟩ => l.length - i) ⟨0, h⟩ ⟨rfl, trivial⟩ ⟨Le.refl _, st0, zaW, (by simp)⟩ ?_
 rintro ⟨i, h1⟩ _ w4 ⟨le2, st3, hi, hn⟩
 refine W.sr<|zaX X X X<|Y<|zj ?_
 refine zC rfl (fun c5 => ?_) (fun c5 => ?_)
 ·
  refine zy<|O<|zj<|zG<|W.sr ?_
  obtain ⟨x, hx⟩ : ∃ y_, (l)[i]? = some y_ := t_ge (by omega)
  obtain ⟨b6, o7, _, he9, hc8, hr_x⟩ := Sl.elem (l_f.up le2) hx
  obtain rfl := hr_x
  refine zU he9 X X (hk := X) (hu := zg) (hz := zl) X<|U (j := 0) st3.sub hc8 X X X zz X<|zq X X<|Y<|W.sr<|zh X X<|zh X X<|zdd X X X<|Y ?_
  refine zC rfl (fun c10 => ?_) (fun c10 => ?_)
  ·
   refine W.sr<|zF X X<|Y<|zw<|zK<|zd<|zd<|zK<|zd<|zb Tryz.results45 ?_
   refine ⟨h1, _, rfl, st3.done, ?_⟩
   refine zx ?_
   exact (decide_eq_true (by rw [← c10]; exact List.mem_of_getElem? hx)).symm
  refine zy<|zO<|O<|zn<|zaM X X t_om X<|zh X X<|Y ?_
  refine ⟨⟨i + 1, h1⟩, ⟨rfl, trivial⟩, ?_, ⟨le2, st3, ?_, ?_⟩, ?_⟩
  ·exact zau
  ·first | omega | (simp; omega)
  ·rw [zbf hx, List.mem_append, List.mem_singleton]; rintro (q | q); exact hn q; exact absurd q.symm c10
  show l.length - ((i + 1)) < l.length - i
  omega
 refine zaI<|zm<|zm<|zam<|O<|W.sr<|zF X X<|Y<|zw<|zb Tryz.results45 ?_
 refine ⟨h1, _, rfl, st3.done, ?_⟩
 refine zx ?_
 rw [List.take_of_length_le (by omega)] at hn; exact (decide_eq_false hn).symm
theorem zdh {h : Heap} {w : World} (hs : Sub h w) {p : Poll} {p_v0 : Value} (p_f0 : Sl LChapter h p_v0 p.text.chapters) {p_v1 : Value} (p_f1 : Sl LRule h p_v1 p.lexicon.rules) {p_v2 : Value} (p_f2 : Sl LDecision h p_v2 p.lexicon.decisions) {p_v3 : Value} (p_f3 : Sl LQuestion h p_v3 p.questions) {p_v4 : Value} (p_f4 : Sl LVoter h p_v4 p.voters) : Calls Tryz.prog 41 #[.agg #[p_v0, p_v1, p_v2, p_v3, p_v4]] w (Rets h w (fun _ _ res_ => res_ = .bool ((zdV p && decide (zbM p = 0))))) := by
 refine zP (n := 11) Tryz.func41 X X X<|have st0:=t_s0 hs;have p_f0_b:=p_f0.le;have p_f1_b:=p_f1.le;have p_f2_b:=p_f2.le;have p_f3_b:=p_f3.le;have p_f4_b:=p_f4.le;W.sr<|zJ st0 (cs := [p_v0, p_v1, p_v2, p_v3, p_v4]) X X X<|fun b1 w2 h3 le4 hc5 st6=>zF X X<|Y<|W.sr<|zr st6.sub hc5 X zaE zad X X<|ze st6 X X X Tryz.call15 X (c_postilref07_Great st6.sub (p := p) (p_f0.up le4) (p_f1.up le4) (p_f2.up le4) (p_f3.up le4) (p_f4.up le4))<|fun r7 w8 h9 le10 st11 q12=> ?_
 obtain rfl := q12
 refine zbl X X<|zS X X ?_
 refine zaw (d := 6) rfl (fun g13 => ?_) (fun g13 => ?_)
 ·
  refine Z X X X<|zr st11.sub (hc5.up le10) X zaE zad X X<|Z X X X<|have l14:=le4.trans le10;ze st11 X X X Tryz.call59 X (c_postilref07_Check st11.sub (p := p) (p_f0.up l14) (p_f1.up l14) (p_f2.up l14) (p_f3.up l14) (p_f4.up l14))<|fun r15 w16 h17 le18 st19 q20=> ?_
  obtain rfl := q20
  refine Z X X X<|zdd X X X<|zT (v := (.bool _)) X X X<|zF X X<|Y<|zw<|zb Tryz.results41 ?_
  refine ⟨h17, _, rfl, st19.done, ?_⟩
  refine zx ?_
  simp_all
 refine M X X X X X<|M X X X X X<|M X X X X X<|zN (v := (.bool _)) X X X<|zF X X<|Y<|zw<|zb Tryz.results41 ?_
 refine ⟨h9, _, rfl, st11.done, ?_⟩
 refine zx ?_
 simp_all
end Go.Pk

namespace Go.Pk
open Go Go.RowKit Go.Proofs
set_option maxHeartbeats 4000000 in
theorem zfJ {h : Heap} {w : World} (hs : Sub h w) (K1 : Cells h 1 0 Tryz.glob1) (K0 : Cells h 0 0 Tryz.glob0) : Calls Tryz.prog 33 #[] w (Rets h w (fun _ _ res_ => res_ = .bool (true))) := by
 refine zP (n := 158) Tryz.func33 X X X<|have st0:=t_s0 hs;W.sr<|zF X X<|Y<|W.sr<|ze st0 X X X Tryz.call90 X (zdD st0.sub )<|fun r1 w2 h3 le4 st5 q6=> ?_
 obtain ⟨v7, v9, v11, v13, v15, rfl, f8, f10, f12, f14, f16⟩ := q6
 have f8_b := f8.le
 have f10_b := f10.le
 have f12_b := f12.le
 have f14_b := f14.le
 have f16_b := f16.le
 refine ze st5 X X X Tryz.call34 X (zeA st5.sub (p := twoE) f8 f10 f12 f14 f16 (K1.up le4) (K0.up le4))<|fun r17 w18 h19 le20 st21 q22=> ?_
 obtain rfl := q22
 refine zbY X X<|zA (v := (.int _ _)) X X X<|zA (v := (.int _ _)) X X X<|zq X X<|zq X X<|Y<|W.sr<|ze st21 X X X Tryz.call35 X (zdX st21.sub )<|fun r23 w24 h25 le26 st27 q28=> ?_
 obtain ⟨v29, v31, v33, v35, v37, rfl, f30, f32, f34, f36, f38⟩ := q28
 have f30_b := f30.le
 have f32_b := f32.le
 have f34_b := f34.le
 have f36_b := f36.le
 have f38_b := f38.le
 have l39 := (le4.trans le20).trans le26
 refine ze st27 X X X Tryz.call39 X (c_vote_Truth st27.sub (p := zdj) f30 f32 f34 f36 f38 (K1.up l39) (K0.up l39))<|fun r40 w41 h42 le43 st44 q45=> ?_
 obtain ⟨v46, rfl, f47⟩ := q45
 have f47_b := f47.le
 refine zbY X X<|zA (v := v46) X X X<|zA (v := (.int _ _)) X X X<|zaf (v := v46) X X<|zq X X<|Y<|W.sr<|ze st44 X X X Tryz.call90 X (zdD st44.sub )<|fun r48 w49 h50 le51 st52 q53=> ?_
 obtain ⟨v54, v56, v58, v60, v62, rfl, f55, f57, f59, f61, f63⟩ := q53
 have f55_b := f55.le
 have f57_b := f57.le
 have f59_b := f59.le
 have f61_b := f61.le
 have f63_b := f63.le
 have l64 := (l39.trans le43).trans le51
 refine ze st52 X X X Tryz.call36 X (c_vote_Open st52.sub (p := twoE) f55 f57 f59 f61 f63 _ (K1.up l64) (K0.up l64))<|fun r65 w66 h67 le68 st69 q70=> ?_
 obtain ⟨v71, rfl, f72⟩ := q70
 have f72_b := f72.le
 refine zbY X X<|zA (v := v71) X X X<|zA (v := (.int _ _)) X X X<|zaf (v := v71) X X<|zq X X<|Y<|W.sr<|ze st69 X X X Tryz.call90 X (zdD st69.sub )<|fun r73 w74 h75 le76 st77 q78=> ?_
 obtain ⟨v79, v81, v83, v85, v87, rfl, f80, f82, f84, f86, f88⟩ := q78
 have f80_b := f80.le
 have f82_b := f82.le
 have f84_b := f84.le
 have f86_b := f86.le
 have f88_b := f88.le
 have l89 := (l64.trans le68).trans le76
 refine ze st77 X X X zhk X (zdx st77.sub (p := twoE) f80 f82 f84 f86 f88 (K1.up l89) (K0.up l89))<|fun r90 w91 h92 le93 st94 q95=> ?_
 obtain ⟨v96, rfl, f97⟩ := q95
 have f97_b := f97.le
 refine zbY X X<|zA (v := v96) X X X<|zA (v := (.int _ _)) X X X<|zaf (v := v96) X X<|zq X X<|Y<|W.sr<|ze st94 X X X Tryz.call35 X (zdX st94.sub )<|fun r98 w99 h100 le101 st102 q103=> ?_
 obtain ⟨v104, v106, v108, v110, v112, rfl, f105, f107, f109, f111, f113⟩ := q103
 have f105_b := f105.le
 have f107_b := f107.le
 have f109_b := f109.le
 have f111_b := f111.le
 have f113_b := f113.le
 have l114 := (l89.trans le93).trans le101
 refine ze st102 X X X Tryz.call17 X (zix st102.sub (p := zdj) f105 f107 f109 f111 f113 _ (K1.up l114) (K0.up l114))<|fun r115 w116 h117 le118 st119 q120=> ?_
 obtain rfl := q120
 refine zbY X X<|zA (v := (.agg (List.toArray _))) X X X<|zA (v := (.int _ _)) X X X<|zQ st119 Tryz.zeroValue36 X X<|fun b121 w122 st123=>zI st123 (k := 0) X X X (za X (za X zan)) zdp X X X<|fun w124 st125=> ?_
 obtain ⟨h126, le127, hb128, st130⟩ := st125.freeze (k := 0) rfl
 have hc129 := Cells.of hb128
 refine zq X X<|Y<|W.sr<|ze st130 X X X Tryz.call35 X (zdX st130.sub )<|fun r131 w132 h133 le134 st135 q136=> ?_
 obtain ⟨v137, v139, v141, v143, v145, rfl, f138, f140, f142, f144, f146⟩ := q136
 have f138_b := f138.le
 have f140_b := f140.le
 have f142_b := f142.le
 have f144_b := f144.le
 have f146_b := f146.le
 have l147 := ((l114.trans le118).trans le127).trans le134
 refine ze st135 X X X Tryz.call19 X (c_vote_Tally st135.sub (p := zdj) f138 f140 f142 f144 f146 _ (K1.up l147) (K0.up l147))<|fun r148 w149 h150 le151 st152 q153=> ?_
 obtain ⟨v154, rfl, f155⟩ := q153
 have f155_b := f155.le
 refine zbY X X<|zA (v := v154) X X X<|zA (v := (.int _ _)) X X X<|zaf (v := v154) X X<|zq X X<|Y<|W.sr<|ze st152 X X X Tryz.call90 X (zdD st152.sub )<|fun r156 w157 h158 le159 st160 q161=> ?_
 obtain ⟨v162, v164, v166, v168, v170, rfl, f163, f165, f167, f169, f171⟩ := q161
 have f163_b := f163.le
 have f165_b := f165.le
 have f167_b := f167.le
 have f169_b := f169.le
 have f171_b := f171.le
 have l172 := (l147.trans le151).trans le159
 refine ze st160 X X X Tryz.call22 X (c_vote_Ask st160.sub (p := twoE) f163 f165 f167 f169 f171 (K1.up l172) (K0.up l172))<|fun r173 w174 h175 le176 st177 q178=> ?_
 obtain ⟨v179, rfl, f180⟩ := q178
 have f180_b := f180.le
 refine zbY X X<|zA (v := v179) X X X<|zA (v := (.int _ _)) X X X<|zaf (v := v179) X X<|zq X X<|Y<|W.sr<|ze st177 X X X Tryz.call90 X (zdD st177.sub )<|fun r181 w182 h183 le184 st185 q186=> ?_
 obtain ⟨v187, v189, v191, v193, v195, rfl, f188, f190, f192, f194, f196⟩ := q186
 have f188_b := f188.le
 have f190_b := f190.le
 have f192_b := f192.le
 have f194_b := f194.le
 have f196_b := f196.le
 have l197 := (l172.trans le176).trans le184
 refine ze st185 X X X Tryz.call24 X (c_vote_Next st185.sub (p := twoE) f188 f190 f192 f194 f196 (K1.up l197) (K0.up l197))<|fun r198 w199 h200 le201 st202 q203=> ?_
 obtain rfl := q203
 refine zbY X X<|zA (v := (.int _ _)) X X X<|zA (v := (.int _ _)) X X X<|zq X X<|zq X X<|Y<|W.sr<|ze st202 X X X Tryz.call35 X (zdX st202.sub )<|fun r204 w205 h206 le207 st208 q209=> ?_
 obtain ⟨v210, v212, v214, v216, v218, rfl, f211, f213, f215, f217, f219⟩ := q209
 have f211_b := f211.le
 have f213_b := f213.le
 have f215_b := f215.le
 have f217_b := f217.le
 have f219_b := f219.le
 have l220 := (l197.trans le201).trans le207
 refine zay rfl rfl (zaV rfl Tryz.call27 rfl) ((ziy st208.sub (p := zdj) f211 f213 f215 f217 f219 (K1.up l220) (K0.up l220)).mono ?_)
 rintro _ w221 ⟨h222, v226, v229, o227, o230, rfl, le223, s225, f228, f231⟩
 refine ⟨_, rfl, ?_⟩
 have st224 := st208.call s225
 refine zbY X X<|zA (v := (.agg (List.toArray _))) X X X<|zA (v := (.int _ _)) X X X<|zQ st224 zdP X X<|fun b232 w233 st234=>zI st234 (k := 3) X X X (za f228.one (za f231.one zan)) zaC X X X<|fun w235 st236=> ?_
 obtain ⟨h237, le238, hb239, st241⟩ := st236.freeze (k := 3) rfl
 have hc240 := Cells.of hb239
 refine zq X X<|Y<|W.sr<|ze st241 X X X Tryz.call90 X (zdD st241.sub )<|fun r242 w243 h244 le245 st246 q247=> ?_
 obtain ⟨v248, v250, v252, v254, v256, rfl, f249, f251, f253, f255, f257⟩ := q247
 have f249_b := f249.le
 have f251_b := f251.le
 have f253_b := f253.le
 have f255_b := f255.le
 have f257_b := f257.le
 have l258 := ((l220.trans le223).trans le238).trans le245
 refine ze st246 X X X Tryz.call29 X (c_vote_Moot st246.sub (p := twoE) f249 f251 f253 f255 f257 (K1.up l258) (K0.up l258))<|fun r259 w260 h261 le262 st263 q264=> ?_
 obtain ⟨v265, rfl, f266⟩ := q264
 have f266_b := f266.le
 refine zbY X X<|zA (v := v265) X X X<|zA (v := (.int _ _)) X X X<|zaf (v := v265) X X<|zq X X<|Y<|W.sr<|zh X X<|zdd X X X<|zS X X ?_
 refine zY (d := 73) rfl (fun g267 => ?_) (fun g267 => ?_)
 ·
  refine Z X X X<|zh X X<|Z X X X<|zdd X X X<|zT (v := (.bool _)) X X X<|zS X X ?_
  refine zY (d := 77) rfl (fun g268 => ?_) (fun g268 => ?_)
  ·
   refine Z X X X<|zh X X<|Z X X X<|zdd X X X<|zT (v := (.bool _)) X X X<|zS X X ?_
   refine zY (d := 81) rfl (fun g269 => ?_) (fun g269 => ?_)
   ·
    refine Z X X X<|zR (v := v46) X X<|Z X X X<|zac (L := LInt) (xs := [0, 1, 0]) (cs := [.int .i64 0, .int .i64 1, .int .i64 0]) st263 (Enc.cons (L := LInt) (vs := [.int .i64 0]) (x := 0) (h := h261) (X) (Enc.cons (L := LInt) (vs := [.int .i64 1]) (x := 1) (h := h261) (X) (Enc.cons (L := LInt) (vs := [.int .i64 0]) (x := 0) (h := h261) (X) Enc.nil))) X X X zg Tryz.info3 X X X t_kr<|fun v270 w271 h274 le275 f272 st273=>Z X X X<|have l276:=(((((((((((((((((le51.trans le68).trans le76).trans le93).trans le101).trans le118).trans le127).trans le134).trans le151).trans le159).trans le176).trans le184).trans le201).trans le207).trans le223).trans le238).trans le245).trans le262).trans le275;ze st273 X X X zhl X (zck st273.sub (f47.up l276) f272)<|fun r277 w278 h279 le280 st281 q282=> ?_
    obtain rfl := q282
    refine zT (v := (.bool _)) X X X<|zS X X ?_
    refine zaw (d := 86) rfl (fun g283 => ?_) (fun g283 => ?_)
    ·
     refine Z X X X<|zh X X<|Z X X X<|zdd X X X<|zT (v := (.bool _)) X X X<|zS X X ?_
     refine zY (d := 90) rfl (fun g284 => ?_) (fun g284 => ?_)
     ·
      refine Z X X X<|zR (v := v71) X X<|Z X X X<|zac (L := LInt) (xs := [0, 1]) (cs := [.int .i64 0, .int .i64 1]) st281 (Enc.cons (L := LInt) (vs := [.int .i64 0]) (x := 0) (h := h279) (X) (Enc.cons (L := LInt) (vs := [.int .i64 1]) (x := 1) (h := h279) (X) Enc.nil)) X X X zg Tryz.info3 X X X t_kr<|fun v285 w286 h289 le290 f287 st288=>Z X X X<|have l291:=(((((((((((((((((le76.trans le93).trans le101).trans le118).trans le127).trans le134).trans le151).trans le159).trans le176).trans le184).trans le201).trans le207).trans le223).trans le238).trans le245).trans le262).trans le275).trans le280).trans le290;ze st288 X X X zhl X (zck st288.sub (f72.up l291) f287)<|fun r292 w293 h294 le295 st296 q297=> ?_
      obtain rfl := q297
      refine zT (v := (.bool _)) X X X<|zS X X ?_
      refine zaw (d := 95) rfl (fun g298 => ?_) (fun g298 => ?_)
      ·
       refine Z X X X<|zh X X<|Z X X X<|zdd X X X<|zT (v := (.bool _)) X X X<|zS X X ?_
       refine zY (d := 99) rfl (fun g299 => ?_) (fun g299 => ?_)
       ·
        refine Z X X X<|zR (v := v96) X X<|Z X X X<|zac (L := LInt) (xs := [0, (-1), (-1)]) (cs := [.int .i64 0, .int .i64 (-1), .int .i64 (-1)]) st296 (Enc.cons (L := LInt) (vs := [.int .i64 0]) (x := 0) (h := h294) (X) (Enc.cons (L := LInt) (vs := [.int .i64 (-1)]) (x := (-1)) (h := h294) (X) (Enc.cons (L := LInt) (vs := [.int .i64 (-1)]) (x := (-1)) (h := h294) (X) Enc.nil))) X X X zg Tryz.info3 X X X t_kr<|fun v300 w301 h304 le305 f302 st303=>Z X X X<|have l306:=(((((((((((((((((le101.trans le118).trans le127).trans le134).trans le151).trans le159).trans le176).trans le184).trans le201).trans le207).trans le223).trans le238).trans le245).trans le262).trans le275).trans le280).trans le290).trans le295).trans le305;ze st303 X X X zhl X (zck st303.sub (f97.up l306) f302)<|fun r307 w308 h309 le310 st311 q312=> ?_
        obtain rfl := q312
        refine zT (v := (.bool _)) X X X<|zS X X ?_
        refine zaw (d := 104) rfl (fun g313 => ?_) (fun g313 => ?_)
        ·
         refine Z X X X<|zh X X<|Z X X X<|zdd X X X<|zT (v := (.bool _)) X X X<|zS X X ?_
         refine zY (d := 108) rfl (fun g314 => ?_) (fun g314 => ?_)
         ·
          refine Z X X X<|have l315:=(((((((((((((((le134.trans le151).trans le159).trans le176).trans le184).trans le201).trans le207).trans le223).trans le238).trans le245).trans le262).trans le275).trans le280).trans le290).trans le295).trans le305).trans le310;zr st311.sub (hc129.up l315) X Tryz.isAgg36 zdp X X<|Z X X X<|zi X X (zbq (cs := [.int .i64 1, .int .i64 1]) t_kr)<|Z X X X<|zi X X (zgU X X Tryz.eqGuardType36 (Tryz.eq_Span (zeT (zdj) (1)) (Span.mk (1) (1))))<|zT (v := (.bool _)) X X X<|zS X X ?_
          refine zY (d := 113) rfl (fun g316 => ?_) (fun g316 => ?_)
          ·
           refine Z X X X<|zh X X<|Z X X X<|zdd X X X<|zT (v := (.bool _)) X X X<|zS X X ?_
           refine zY (d := 117) rfl (fun g317 => ?_) (fun g317 => ?_)
           ·
            refine Z X X X<|zR (v := v154) X X<|Z X X X<|zac (L := LInt) (xs := [2, 0]) (cs := [.int .i64 2, .int .i64 0]) st311 (Enc.cons (L := LInt) (vs := [.int .i64 2]) (x := 2) (h := h309) (X) (Enc.cons (L := LInt) (vs := [.int .i64 0]) (x := 0) (h := h309) (X) Enc.nil)) X X X zg Tryz.info3 X X X t_kr<|fun v318 w319 h322 le323 f320 st321=>Z X X X<|have l324:=((((((((((((((le159.trans le176).trans le184).trans le201).trans le207).trans le223).trans le238).trans le245).trans le262).trans le275).trans le280).trans le290).trans le295).trans le305).trans le310).trans le323;ze st321 X X X zhl X (zck st321.sub (f155.up l324) f320)<|fun r325 w326 h327 le328 st329 q330=> ?_
            obtain rfl := q330
            refine zT (v := (.bool _)) X X X<|zS X X ?_
            refine zaw (d := 122) rfl (fun g331 => ?_) (fun g331 => ?_)
            ·
             refine Z X X X<|zh X X<|Z X X X<|zdd X X X<|zT (v := (.bool _)) X X X<|zS X X ?_
             refine zY (d := 126) rfl (fun g332 => ?_) (fun g332 => ?_)
             ·
              refine Z X X X<|zR (v := v179) X X<|Z X X X<|zac (L := LInt) (xs := [1, 2]) (cs := [.int .i64 1, .int .i64 2]) st329 (Enc.cons (L := LInt) (vs := [.int .i64 1]) (x := 1) (h := h327) (X) (Enc.cons (L := LInt) (vs := [.int .i64 2]) (x := 2) (h := h327) (X) Enc.nil)) X X X zg Tryz.info3 X X X t_kr<|fun v333 w334 h337 le338 f335 st336=>Z X X X<|have l339:=((((((((((((((le184.trans le201).trans le207).trans le223).trans le238).trans le245).trans le262).trans le275).trans le280).trans le290).trans le295).trans le305).trans le310).trans le323).trans le328).trans le338;ze st336 X X X zhl X (zck st336.sub (f180.up l339) f335)<|fun r340 w341 h342 le343 st344 q345=> ?_
              obtain rfl := q345
              refine zT (v := (.bool _)) X X X<|zS X X ?_
              refine zaw (d := 131) rfl (fun g346 => ?_) (fun g346 => ?_)
              ·
               refine Z X X X<|zh X X<|Z X X X<|zdd X X X<|zT (v := (.bool _)) X X X<|zS X X ?_
               refine zY (d := 135) rfl (fun g347 => ?_) (fun g347 => ?_)
               ·
                refine Z X X X<|zh X X<|Z X X X<|zdd X X X<|zT (v := (.bool _)) X X X<|zS X X ?_
                refine zY (d := 139) rfl (fun g348 => ?_) (fun g348 => ?_)
                ·
                 refine Z X X X<|zh X X<|Z X X X<|zdd X X X<|zT (v := (.bool _)) X X X<|zS X X ?_
                 refine zY (d := 143) rfl (fun g349 => ?_) (fun g349 => ?_)
                 ·
                  refine Z X X X<|E X zag X zbN X X<|Z X X X<|have l350:=((((((((((le245.trans le262).trans le275).trans le280).trans le290).trans le295).trans le305).trans le310).trans le323).trans le328).trans le338).trans le343;U (j := 1) st344.sub (hc240.up l350) X X X zcr X<|Z X X X<|have l351:=(((((((((((le238.trans le245).trans le262).trans le275).trans le280).trans le290).trans le295).trans le305).trans le310).trans le323).trans le328).trans le338).trans le343;zfq (f231.up l351) X zaG X<|Z X X X<|zdd X X X<|zT (v := (.bool _)) X X X<|zS X X ?_
                  refine zY (d := 149) rfl (fun g352 => ?_) (fun g352 => ?_)
                  ·
                   refine Z X X X<|zh X X<|Z X X X<|zdd X X X<|zT (v := (.bool _)) X X X<|zS X X ?_
                   refine zY (d := 153) rfl (fun g353 => ?_) (fun g353 => ?_)
                   ·
                    refine Z X X X<|zR (v := v265) X X<|Z X X X ?_
                    refine zac (L := LStr) (xs := [wSea]) (cs := [strV wSea]) st344 (Enc.cons (L := LStr) (vs := [strV wSea]) (x := wSea) (h := h342) (⟨rfl, by first | assumption | decide | omega | (simp [big]; done) | (simp [big]; omega)⟩) Enc.nil) rfl rfl rfl zV Tryz.info9 rfl rfl rfl t_kr ?_
                    intro v354 w355 h358 le359 f356 st357
                    refine Z X X X<|have l360:=(((((((((le275.trans le280).trans le290).trans le295).trans le305).trans le310).trans le323).trans le328).trans le338).trans le343).trans le359;ze st357 X X X Tryz.call32 X (ziO st357.sub (f266.up l360) f356)<|fun r361 w362 h363 le364 st365 q366=> ?_
                    obtain rfl := q366
                    refine zT (v := (.bool _)) X X X<|zF X X<|Y<|zw<|zb Tryz.results33 ?_
                    refine ⟨h363, _, rfl, st365.done, ?_⟩
                    refine zx ?_
                    exact decide_eq_true moot2
                   exfalso
                   have sure_ : (decide ((allE (twoE) true) = 0)) = true := by exact decide_eq_true allE2
                   exact g353 (t_ot sure_)
                  exfalso
                  have sure_ : (decide (((((zcI (zdj))).decisions).length : Int) = 3)) = true := by exact decide_eq_true ex_13
                  exact g352 (t_ot sure_)
                 exfalso
                 have sure_ : (decide (((zeo (zdj))) = 0)) = true := by exact decide_eq_true decideEE.1
                 exact g349 (t_ot sure_)
                exfalso
                have sure_ : (decide (((nextR (twoE))) = 1)) = true := by exact decide_eq_true ex_12
                exact g348 (t_ot sure_)
               exfalso
               have sure_ : (decide ((nextE (twoE)) = 0)) = true := by exact decide_eq_true ex_11
               exact g347 (t_ot sure_)
              exfalso
              have sure_ : ((decide (((ziR (twoE))) = ([1, 2])))) = true := by exact decide_eq_true ex_10
              simp_all
             exfalso
             have sure_ : (decide ((allE (twoE) true) = 0)) = true := by exact decide_eq_true allE2
             exact g332 (t_ot sure_)
            exfalso
            have sure_ : ((decide (((tallyR (zdj) (0))) = ([2, 0])))) = true := by exact decide_eq_true ex_09
            simp_all
           exfalso
           have sure_ : (decide ((zis (zdj) (0)) = 0)) = true := by exact decide_eq_true ex_08
           exact g317 (t_ot sure_)
          exfalso
          have sure_ : (decide ((zeT (zdj) (1)) = (Span.mk (1) (1)))) = true := by exact decide_eq_true ex_07
          exact g316 (t_ot sure_)
         exfalso
         have sure_ : (decide ((allE (zdj) (inB (1) 0 (((zdj).voters.length : Int) - 1))) = 0)) = true := by exact decide_eq_true ex_06
         exact g314 (t_ot sure_)
        exfalso
        have sure_ : ((decide (((zbz (twoE))) = ([0, (-1), (-1)])))) = true := by exact decide_eq_true ex_05
        simp_all
       exfalso
       have sure_ : (decide ((allE (twoE) true) = 0)) = true := by exact decide_eq_true allE2
       exact g299 (t_ot sure_)
      exfalso
      have sure_ : ((decide (((openR (twoE) (1))) = ([0, 1])))) = true := by exact decide_eq_true ex_04
      simp_all
     exfalso
     have sure_ : (decide ((allE (twoE) (inB (1) 0 (((twoE).questions.length : Int) - 1))) = 0)) = true := by exact decide_eq_true ex_03
     exact g284 (t_ot sure_)
    exfalso
    have sure_ : ((decide (((((allL (zdj) true)[0]?).getD [])) = ([0, 1, 0])))) = true := by exact decide_eq_true ex_02
    simp_all
   exfalso
   have sure_ : (decide ((allE (zdj) true) = 0)) = true := by exact decide_eq_true allEE
   exact g269 (t_ot sure_)
  exfalso
  have sure_ : (decide (((if zbM (twoE) = 0 then ((zM (twoE)).length : Int) else 0)) = 3)) = true := by exact decide_eq_true ex_01
  exact g268 (t_ot sure_)
 exfalso
 have sure_ : (decide ((zbM (twoE)) = 0)) = true := by exact decide_eq_true checkP2
 exact g267 (t_ot sure_)
end Go.Pk

namespace Go.Pk
open Go Go.RowKit Go.Proofs
theorem c_postillaw07_choose {h : Heap} {w : World} (hs : Sub h w) {by__v : Value} {by_ : (List Int)} (by__f : Sl LU32 h by__v by_) (i : Int) (hi : 0 ≤ i) : Calls Tryz.prog 42 #[by__v, .int .i64 i] w (Rets h w (fun _ _ res_ => res_ = .int .i64 ((chooseN by_ i.toNat)))) := by
 refine zP (n := 16) Tryz.func42 X X X<|have st0:=t_s0 hs;have by__f_b:=by__f.le;W.sr<|zq X X<|Y<|zj<|W.sr<|zR (v := by__v) X X<|zaH by__f X Tryz.underlying81 X<|zdd X X X<|Y ?_
 refine zC rfl (fun c1 => ?_) (fun c1 => ?_)
 ·
  refine W.sr<|zq X X<|Y<|zw<|zd<|zb Tryz.results42 ?_
  refine ⟨h, _, rfl, st0.done, ?_⟩
  refine zah ?_
  simp_all [chooseN]
 refine zy<|O<|W.sr<|zR (v := by__v) X X<|zh X X<|zR (v := by__v) X X<|zaH by__f X Tryz.underlying81 X<|zi X X (r_rem X X t_om) ?_
 obtain ⟨y2, hy2⟩ : ∃ y_, (by_)[(i.toNat % by_.length)]? = some y_ := t_ge (by exact Nat.mod_lt _ (by omega))
 obtain ⟨b3, o4, _, he6, hc5, hr_y2⟩ := Sl.elem by__f hy2
 obtain ⟨rfl, lu7⟩ := hr_y2
 refine zi rfl rfl (zav he6 rfl rfl (hk := (show _ = (((i.toNat % by_.length) : Nat) : Int) by exact tmod_nat hi)) (hu := Tryz.underlying81) (hz := Tryz.sizeOf164)) ?_
 refine U (j := 0) st0.sub hc5 X X X Tryz.isAgg164 X ?_
 refine zi rfl rfl (zfW rfl rfl zbU (IntWalk.i64_in _ (by omega))) ?_
 refine zq X X<|Y<|zw<|zb Tryz.results42 ?_
 refine ⟨h, _, rfl, st0.done, ?_⟩
 refine zah ?_
 simp_all [chooseN]
end Go.Pk

namespace Go.Pk
open Go Go.RowKit Go.Proofs
theorem zdO {h : Heap} {w : World} (hs : Sub h w) {p : Poll} {p_v0 : Value} (p_f0 : Sl LChapter h p_v0 p.text.chapters) {p_v1 : Value} (p_f1 : Sl LRule h p_v1 p.lexicon.rules) {p_v2 : Value} (p_f2 : Sl LDecision h p_v2 p.lexicon.decisions) {p_v3 : Value} (p_f3 : Sl LQuestion h p_v3 p.questions) {p_v4 : Value} (p_f4 : Sl LVoter h p_v4 p.voters) (hsm : zdV p = true) : Calls Tryz.prog 16 #[.agg #[p_v0, p_v1, p_v2, p_v3, p_v4]] w (fun e_ w' => ∃ h' v0_ v1_ v2_ v3_ v4_ o4_, e_ = .returned (.agg #[v0_, v1_, v2_, v3_, v4_]) ∧ Le h h' ∧ St h w h' w' [o4_] ∧ Sl LChapter h' v0_ ((p).text.chapters) ∧ Sl LRule h' v1_ ((p).lexicon.rules) ∧ Sl LDecision h' v2_ ((p).lexicon.decisions) ∧ Sl LQuestion h' v3_ ((p).questions) ∧ OSl LVoter 79 h' v4_ ((p).voters) o4_) := by
 refine zP (n := 68) Tryz.func16 X X X ?_
 have st0 := t_s0 hs
 have p_f0_b := p_f0.le
 have p_f1_b := p_f1.le
 have p_f2_b := p_f2.le
 have p_f3_b := p_f3.le
 have p_f4_b := p_f4.le
 obtain ⟨hs1, hs2, hs3, hs4⟩ := smallP_len hsm
 refine W.sr<|zJ st0 (cs := [p_v0, p_v1, p_v2, p_v3, p_v4]) X X X<|fun b1 w2 h3 le4 hc5 st6=>zQ st6 zdu X X<|fun b7 w8 st9=>Y<|zj<|zbg (er := ([], [], [], [], 0)) (dsts := [7, 8, 9, 10, 11, 12, 13, 3]) st9 Tryz.mixed<|zc 0 [] X t_kr t_kr X X (fun hD wD τD hL hS hO  => (zB X zt X zaA X))<|zc 1 [0] X t_kr t_kr X X (fun hD wD τD hL hS hO _ _ => (zcD (j := 0) (hL.sub hS) hc5 (us := [p_v0]) X X zbk zaA X X)) ?_
 refine zas 2 (.res (fun h' res_ => ∃ gv2_0, res_ = .agg #[gv2_0] ∧ Sl LChapter h' gv2_0 ((p.text)).chapters) (by rintro _ _ _ hl ⟨gv2_0, e_, gf2_0⟩; exact ⟨gv2_0, e_, gf2_0.up hl⟩)) [0] rfl t_kr t_kr ?_ ?_
 ·
  intro hD wD τD hL hS hO _ _
  have st10 := St.start hS
  refine ze st10 rfl rfl rfl Tryz.call52 rfl (c_postilref01_Twin st10.sub (t := p.text) (p_f0.up (le4.trans hL)) (by exact hs1)) ?_
  intro r11 w12 h13 le14 st15 q16
  obtain ⟨v17, rfl, f18⟩ := q16
  have f18_b := f18.le
  exact zp ⟨_, _, rfl, st15, _, rfl, ⟨_, rfl, f18⟩⟩
 refine zc 3 [] X t_kr t_kr X X (fun hD wD τD hL hS hO  => (zB X zt X zaC X))<|zc 4 [0] X t_kr t_kr X X (fun hD wD τD hL hS hO _ _ => (zcD (j := 1) (hL.sub hS) hc5 (us := [p_v1, p_v2]) X X zbL zaC X X)) ?_
 refine zas 5 (.res (fun h' res_ => ∃ gv5_0 gv5_1, res_ = .agg #[gv5_0, gv5_1] ∧ Sl LRule h' gv5_0 ((p.lexicon)).rules ∧ Sl LDecision h' gv5_1 ((p.lexicon)).decisions) (by rintro _ _ _ hl ⟨gv5_0, gv5_1, e_, gf5_0, gf5_1⟩; exact ⟨gv5_0, gv5_1, e_, gf5_0.up hl, gf5_1.up hl⟩)) [0, 2] rfl t_kr t_kr ?_ ?_
 ·
  intro hD wD τD hL hS hO _ _ gv2_ gf2_
  obtain ⟨gv2_0, rfl, gf2_0⟩ := gf2_
  have st19 := St.start hS
  refine ze st19 rfl rfl rfl Tryz.call53 rfl (c_postilref04_Twin st19.sub (x := p.lexicon) (p_f1.up (le4.trans hL)) (p_f2.up (le4.trans hL)) (by exact hs2)) ?_
  intro r20 w21 h22 le23 st24 q25
  obtain ⟨v26, v28, rfl, f27, f29⟩ := q25
  have f27_b := f27.le
  have f29_b := f29.le
  exact zp ⟨_, _, rfl, st24, _, rfl, ⟨_, _, rfl, f27, f29⟩⟩
 refine zas 6 (.res (fun h' res_ => ∃ gv6_0 gv6_1 gv6_2, res_ = .agg #[gv6_0, gv6_1, gv6_2, (.slice none 0 0), (.slice none 0 0)] ∧ Sl LChapter h' gv6_0 ((Poll.mk (Text.mk (((p.text)).chapters)) (Lexicon.mk (((p.lexicon)).rules) (((p.lexicon)).decisions)) [] [])).text.chapters ∧ Sl LRule h' gv6_1 ((Poll.mk (Text.mk (((p.text)).chapters)) (Lexicon.mk (((p.lexicon)).rules) (((p.lexicon)).decisions)) [] [])).lexicon.rules ∧ Sl LDecision h' gv6_2 ((Poll.mk (Text.mk (((p.text)).chapters)) (Lexicon.mk (((p.lexicon)).rules) (((p.lexicon)).decisions)) [] [])).lexicon.decisions) (by rintro _ _ _ hl ⟨gv6_0, gv6_1, gv6_2, e_, gf6_0, gf6_1, gf6_2⟩; exact ⟨gv6_0, gv6_1, gv6_2, e_, gf6_0.up hl, gf6_1.up hl, gf6_2.up hl⟩)) [3, 0] rfl t_kr t_kr ?_ ?_
 ·
  intro hD wD τD hL hS hO gv2_ gf2_ gv5_ gf5_
  obtain ⟨gv2_0, rfl, gf2_0⟩ := gf2_
  obtain ⟨gv5_0, gv5_1, rfl, gf5_0, gf5_1⟩ := gf5_
  have st30 := St.start hS
  refine zi rfl rfl (zbq (cs := [gv2_0, gv5_0, gv5_1, (.slice none 0 0), (.slice none 0 0)]) (by obtain ⟨_, _, rfl⟩ := Sl.form gf2_0; obtain ⟨_, _, rfl⟩ := Sl.form gf5_0; obtain ⟨_, _, rfl⟩ := Sl.form gf5_1; kernel_rfl)) ?_
  exact zp ⟨_, _, rfl, st30, _, rfl, ⟨_, _, _, rfl, gf2_0, gf5_0, gf5_1⟩⟩
 refine ziB zdu X<|zbO<|zbP X X X X X X ⟨t_kr, X, t_kr, X, t_kr, X, X, t_kr, (zbp X zcu)⟩<|fun b31=>fun hE33 w34 _ le35 st36 _ _ _ _ gv2_x32 gf2_x32 _ _ _ _ gv5_x32 gf5_x32 gv6_x32 gf6_x32=> ?_
 obtain ⟨gv2_0x32, rfl, gf2_0x32⟩ := gf2_x32
 obtain ⟨gv5_0x32, gv5_1x32, rfl, gf5_0x32, gf5_1x32⟩ := gf5_x32
 obtain ⟨gv6_0x32, gv6_1x32, gv6_2x32, rfl, gf6_0x32, gf6_1x32, gf6_2x32⟩ := gf6_x32
 refine zI st36 (k := 1) X X X (za gf6_0x32.one (za gf6_1x32.one (za gf6_2x32.one (za X (za X zan))))) zad X X X<|fun w37 st38=> ?_
 refine zp ⟨undef, rfl, _, _, Le.refl _, st38, ?_⟩
 intro hE39 w40 _ le41 st42 _ _ _ _ gv2_x43 gf2_x43 _ _ _ _ gv5_x43 gf5_x43 gv6_x43 gf6_x43
 obtain ⟨gv2_0x43, rfl, gf2_0x43⟩ := gf2_x43
 obtain ⟨gv5_0x43, gv5_1x43, rfl, gf5_0x43, gf5_1x43⟩ := gf5_x43
 obtain ⟨gv6_0x43, gv6_1x43, gv6_2x43, rfl, gf6_0x43, gf6_1x43, gf6_2x43⟩ := gf6_x43
 refine AllDeps.fin X<|O<|zj<|W.sr<|zq X X<|Y<|zG ?_
 have st47 := st42.snoc
 have f48 := OSl.nil LQuestion 84 hE39
 refine zax ([4] ++ t_rg 14 27) (G := Nat × Value × List (Nat × Obj) × Heap) (fun ⟨i, v_c1_3, o_c1_3, h44⟩ => [(4, .int .i64 (i : Int))]) (fun ⟨i, v_c1_3, o_c1_3, h44⟩ w' => Le hE39 h44 ∧ St h w h44 w' [[(b7, .cells (List.toArray [(.slice none 0 0), (.slice none 0 0), (.slice none 0 0), (.slice none 0 0), (.slice none 0 0)]) 32)], [(b31, .cells (List.toArray [gv6_0x32, gv6_1x32, gv6_2x32, v_c1_3, (.slice none 0 0)]) 32)], o_c1_3] ∧ (OSl LQuestion 84 h44 v_c1_3 (p.questions.take i) o_c1_3) ∧ (i ≤ p.questions.length)) (fun ⟨i, v_c1_3, o_c1_3, h44⟩ => p.questions.length - i) ⟨0, (.slice none 0 0), [], hE39⟩ ⟨rfl, trivial⟩ ⟨Le.refl _, st47, (OSl.to f48 (by simp)), zaW⟩ ?_
 rintro ⟨i, v_c1_3, o_c1_3, h44⟩ _ w49 ⟨le45, st46, hO_c1_3, hi⟩
 refine zj<|W.sr<|zh X X<|E X zt X zbe X X<|U (j := 3) st46.sub (hc5.up ((le35.trans le41).trans le45)) X X X zby X<|have l50:=((le4.trans le35).trans le41).trans le45;zaH (p_f3.up l50) X zaq X<|zaX X X X<|Y ?_
 refine zC rfl (fun c51 => ?_) (fun c51 => ?_)
 ·
  refine zy<|O<|zj<|zG ?_
  obtain ⟨q, hq⟩ : ∃ y_, (p.questions)[i]? = some y_ := t_ge (by omega)
  obtain ⟨b52, o53, _, he55, hc54, hr_q⟩ := Sl.elem (p_f3.up l50) hq
  obtain ⟨v56, rfl, f57⟩ := hr_q
  have f57_b := f57.le
  have hqh := smallP_q hsm hq
  refine zbg (er := ([1], [], [], [], 0)) (dsts := [21, 22, 23, 24, 25, 26, 27, 28, 29, 30, 31, 32, 33, 34, 35, 36, 37, 38, 39, 40]) st46 Tryz.mixed<|zc 0 [] X t_kr t_kr X X (fun hD wD τD hL hS hO  => (zB X zt X zbe X))<|zc 1 [0] X t_kr t_kr X X (fun hD wD τD hL hS hO _ _ => (ziG ((hO X).get (k := 1) X) X X zby))<|zc 2 [] X t_kr t_kr X X (fun hD wD τD hL hS hO  => (zB X zt X zbe X))<|zc 3 [0] X t_kr t_kr X X (fun hD wD τD hL hS hO _ _ => (zf (j := 3) (hL.sub hS) (hc5.up ((le35.trans le41).trans le45)) X X X zby))<|zc 4 [] X t_kr t_kr X X (fun hD wD τD hL hS hO  => (zel X))<|zc 5 [1, 0] X t_kr t_kr X X (fun hD wD τD hL hS hO _ _ _ _ => (zav he55 X X (hk := X) (hu := zaq) (hz := zbR)))<|zc 6 [0] X t_kr t_kr X X (fun hD wD τD hL hS hO _ _ => (zB X zaF X zW X))<|zc 7 [0] X t_kr t_kr X X (fun hD wD τD hL hS hO _ _ => (zcD (j := 0) (hL.sub hS) hc54 (us := [.int .i64 (q.at_.chapter), .int .i64 (q.at_.line), .int .i64 (q.at_.word)]) X X zaQ zW X X)) ?_
  refine zas 8 (.res (fun _ res_ => ∃ p, res_ = .slice p 0 0) (fun _ _ _ _ f => f)) [] rfl t_kr t_kr ?_ ?_
  ·
   intro hD wD τD hL hS hO 
   have st58 := St.start hS
   refine OpsL.sliceZ st58 X ⟨_, zai⟩ zaZ<|fun v59 w60 f61 st62=> ?_
   exact zp ⟨_, _, rfl, st62, _, rfl, f61⟩
  refine zc 9 [] X t_kr t_kr X X (fun hD wD τD hL hS hO  => (zB X zt X zbe X))<|zc 10 [0] X t_kr t_kr X X (fun hD wD τD hL hS hO _ _ => (zf (j := 3) (hL.sub hS) (hc5.up ((le35.trans le41).trans le45)) X X X zby))<|zc 11 [] X t_kr t_kr X X (fun hD wD τD hL hS hO  => (zel X))<|zc 12 [1, 0] X t_kr t_kr X X (fun hD wD τD hL hS hO _ _ _ _ => (zav he55 X X (hk := X) (hu := zaq) (hz := zbR)))<|zc 13 [0] X t_kr t_kr X X (fun hD wD τD hL hS hO _ _ => (zB X zaF X zch X))<|zc 14 [0] X t_kr t_kr X X (fun hD wD τD hL hS hO _ _ => (zf (j := 3) (hL.sub hS) hc54 X X X zcy)) ?_
  refine zas 15 (.res (fun h' res_ => Sl LHead h' res_ q.heads) (fun _ _ _ hl f => f.up hl)) [6, 0] rfl t_kr t_kr ?_ ?_
  ·
   intro hD wD τD hL hS hO gv8_ gf8_ _ _
   have st63 := St.start hS
   have st64 := st63.snoc
   have f65 := OSl.nil LHead 72 hD
   have f66 := OSl.nil0 LHead 72 hD gf8_
   refine zbB (k := 0) (nb := 24) st64 f66 rfl (f57.up hL) rfl rfl rfl zaZ Tryz.info72 rfl rfl rfl (by decide) rfl (by simp only [List.length_take, List.length_append, List.length_cons, List.length_nil, List.nil_append]; omega) (by simp only [List.length_take, List.length_append, List.length_cons, List.length_nil, List.nil_append]; omega) ?_
   intro v67 o68 w69 _ e70 f71 st72
   subst e70
   obtain ⟨h73, le74, f75, st76⟩ := OSl.freeze (k := 0) st72 f71 rfl (by simp only [List.length_take, List.length_append, List.length_cons, List.length_nil, List.nil_append]; omega)
   exact zp ⟨_, _, rfl, st76.done, _, rfl, f75⟩
  refine zas 16 (.res (fun h' res_ => ∃ gv16_0, res_ = .agg #[.int .i64 ((Question.mk (q.at_) (q.heads))).at_.chapter, .int .i64 ((Question.mk (q.at_) (q.heads))).at_.line, .int .i64 ((Question.mk (q.at_) (q.heads))).at_.word, gv16_0] ∧ Sl LHead h' gv16_0 ((Question.mk (q.at_) (q.heads))).heads) (by rintro _ _ _ hl ⟨gv16_0, e_, gf16_0⟩; exact ⟨gv16_0, e_, gf16_0.up hl⟩)) [8, 0] rfl t_kr t_kr ?_ ?_
  ·
   intro hD wD τD hL hS hO _ _ gv15_0 gf15_0
   have st77 := St.start hS
   refine zi rfl rfl (zbq (cs := [.int .i64 (q.at_.chapter), .int .i64 (q.at_.line), .int .i64 (q.at_.word), gv15_0]) (by obtain ⟨_, _, rfl⟩ := Sl.form gf15_0; kernel_rfl)) ?_
   exact zp ⟨_, _, rfl, st77, _, rfl, ⟨_, rfl, gf15_0⟩⟩
  refine zas 17 (.res (fun h' res_ => Sl LQuestion h' res_ ([(Question.mk (q.at_) (q.heads))])) (fun _ _ _ hl f => f.up hl)) [0] rfl t_kr t_kr ?_ ?_
  ·
   intro hD wD τD hL hS hO gv16_ gf16_
   obtain ⟨gv16_0, rfl, gf16_0⟩ := gf16_
   have st78 := St.start hS
   refine zac (L := LQuestion) (xs := [(Question.mk (q.at_) (q.heads))]) (cs := [.int .i64 ((Question.mk (q.at_) (q.heads))).at_.chapter, .int .i64 ((Question.mk (q.at_) (q.heads))).at_.line, .int .i64 ((Question.mk (q.at_) (q.heads))).at_.word, gv16_0]) st78 (Enc.cons (L := LQuestion) (vs := [.int .i64 ((Question.mk (q.at_) (q.heads))).at_.chapter, .int .i64 ((Question.mk (q.at_) (q.heads))).at_.line, .int .i64 ((Question.mk (q.at_) (q.heads))).at_.word, gv16_0]) (x := (Question.mk (q.at_) (q.heads))) (h := hD) (⟨_, X, gf16_0⟩) Enc.nil) X X X zaq Tryz.info84 X X X t_kr<|fun v79 w80 h83 le84 f81 st82=> ?_
   exact zp ⟨_, _, rfl, st82, _, rfl, f81⟩
  refine zbO<|zc 19 [18, 17, 16, 15, 14, 13, 12, 11, 10, 9, 8, 7, 6, 5, 4, 3, 2, 1, 0] X t_kr t_kr X X (fun hD wD τD hL hS hO _ _ _ _ _ _ _ _ _ _ _ _ _ _ _ _ gv8_ gf8_ _ _ _ _ _ _ _ _ _ _ _ _ gv15_0 gf15_0 gv16_ gf16_ gv17_0 gf17_0 => (zB X zt X zbe X))<|zbO<|zbP X X X X X X ⟨t_kr, X, t_kr, X, t_kr, X, X, t_kr, (zbp X (zbp X zcu))⟩<|fun hE86 w87 _ le88 st89 _ _ gv17_0x85 gf17_0x85 gv15_0x85 gf15_0x85=> ?_
  refine zbB (k := 2) (nb := 48) st89 (hO_c1_3.up le88) rfl gf17_0x85 rfl rfl rfl zaq Tryz.info84 rfl rfl rfl (by decide) rfl (by simp only [List.length_take, List.length_append, List.length_cons, List.length_nil, List.nil_append]; omega) (by simp only [List.length_take, List.length_append, List.length_cons, List.length_nil, List.nil_append]; omega) ?_
  intro v90 o91 w92 _ e93 f94 st95
  subst e93
  refine zp ⟨_, rfl, _, _, Le.refl _, st95, ?_⟩
  intro hE97 w98 _ le99 st100 _ _ _ _ _ _ _ _ _ _ _ _ _ _ _ _ _ _ gv8_x96 gf8_x96 _ _ _ _ _ _ _ _ _ _ _ _ gv15_0x96 gf15_0x96 gv16_x96 gf16_x96 gv17_0x96 gf17_0x96
  obtain ⟨gv16_0x96, rfl, gf16_0x96⟩ := gf16_x96
  refine zar st100 (k := 1) X X (v := v90) X f94.one zbe X X X<|fun w101 st102=> ?_
  refine zp ⟨undef, rfl, _, _, Le.refl _, st102, ?_⟩
  intro hE103 w104 _ le105 st106 _ _ _ _ _ _ _ _ _ _ _ _ _ _ _ _ gv8_x107 gf8_x107 _ _ _ _ _ _ _ _ _ _ _ _ gv15_0x107 gf15_0x107 gv16_x107 gf16_x107 gv17_0x107 gf17_0x107 _ _
  obtain ⟨gv16_0x107, rfl, gf16_0x107⟩ := gf16_x107
  refine AllDeps.fin X<|zO<|O<|zn<|zh X X<|zaM X X t_om X<|zq X X<|Y ?_
  have l108 := ((le45.trans le88).trans le99).trans le105
  refine ⟨⟨i + 1, v90, o91, hE103⟩, ⟨rfl, trivial⟩, ?_, ⟨l108, st106, ?_, ?_⟩, ?_⟩
  ·exact zau
  ·refine OSl.to (f94.up (le99.trans le105)) ?_
   rw [zbf hq]
  ·first | omega | (simp; omega)
  show p.questions.length - ((i + 1)) < p.questions.length - i
  omega
 refine zaI<|zm<|zm<|zam<|O<|zj<|W.sr<|zq X X<|Y<|zG ?_
 have st112 := st46.snoc
 have f113 := OSl.nil LVoter 79 h44
 refine zax ([5, 6] ++ t_rg 41 26) (G := Nat × Value × List (Nat × Obj) × Heap) (fun ⟨k, v_c1_4, o_c1_4, h109⟩ => [(5, .int .i64 (k : Int))]) (fun ⟨k, v_c1_4, o_c1_4, h109⟩ w' => Le h44 h109 ∧ St h w h109 w' [[(b7, .cells (List.toArray [(.slice none 0 0), (.slice none 0 0), (.slice none 0 0), (.slice none 0 0), (.slice none 0 0)]) 32)], [(b31, .cells (List.toArray [gv6_0x32, gv6_1x32, gv6_2x32, v_c1_3, v_c1_4]) 32)], o_c1_3, o_c1_4] ∧ (OSl LVoter 79 h109 v_c1_4 (p.voters.take k) o_c1_4) ∧ (k ≤ p.voters.length)) (fun ⟨k, v_c1_4, o_c1_4, h109⟩ => p.voters.length - k) ⟨0, (.slice none 0 0), [], h44⟩ ⟨rfl, trivial⟩ ⟨Le.refl _, st112, (OSl.to f113 (by simp)), zaW⟩ ?_
 rintro ⟨k, v_c1_4, o_c1_4, h109⟩ _ w114 ⟨le110, st111, hO_c1_4, hk⟩
 refine zj<|W.sr<|zh X X<|E X zt X zaL X X<|have l115:=((le35.trans le41).trans le45).trans le110;U (j := 4) st111.sub (hc5.up l115) X X X zbj X<|have l116:=l50.trans le110;zaH (p_f4.up l116) X zaa X<|zaX X X X<|Y ?_
 refine zC rfl (fun c117 => ?_) (fun c117 => ?_)
 ·
  refine zy<|O<|zj<|zG<|W.sr<|E X zt X zaL X X<|U (j := 4) st111.sub (hc5.up l115) X X X zbj X<|zh X X ?_
  obtain ⟨v, hv⟩ : ∃ y_, (p.voters)[k]? = some y_ := t_ge (by omega)
  obtain ⟨b118, o119, _, he121, hc120, hr_v⟩ := Sl.elem (p_f4.up l116) hv
  obtain ⟨v122, rfl, f123⟩ := hr_v
  have f123_b := f123.le
  refine zU he121 X X (hk := X) (hu := zaa) (hz := zaT) X<|have hvh:=smallP_v hsm hv;zr st111.sub hc120 X zdU zaT X X<|zQ st111 zdt X X<|fun b124 w125 st126=>zI st126 (k := 4) X X X (za X (za X (za f123.one zan))) zaT X X X<|fun w127 st128=> ?_
  obtain ⟨h129, le130, hb131, st133⟩ := st128.freeze (k := 4) rfl
  have hc132 := Cells.of hb131
  refine Y<|zbg (er := ([1], [], [], [], 0)) (dsts := [53, 54, 55, 56, 57, 58, 59, 60, 61, 62, 63, 64, 65, 66]) st133 Tryz.mixed<|zc 0 [] X t_kr t_kr X X (fun hD wD τD hL hS hO  => (zB X zt X zaL X))<|zc 1 [0] X t_kr t_kr X X (fun hD wD τD hL hS hO _ _ => (ziG ((hO X).get (k := 1) X) X X zbj))<|zc 2 [] X t_kr t_kr X X (fun hD wD τD hL hS hO  => (zB X zaz X zl X))<|zc 3 [0] X t_kr t_kr X X (fun hD wD τD hL hS hO _ _ => (zf (j := 0) (hL.sub hS) hc132 X X X zz))<|zc 4 [] X t_kr t_kr X X (fun hD wD τD hL hS hO  => (zB X zaz X zl X))<|zc 5 [0] X t_kr t_kr X X (fun hD wD τD hL hS hO _ _ => (zf (j := 1) (hL.sub hS) hc132 X X X zz)) ?_
  refine zas 6 (.res (fun _ res_ => ∃ p, res_ = .slice p 0 0) (fun _ _ _ _ f => f)) [] rfl t_kr t_kr ?_ ?_
  ·
   intro hD wD τD hL hS hO 
   have st134 := St.start hS
   refine OpsL.sliceZ st134 X ⟨_, zl⟩ zg<|fun v135 w136 f137 st138=> ?_
   exact zp ⟨_, _, rfl, st138, _, rfl, f137⟩
  refine zc 7 [] X t_kr t_kr X X (fun hD wD τD hL hS hO  => (zB X zaz X zbs X))<|zc 8 [0] X t_kr t_kr X X (fun hD wD τD hL hS hO _ _ => (zf (j := 2) (hL.sub hS) hc132 X X X zce)) ?_
  refine zas 9 (.res (fun h' res_ => Sl LInt h' res_ v.votes) (fun _ _ _ hl f => f.up hl)) [2, 0] rfl t_kr t_kr ?_ ?_
  ·
   intro hD wD τD hL hS hO gv6_ gf6_ _ _
   have st139 := St.start hS
   have st140 := st139.snoc
   have f141 := OSl.nil LInt 3 hD
   have f142 := OSl.nil0 LInt 3 hD gf6_
   refine zbB (k := 0) (nb := 8) st140 f142 rfl (f123.up (le130.trans hL)) rfl rfl rfl zg Tryz.info3 rfl rfl rfl (by decide) rfl (by simp only [List.length_take, List.length_append, List.length_cons, List.length_nil, List.nil_append]; omega) (by simp only [List.length_take, List.length_append, List.length_cons, List.length_nil, List.nil_append]; omega) ?_
   intro v143 o144 w145 _ e146 f147 st148
   subst e146
   obtain ⟨h149, le150, f151, st152⟩ := OSl.freeze (k := 0) st148 f147 rfl (by simp only [List.length_take, List.length_append, List.length_cons, List.length_nil, List.nil_append]; omega)
   exact zp ⟨_, _, rfl, st152.done, _, rfl, f151⟩
  refine zas 10 (.res (fun h' res_ => ∃ gv10_0, res_ = .agg #[.int .i64 ((Voter.mk ((v.id)) ((v.wrong)) (v.votes))).id, .int .i64 ((Voter.mk ((v.id)) ((v.wrong)) (v.votes))).wrong, gv10_0] ∧ Sl LInt h' gv10_0 ((Voter.mk ((v.id)) ((v.wrong)) (v.votes))).votes) (by rintro _ _ _ hl ⟨gv10_0, e_, gf10_0⟩; exact ⟨gv10_0, e_, gf10_0.up hl⟩)) [6, 4, 0] rfl t_kr t_kr ?_ ?_
  ·
   intro hD wD τD hL hS hO _ _ _ _ gv9_0 gf9_0
   have st153 := St.start hS
   refine zi rfl rfl (zbq (cs := [.int .i64 (v.id), .int .i64 (v.wrong), gv9_0]) (by obtain ⟨_, _, rfl⟩ := Sl.form gf9_0; kernel_rfl)) ?_
   exact zp ⟨_, _, rfl, st153, _, rfl, ⟨_, rfl, gf9_0⟩⟩
  refine zas 11 (.res (fun h' res_ => Sl LVoter h' res_ ([(Voter.mk ((v.id)) ((v.wrong)) (v.votes))])) (fun _ _ _ hl f => f.up hl)) [0] rfl t_kr t_kr ?_ ?_
  ·
   intro hD wD τD hL hS hO gv10_ gf10_
   obtain ⟨gv10_0, rfl, gf10_0⟩ := gf10_
   have st154 := St.start hS
   refine zac (L := LVoter) (xs := [(Voter.mk ((v.id)) ((v.wrong)) (v.votes))]) (cs := [.int .i64 ((Voter.mk ((v.id)) ((v.wrong)) (v.votes))).id, .int .i64 ((Voter.mk ((v.id)) ((v.wrong)) (v.votes))).wrong, gv10_0]) st154 (Enc.cons (L := LVoter) (vs := [.int .i64 ((Voter.mk ((v.id)) ((v.wrong)) (v.votes))).id, .int .i64 ((Voter.mk ((v.id)) ((v.wrong)) (v.votes))).wrong, gv10_0]) (x := (Voter.mk ((v.id)) ((v.wrong)) (v.votes))) (h := hD) (⟨_, X, gf10_0⟩) Enc.nil) X X X zaa Tryz.info79 X X X t_kr<|fun v155 w156 h159 le160 f157 st158=> ?_
   exact zp ⟨_, _, rfl, st158, _, rfl, f157⟩
  refine zbO<|zc 13 [12, 11, 10, 9, 8, 7, 6, 5, 4, 3, 2, 1, 0] X t_kr t_kr X X (fun hD wD τD hL hS hO _ _ _ _ _ _ _ _ _ _ _ _ gv6_ gf6_ _ _ _ _ gv9_0 gf9_0 gv10_ gf10_ gv11_0 gf11_0 => (zB X zt X zaL X))<|zbO<|zbP X X X X X X ⟨t_kr, X, t_kr, X, t_kr, X, X, t_kr, (zbp X (zbp X zcu))⟩<|fun hE162 w163 _ le164 st165 _ _ gv11_0x161 gf11_0x161 gv9_0x161 gf9_0x161=> ?_
  refine zbB (k := 3) (nb := 40) st165 (hO_c1_4.up (le130.trans le164)) rfl gf11_0x161 rfl rfl rfl zaa Tryz.info79 rfl rfl rfl (by decide) rfl (by simp only [List.length_take, List.length_append, List.length_cons, List.length_nil, List.nil_append]; omega) (by simp only [List.length_take, List.length_append, List.length_cons, List.length_nil, List.nil_append]; omega) ?_
  intro v166 o167 w168 _ e169 f170 st171
  subst e169
  refine zp ⟨_, rfl, _, _, Le.refl _, st171, ?_⟩
  intro hE173 w174 _ le175 st176 _ _ _ _ _ _ _ _ _ _ _ _ _ _ gv6_x172 gf6_x172 _ _ _ _ gv9_0x172 gf9_0x172 gv10_x172 gf10_x172 gv11_0x172 gf11_0x172
  obtain ⟨gv10_0x172, rfl, gf10_0x172⟩ := gf10_x172
  refine zar st176 (k := 1) X X (v := v166) X f170.one zaL X X X<|fun w177 st178=> ?_
  refine zp ⟨undef, rfl, _, _, Le.refl _, st178, ?_⟩
  intro hE179 w180 _ le181 st182 _ _ _ _ _ _ _ _ _ _ _ _ gv6_x183 gf6_x183 _ _ _ _ gv9_0x183 gf9_0x183 gv10_x183 gf10_x183 gv11_0x183 gf11_0x183 _ _
  obtain ⟨gv10_0x183, rfl, gf10_0x183⟩ := gf10_x183
  refine AllDeps.fin X<|zO<|O<|zn<|zh X X<|zaM X X t_om X<|zq X X<|Y ?_
  have l184 := (((le110.trans le130).trans le164).trans le175).trans le181
  refine ⟨⟨k + 1, v166, o167, hE179⟩, ⟨rfl, trivial⟩, ?_, ⟨l184, st182.take 4, ?_, ?_⟩, ?_⟩
  ·exact zau
  ·refine OSl.to (f170.up (le175.trans le181)) ?_
   rw [zbf hv]
  ·first | omega | (simp; omega)
  show p.voters.length - ((k + 1)) < p.voters.length - k
  omega
 refine zaI<|zm<|zm<|zam<|O<|W.sr<|zbc (st111.get (k := 1) X) X zaE zad X X<|zI st111 (k := 0) X X X (za gf6_0x32.one (za gf6_1x32.one (za gf6_2x32.one (za hO_c1_3.one (za hO_c1_4.one zan))))) zad X X X<|fun w185 st186=> ?_
 obtain ⟨h187, le188, hb189, st191⟩ := st186.freeze (k := 0) rfl
 have hc190 := Cells.of hb189
 refine Y<|zw<|zdv Tryz.results16 X zaE zad X st191.sub hc190 ?_
 obtain ⟨h192, le193, f194, st195⟩ := OSl.freeze (k := 2) st191 (hO_c1_3.up (le110.trans le188)) rfl (by simp only [List.length_take, List.length_append, List.length_cons, List.length_nil, List.nil_append]; omega)
 refine ⟨h192, gv6_0x32, gv6_1x32, gv6_2x32, v_c1_3, v_c1_4, _, congrArg Ending.returned (rfl), ((l116.trans le188).trans le193), st195.sublist (own' := [o_c1_4]) (.cons _ (.cons _ (.cons _ (.cons_cons _ (.slnil))))), Sl.to (gf6_0x32.up ((((le41.trans le45).trans le110).trans le188).trans le193)) ?_, Sl.to (gf6_1x32.up ((((le41.trans le45).trans le110).trans le188).trans le193)) ?_, Sl.to (gf6_2x32.up ((((le41.trans le45).trans le110).trans le188).trans le193)) ?_, Sl.to f194 ?_, OSl.to (hO_c1_4.up (le188.trans le193)) ?_⟩
 all_goals first | rfl | (rw [List.take_of_length_le (by omega)])
end Go.Pk

namespace Go.Pk
open Go Go.RowKit Go.Proofs
theorem ziA {h : Heap} {w : World} (hs : Sub h w) {p : Poll} {p_v0 : Value} (p_f0 : Sl LChapter h p_v0 p.text.chapters) {p_v1 : Value} (p_f1 : Sl LRule h p_v1 p.lexicon.rules) {p_v2 : Value} (p_f2 : Sl LDecision h p_v2 p.lexicon.decisions) {p_v3 : Value} (p_f3 : Sl LQuestion h p_v3 p.questions) {p_v4 : Value} (p_f4 : Sl LVoter h p_v4 p.voters) {hs__v : Value} {hs_ : (List Int)} (hs__f : Sl LInt h hs__v hs_) {qs_v : Value} {qs : (List Int)} (qs_f : Sl LInt h qs_v qs) (hp : zcJ p = true) (hb : ∀ k ∈ qs, k < (hs_.length : Int)) : Calls Tryz.prog 47 #[.agg #[p_v0, p_v1, p_v2, p_v3, p_v4], hs__v, qs_v] w (fun e_ w' => ∃ h' v0_ o0_, e_ = .returned (.agg #[.int .i64 ((zbt p hs_ qs)).id, .int .i64 ((zbt p hs_ qs)).wrong, v0_]) ∧ Le h h' ∧ St h w h' w' [o0_] ∧ OSl LInt 3 h' v0_ (((zbt p hs_ qs)).votes) o0_) := by
 refine zP (n := 52) Tryz.func47 X X X<|have st0:=t_s0 hs;have p_f0_b:=p_f0.le;have p_f1_b:=p_f1.le;have p_f2_b:=p_f2.le;have p_f3_b:=p_f3.le;have p_f4_b:=p_f4.le;have hs__f_b:=hs__f.le;have qs_f_b:=qs_f.le;have hpl:=zcO hp;W.sr<|zJ st0 (cs := [p_v0, p_v1, p_v2, p_v3, p_v4]) X X X<|fun b1 w2 h3 le4 hc5 st6=>zQ st6 zdt X X<|fun b7 w8 st9=>Y<|W.sr<|zi X X (zbq (cs := [.int .i64 0, .int .i64 0, (.slice none 0 0)]) t_kr)<|zQ st9 zdt X X<|fun b10 w11 st12=>zI st12 (k := 1) X X X (za X (za X (za X zan))) zaT X X X<|fun w13 st14=>Y<|zj<|W.sr ?_
 refine E X zt X zaL X X<|U (j := 4) st14.sub hc5 X X X zbj X<|zaH (p_f4.up le4) X zaa X<|zh X X<|Y<|zG ?_
 refine zax ([9] ++ t_rg 16 11) (G := Nat × Int × Heap) (fun ⟨i, n, h15⟩ => [(16, .int .i64 (i : Int))]) (fun ⟨i, n, h15⟩ w' => Le h3 h15 ∧ St h w h15 w' [[(b7, .cells (List.toArray [.int .i64 0, .int .i64 0, (.slice none 0 0)]) 79)], [(b10, .cells (List.toArray [.int .i64 n, .int .i64 0, (.slice none 0 0)]) 79)]] ∧ (i ≤ p.voters.length) ∧ (n = ziu (p.voters.take i))) (fun ⟨i, n, h15⟩ => p.voters.length - i) ⟨0, 0, h3⟩ ⟨rfl, trivial⟩ ⟨Le.refl _, st14, zaW, (by rfl)⟩ ?_
 rintro ⟨i, n, h15⟩ _ w18 ⟨le16, st17, hi, hn⟩
 refine W.sr<|zaX X X X<|Y<|zj ?_
 refine zC rfl (fun c19 => ?_) (fun c19 => ?_)
 ·
  refine zy<|O<|zj<|zG<|W.sr ?_
  obtain ⟨x, hx⟩ : ∃ y_, (p.voters)[i]? = some y_ := t_ge (by omega)
  have l24 := le4.trans le16
  obtain ⟨b20, o21, _, he23, hc22, hr_x⟩ := Sl.elem (p_f4.up l24) hx
  obtain ⟨v25, rfl, f26⟩ := hr_x
  have f26_b := f26.le
  refine zU he23 X X (hk := X) (hu := zaa) (hz := zaT) X<|zr st17.sub hc22 X zdU zaT X X<|zQ st17 zdt X X<|fun b27 w28 st29=>zI st29 (k := 2) X X X (za X (za X (za f26.one zan))) zaT X X X<|fun w30 st31=> ?_
  obtain ⟨h32, le33, hb34, st36⟩ := st31.freeze (k := 2) rfl
  have hc35 := Cells.of hb34
  refine Y<|have hxi:=poll_id hp (List.mem_of_getElem? hx);zn<|E X zaz X zl X X<|zbi (st36.get (k := 1) X) X X zz X<|E X zaz X zl X X<|U (j := 0) st36.sub hc35 X X X zz X<|zi X X (r_max X X)<|E X zaz X zl X X<|zar st36 (k := 1) X X X X zl X X X<|fun w37 st38=>zp<|zO<|O<|zn<|zaM X X t_om X<|zh X X<|Y ?_
  refine ⟨⟨i + 1, (maxI n (x.id)), h32⟩, ⟨rfl, trivial⟩, ?_, ⟨(le16.trans le33), st38.take 2, ?_, ?_⟩, ?_⟩
  ·exact zau
  ·first | omega | (simp; omega)
  ·rw [hn, maxIdN_snoc hx]
  show p.voters.length - ((i + 1)) < p.voters.length - i
  omega
 refine zaI<|zm<|zm<|zam<|O<|zj ?_
 have hn2 : n = ziu p.voters := by rw [hn, List.take_of_length_le (by omega)]
 have hnl := maxIdN_le hp i
 rw [← hn] at hnl
 refine zn<|E X zaz X zl X X<|zbi (st17.get (k := 1) X) X X zz X<|zaM X X t_om X<|E X zaz X zl X X<|zar st17 (k := 1) X X X X zl X X X<|fun w39 st40=>Y<|zj<|zj ?_
 have st41 : St h w h15 _ [[(b7, .cells (List.toArray [.int .i64 0, .int .i64 0, (.slice none 0 0)]) 79)], [(b10, .cells (List.toArray [.int .i64 (ziu p.voters + 1), .int .i64 0, (.slice none 0 0)]) 79)]] := St.to st40 (by rw [← hn2]; rfl)
 refine zn<|E X zt X zbe X X<|U (j := 3) st41.sub (hc5.up le16) X X X zby X<|have l42:=le4.trans le16;zaH (p_f3.up l42) X zaq X<|zh X X<|Y<|zG ?_
 have st46 := st41.snoc
 have f47 := OSl.nil LInt 3 h15
 refine zax ([10, 11] ++ t_rg 34 17) (G := Nat × Value × List (Nat × Obj) × Heap) (fun ⟨k, v_c1_2, o_c1_2, h43⟩ => [(34, .int .i64 (k : Int))]) (fun ⟨k, v_c1_2, o_c1_2, h43⟩ w' => Le h15 h43 ∧ St h w h43 w' [[(b7, .cells (List.toArray [.int .i64 0, .int .i64 0, (.slice none 0 0)]) 79)], [(b10, .cells (List.toArray [.int .i64 (ziu p.voters + 1), .int .i64 0, v_c1_2]) 79)], o_c1_2] ∧ (OSl LInt 3 h43 v_c1_2 ((expL hs_ qs k)) o_c1_2) ∧ (k ≤ p.questions.length)) (fun ⟨k, v_c1_2, o_c1_2, h43⟩ => p.questions.length - k) ⟨0, (.slice none 0 0), [], h15⟩ ⟨rfl, trivial⟩ ⟨Le.refl _, st46, (OSl.to f47 (by rfl)), zaW⟩ ?_
 rintro ⟨k, v_c1_2, o_c1_2, h43⟩ _ w48 ⟨le44, st45, hO_c1_2, hk⟩
 refine W.sr<|zaX X X X<|Y<|zj ?_
 refine zC rfl (fun c49 => ?_) (fun c49 => ?_)
 ·
  refine zy<|O<|zj<|zG<|W.sr<|zh X X<|zq X X<|Y<|W.sr<|zq X X<|Y<|zj<|W.sr<|zR (v := qs_v) X X<|zh X X<|have l50:=l42.trans le44;ze st45 X X X Tryz.call45 X (zgw st45.sub (qs_f.up l50) _)<|fun r51 w52 h53 le54 st55 q56=> ?_
  obtain rfl := q56
  refine Y ?_
  refine zae rfl (fun c57 => ?_) (fun c57 => ?_)
  ·
   have hkb := hb (k : Int) (by simpa using c57)
   refine zn<|zR (v := hs__v) X X<|zh X X ?_
   obtain ⟨a, ha⟩ : ∃ y_, (hs_)[k]? = some y_ := t_ge (by omega)
   have l62 := l50.trans le54
   obtain ⟨b58, o59, _, he61, hc60, hr_a⟩ := Sl.elem (hs__f.up l62) ha
   obtain rfl := hr_a
   refine zU he61 X X (hk := X) (hu := zg) (hz := zl) X<|U (j := 0) st55.sub hc60 X X X zz X<|zq X X<|Y<|zn<|E X zaz X zbs X X<|zbi (st55.get (k := 1) X) X X zce X<|zh X X<|zac (L := LInt) (xs := [a]) (cs := [.int .i64 a]) st55 (Enc.cons (L := LInt) (vs := [.int .i64 a]) (x := a) (h := h53) (X) Enc.nil) X X X zg Tryz.info3 X X X t_kr<|fun v63 w64 h67 le68 f65 st66=> ?_
   refine zbB (k := 2) (nb := 8) st66 (hO_c1_2.up (le54.trans le68)) rfl f65 rfl rfl rfl zg Tryz.info3 rfl rfl rfl (by decide) rfl (by simp only [List.length_append, List.length_cons, List.length_nil, zeI]; omega) (by simp only [List.length_append, List.length_cons, List.length_nil, zeI]; omega) ?_
   intro v69 o70 w71 _ e72 f73 st74
   subst e72
   refine E X zaz X zbs X X<|zar st74 (k := 1) X X (v := v69) X f73.one zbs X X X<|fun w75 st76=>zp<|zO<|O<|zn<|zaM X X t_om X<|zh X X<|Y ?_
   refine ⟨⟨k + 1, v69, o70, h67⟩, ⟨rfl, trivial⟩, ?_, ⟨((le44.trans le54).trans le68), st76, ?_, ?_⟩, ?_⟩
   ·exact zau
   ·refine OSl.to f73 ?_
    rw [expL_succ, expAt, if_pos (by simpa using c57), ha]; rfl
   ·first | omega | (simp; omega)
   show p.questions.length - ((k + 1)) < p.questions.length - k
   omega
  refine zy<|O<|zn<|E X zaz X zbs X X<|zbi (st55.get (k := 1) X) X X zce X<|zh X X<|zac (L := LInt) (xs := [(-1)]) (cs := [.int .i64 (-1)]) st55 (Enc.cons (L := LInt) (vs := [.int .i64 (-1)]) (x := (-1)) (h := h53) (X) Enc.nil) X X X zg Tryz.info3 X X X t_kr<|fun v77 w78 h81 le82 f79 st80=> ?_
  refine zbB (k := 2) (nb := 8) st80 (hO_c1_2.up (le54.trans le82)) rfl f79 rfl rfl rfl zg Tryz.info3 rfl rfl rfl (by decide) rfl (by simp only [List.length_append, List.length_cons, List.length_nil, zeI]; omega) (by simp only [List.length_append, List.length_cons, List.length_nil, zeI]; omega) ?_
  intro v83 o84 w85 _ e86 f87 st88
  subst e86
  refine E X zaz X zbs X X<|zar st88 (k := 1) X X (v := v83) X f87.one zbs X X X<|fun w89 st90=>zp<|zO<|O<|zn<|zaM X X t_om X<|zh X X<|Y ?_
  refine ⟨⟨k + 1, v83, o84, h81⟩, ⟨rfl, trivial⟩, ?_, ⟨((le44.trans le54).trans le82), st90, ?_, ?_⟩, ?_⟩
  ·exact zau
  ·refine OSl.to f87 ?_
   rw [expL_succ, expAt, if_neg (by simpa using c57)]
  ·first | omega | (simp; omega)
  show p.questions.length - ((k + 1)) < p.questions.length - k
  omega
 refine zaI<|zm<|zm<|zam<|O<|W.sr<|zbc (st45.get (k := 1) X) X zdU zaT X X<|zI st45 (k := 0) X X X (za X (za X (za hO_c1_2.one zan))) zaT X X X<|fun w91 st92=> ?_
 obtain ⟨h93, le94, hb95, st97⟩ := st92.freeze (k := 0) rfl
 have hc96 := Cells.of hb95
 refine Y<|zw<|zdv Tryz.results47 X zdU zaT X st97.sub hc96 ?_
 refine ⟨h93, v_c1_2, _, congrArg Ending.returned (rfl), ((l42.trans le44).trans le94), st97.sublist (own' := [o_c1_2]) (.cons _ (.cons _ (.cons_cons _ (.slnil)))), OSl.to (hO_c1_2.up le94) ?_⟩
 all_goals first | rfl | (show expL hs_ qs k = expL hs_ qs p.questions.length; rw [show k = p.questions.length by omega])
end Go.Pk
