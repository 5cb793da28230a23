/- A PART OF THE PROOF: contracts of functions, each walked once (much of it printed by a program of the author's own). -/
import Derived.Test.YtfpiiheehdedmaaGreatDoorT14
import Derived.Test.YtfpiiheehdedmaaGreatDoorT2
set_option linter.unusedSimpArgs false
set_option linter.unusedVariables false
set_option maxRecDepth 4000
namespace Go.Pk
open Go Go.RowKit Go.Proofs
set_option maxHeartbeats 4000000 in
theorem c_postilref07_Moot {h : Heap} {w : World} (hs : Sub h w) {p : Poll} {p_v0 : Value} (p_f0 : Sl LChapter h p_v0 p.text.chapters) {p_v1 : Value} (p_f1 : Sl LRule h p_v1 p.lexicon.rules) {p_v2 : Value} (p_f2 : Sl LDecision h p_v2 p.lexicon.decisions) {p_v3 : Value} (p_f3 : Sl LQuestion h p_v3 p.questions) {p_v4 : Value} (p_f4 : Sl LVoter h p_v4 p.voters) : Calls Tryz.prog 30 #[.agg #[p_v0, p_v1, p_v2, p_v3, p_v4]] w (Rets h w (fun h' _ res_ => ∃ u0, res_ = .tuple #[u0, .int .i64 (allE p true)] ∧ Sl LStr h' u0 ((mootR p)))) := by
 refine zS (n := 77) Tryz.func30 X X X<|have st0:=t_s0 hs;have p_f0_b:=p_f0.le;have p_f1_b:=p_f1.le;have p_f2_b:=p_f2.le;have p_f3_b:=p_f3.le;have p_f4_b:=p_f4.le;W.sr<|zG st0 (cs := [p_v0, p_v1, p_v2, p_v3, p_v4]) X X X<|fun b1 w2 h3 le4 hc5 st6=>zcz X X<|zz X X<|Y<|W.sr<|zy st6.sub hc5 X zbV zbm X X<|zn st6 X X X Tryz.call56 X (zhD st6.sub (p := p) (p_f0.up le4) (p_f1.up le4) (p_f2.up le4) (p_f3.up le4) (p_f4.up le4) _)<|fun r7 w8 h9 le10 st11 q12=> ?_
 obtain ⟨v13, rfl, f14⟩ := q12
 have f14_b := f14.le
 refine zdu X X<|zak (v := v13) X X X<|zak (v := (.int _ _)) X X X<|zaj (v := v13) X X<|zz X X<|Y<|zj<|W.sr<|zk X X<|zcF X X X<|Y ?_
 refine zH rfl (fun c15 => ?_) (fun c15 => ?_)
 ·
  refine W.sr<|zk X X<|zcz X X<|zz X X<|Y<|zB<|zd<|zbs Tryz.results30 ?_
  refine ⟨h9, _, rfl, st11.done, ?_⟩
  refine ⟨_, tup2 rfl (zar ?_), Sl.to (Sl.nil _ _) ?_⟩
  all_goals (simp_all [mootR])
 refine zC<|O<|zj ?_
 have hz0 : allE p true = 0 := by simpa using c15
 obtain ⟨hk1, hk2, hk3, hk4⟩ := all_ok hz0
 have hk5 := List.length_pos_iff.2 hk3
 have hk6 : (allL p true).length = (zas p).length := by rw [hk4]
 have hk7 := zih (zdj hk1).2
 have hk8 := zeh (zdj hk1).2
 have hpb := (zdj hk1).2
 have hx0 := (zdj hk1).1
 have ht0 := zcx hx0
 have hhl := homR_len hx0
 refine zo<|zy st11.sub (hc5.up le10) X zbV zbm X X<|zaa (v := v13) X X ?_
 have l16 := le4.trans le10
 refine zn st11 rfl rfl rfl Tryz.call81 rfl (zgw st11.sub (p := p) (p_f0.up l16) (p_f1.up l16) (p_f2.up l16) (p_f3.up l16) (p_f4.up l16) f14 (by omega) (by intro t_ ht_; rw [hk4] at ht_; exact zhi ht_) (by omega)) ?_
 intro r17 w18 h19 le20 st21 q22
 obtain ⟨v23, e25, f24⟩ := q22
 rw [← e25] at f24
 have f24_b := f24.le
 have f26 := Sl.to f24 (show _ = (zbK (zas p)) from by rw [hk4])
 have f26_b := f26.le
 refine zaj (v := r17) X X<|Y<|W.sr<|U X zx X zac X X<|zab (j := 0) st21.sub (hc5.up (le10.trans le20)) (us := [p_v0]) X X zaO zac X X X<|U X zx X zR X X<|zab (j := 1) st21.sub (hc5.up (le10.trans le20)) (us := [p_v1, p_v2]) X X zaK zR X X X<|have l27:=l16.trans le20;zn st21 X X X Tryz.call88 X (zic st21.sub (t := p.text) (p_f0.up l27) (x := p.lexicon) (p_f1.up l27) (p_f2.up l27))<|fun r28 w29 h30 le31 st32 q33=> ?_
 obtain ⟨v34, rfl, f35⟩ := q33
 have f35_b := f35.le
 refine zdu X X<|zak (v := v34) X X X<|zak (v := (.int _ _)) X X X<|zaj (v := v34) X X<|zz X X<|Y<|W.sr<|zcz X X<|Y<|zj<|W.sr<|zz X X<|Y<|zF ?_
 have st39 := st32.snoc
 have f40 := OSl.nil LStr 9 h30
 refine zat ([9, 10, 11, 12] ++ t_rg 32 44) (G := Nat × Value × List (Nat × Obj) × Heap) (fun ⟨i, v_9, o_9, h36⟩ => [(9, v_9), (10, .int .i64 (i : Int))]) (fun ⟨i, v_9, o_9, h36⟩ w' => Le h30 h36 ∧ St h w h36 w' [o_9] ∧ (OSl LStr 9 h36 v_9 ((((homR p.text p.lexicon).take i).filter (zgT p (zbK (zas p)) (zbK (zas p)).length))) o_9) ∧ (i ≤ (homR p.text p.lexicon).length)) (fun ⟨i, v_9, o_9, h36⟩ => (homR p.text p.lexicon).length - i) ⟨0, (.slice none 0 0), [], h30⟩ ⟨rfl, rfl, trivial⟩ ⟨Le.refl _, st39, (OSl.to f40 (by rfl)), zaM⟩ ?_
 rintro ⟨i, v_9, o_9, h36⟩ _ w41 ⟨le37, st38, hO_9, hi⟩
 refine zj<|W.sr<|zk X X<|zaa (v := v34) X X<|zaJ (f35.up le37) X zA X<|zaV X X X<|Y ?_
 refine zH rfl (fun c42 => ?_) (fun c42 => ?_)
 ·
  refine zC<|O<|zj<|zF<|zj ?_
  obtain ⟨wd, hwd⟩ : ∃ y, ((homR p.text p.lexicon))[i]? = some y := ⟨_, List.getElem?_eq_getElem (by omega)⟩
  refine zo<|zJ X X<|Y<|zj<|W.sr<|zz X X<|Y<|zF ?_
  refine zat ([11, 12] ++ t_rg 38 30) (G := Nat × Heap) (fun ⟨k, h43⟩ => [(11, .bool (zgT p (zbK (zas p)) k wd)), (12, .int .i64 (k : Int))]) (fun ⟨k, h43⟩ w' => Le h36 h43 ∧ St h w h43 w' [o_9] ∧ (k ≤ (zbK (zas p)).length)) (fun ⟨k, h43⟩ => (zbK (zas p)).length - k) ⟨0, h36⟩ ⟨(zw (by rfl)), rfl, trivial⟩ ⟨Le.refl _, st38, zaM⟩ ?_
  rintro ⟨k, h43⟩ _ w46 ⟨le44, st45, hk⟩
  refine zj<|W.sr<|zk X X<|zaa (v := r17) X X<|zaJ (f26.up ((le31.trans le37).trans le44)) X zp X<|zaV X X X<|Y ?_
  refine zH rfl (fun c47 => ?_) (fun c47 => ?_)
  ·
   refine zC<|O<|zj<|zF ?_
   have hk9 : k < p.questions.length := by have q_ := set_len7 hk3; omega
   obtain ⟨q, hq⟩ : ∃ y, (p.questions)[k]? = some y := ⟨_, List.getElem?_eq_getElem (by omega)⟩
   obtain ⟨ch, hch⟩ : ∃ y, ((zbK (zas p)))[k]? = some y := ⟨_, List.getElem?_eq_getElem (by omega)⟩
   refine zbj Tryz.mixed t_kr (Cls h43 _) (Cls.drew st45)<|zdS X X<|zdS X X ?_
   refine zeO (d := 45) rfl (fun g48 => ?_) (fun g48 => ?_)
   ·
    refine zb X X X X X<|zb X X X X X<|zb X X X X X<|zb X X X X X<|zb X X X X X<|zb X X X X X<|zY X X X X<|zY X X X X<|zY X X X X<|zY X X X X<|zY X X X X<|zY X X X X<|zY X X X X<|zY X X X X<|zY X X X X<|zY X X X X<|zY X X X X<|zY X X X X<|zY X X X X<|zY X X X X<|zb X X X X X<|zcK (v := (.bool _)) X X X<|u_asB X X<|zaN ?_
    rintro w49 ⟨h50, s51⟩
    have st52 := st45.call0 s51
    refine zP<|O<|zo<|zk X X<|zaP X X t_om X<|zz X X<|Y ?_
    refine ⟨⟨k + 1, h50⟩, ⟨?_, rfl, trivial⟩, ?_, ⟨(le44.trans s51.le), st52, ?_⟩, ?_⟩
    ·exact zw (by rw [moot_at hq hch]; first | (simp_all; done) | (simp_all; intros; omega))
    ·exact zav
    ·first | omega | (simp; omega)
    show (zbK (zas p)).length - ((k + 1)) < (zbK (zas p)).length - k
    omega
   refine zg X X X<|zdn (v := r17) X X<|zg X X X<|zbJ X X<|zg X X X ?_
   obtain ⟨b53, o54, _, he56, hc55, hr_ch⟩ := Sl.elem (f26.up ((le31.trans le37).trans le44)) hch
   obtain rfl := hr_ch
   refine zaG he56 X X (hk := X) (hu := zp) (hz := zr) X<|zg X X X<|zl X X (fun _ hC => (ze (j := 0) hC.sub hc55 X X X zN))<|zg X X X<|u_lss X X X<|zg X X X<|zdS X X ?_
   refine zcP (d := 51) rfl (fun g57 => ?_) (fun g57 => ?_)
   ·
    refine zg X X X<|zD X zx X zac X X<|zg X X X<|have l58:=(((le10.trans le20).trans le31).trans le37).trans le44;zl X X (fun _ hC => (zbL (j := 0) hC.sub (hc5.up l58) (us := [p_v0]) X X zaO zac X X))<|zg X X X<|zD X zx X zbd X X<|zg X X X<|zl X X (fun _ hC => (ze (j := 3) hC.sub (hc5.up l58) X X X zbv))<|zg X X X<|zbJ X X<|zg X X X ?_
    have l63 := ((l27.trans le31).trans le37).trans le44
    obtain ⟨b59, o60, _, he62, hc61, hr_q⟩ := Sl.elem (p_f3.up l63) hq
    obtain ⟨v64, rfl, f65⟩ := hr_q
    have f65_b := f65.le
    refine zaG he62 X X (hk := X) (hu := zau) (hz := zbz) X<|zg X X X<|zD X zam X zO X X<|zg X X X<|zl X X (fun _ hC => (zbL (j := 0) hC.sub hc61 (us := [.int .i64 (q.at_.chapter), .int .i64 (q.at_.line), .int .i64 (q.at_.word)]) X X zaD zO X X))<|zg X X X ?_
    refine zbU rfl rfl (fun _ => zbc rfl Tryz.call89 rfl) (fun _ hC => Rets.quiet hC (zel hC.sub (t := p.text) (p_f0.up l63) (p := q.at_) (by exact (poll_quest hpb hq).1))) ?_
    refine zg X X X<|zdn (v := v34) X X<|zg X X X<|zbJ X X<|zg X X X ?_
    obtain ⟨b66, o67, _, he69, hc68, hr_wd⟩ := Sl.elem (f35.up (le37.trans le44)) hwd
    obtain ⟨rfl, ls70⟩ := hr_wd
    simp only [big] at ls70
    refine zaG he69 X X (hk := X) (hu := zA) (hz := zW) X<|zg X X X<|zl X X (fun _ hC => (ze (j := 0) hC.sub hc68 X X X zaw))<|zg X X X<|u_seql X X X<|zg X X X<|zcK (v := (.bool _)) X X X<|zcL (v := (.bool _)) X X X<|u_asB X X<|zaN ?_
    rintro w71 ⟨h72, s73⟩
    have st74 := st45.call0 s73
    refine zP<|O<|zo<|zk X X<|zaP X X t_om X<|zz X X<|Y ?_
    refine ⟨⟨k + 1, h72⟩, ⟨?_, rfl, trivial⟩, ?_, ⟨(le44.trans s73.le), st74, ?_⟩, ?_⟩
    ·exact zw (by rw [moot_at hq hch]; first | (simp_all; done) | (simp_all; intros; omega))
    ·exact zav
    ·first | omega | (simp; omega)
    show (zbK (zas p)).length - ((k + 1)) < (zbK (zas p)).length - k
    omega
   refine zb X X X X X<|zb X X X X X<|zb X X X X X<|zb X X X X X<|zb X X X X X<|zb X X X X X<|zb X X X X X<|zb X X X X X<|zb X X X X X<|zb X X X X X<|zb X X X X X<|zb X X X X X<|zb X X X X X<|zb X X X X X<|zg X X X<|zcL (v := (.bool _)) X X X<|zcL (v := (.bool _)) X X X<|u_asB X X<|zaN ?_
   rintro w75 ⟨h76, s77⟩
   have st78 := st45.call0 s77
   refine zP<|O<|zo<|zk X X<|zaP X X t_om X<|zz X X<|Y ?_
   refine ⟨⟨k + 1, h76⟩, ⟨?_, rfl, trivial⟩, ?_, ⟨(le44.trans s77.le), st78, ?_⟩, ?_⟩
   ·exact zw (by rw [moot_at hq hch]; first | (simp_all; done) | (simp_all; intros; omega))
   ·exact zav
   ·first | omega | (simp; omega)
   show (zbK (zas p)).length - ((k + 1)) < (zbK (zas p)).length - k
   omega
  refine zaC<|zh<|zh<|zah<|O<|W.sr<|zai X X<|Y ?_
  refine zad rfl (fun c79 => ?_) (fun c79 => ?_)
  ·
   refine zo<|zaa (v := v_9) X X<|zaa (v := v34) X X<|zk X X ?_
   obtain ⟨b80, o81, _, he83, hc82, hr_wd⟩ := Sl.elem (f35.up (le37.trans le44)) hwd
   obtain ⟨rfl, ls84⟩ := hr_wd
   simp only [big] at ls84
   refine zV he83 X X (hk := X) (hu := zA) (hz := zW) X<|E (j := 0) st45.sub hc82 X X X zaw X<|zaL (L := LStr) (xs := [wd]) (cs := [strV wd]) st45 (Enc.cons (L := LStr) (vs := [strV wd]) (x := wd) (h := h43) (⟨rfl, zba⟩) Enc.nil) X X X zA Tryz.info9 X X X t_kr<|fun v85 w86 h89 le90 f87 st88=> ?_
   refine zaR (k := 0) (nb := 16) st88 (hO_9.up (le44.trans le90)) rfl f87 rfl rfl rfl zA Tryz.info9 rfl rfl rfl (by decide) rfl (by have q_ := List.length_filter_le (zgT p (zbK (zas p)) (zbK (zas p)).length) ((homR p.text p.lexicon).take i); rw [List.length_take] at q_; (try simp only [List.length_append, List.length_cons, List.length_nil]); omega) (by have q_ := List.length_filter_le (zgT p (zbK (zas p)) (zbK (zas p)).length) ((homR p.text p.lexicon).take i); rw [List.length_take] at q_; (try simp only [List.length_append, List.length_cons, List.length_nil]); omega) ?_
   intro v91 o92 w93 _ e94 f95 st96
   subst e94
   refine zaj (v := v91) X X<|zt<|zP<|O<|zo<|zk X X<|zaP X X t_om X<|zz X X<|Y ?_
   refine ⟨⟨i + 1, v91, o92, h89⟩, ⟨rfl, rfl, trivial⟩, ?_, ⟨((le37.trans le44).trans le90), st96, ?_, ?_⟩, ?_⟩
   ·exact zav
   ·refine OSl.to f95 ?_
    rw [zbb hwd, List.filter_append, List.filter_cons, if_pos (by have q_ := c79; rw [← moot_end (k := k) (by omega)]; exact q_)]; rfl
   ·first | omega | (simp; omega)
   show (homR p.text p.lexicon).length - ((i + 1)) < (homR p.text p.lexicon).length - i
   omega
  refine zC<|zP<|O<|zo<|zk X X<|zaP X X t_om X<|zz X X<|Y ?_
  refine ⟨⟨i + 1, v_9, o_9, h43⟩, ⟨rfl, rfl, trivial⟩, ?_, ⟨(le37.trans le44), st45, ?_, ?_⟩, ?_⟩
  ·exact zav
  ·refine OSl.to (hO_9.up le44) ?_
   rw [zbb hwd, List.filter_append, List.filter_cons, if_neg (by have q_ := c79; rw [← moot_end (k := k) (by omega), q_]; decide)]; simp
  ·first | omega | (simp; omega)
  show (homR p.text p.lexicon).length - ((i + 1)) < (homR p.text p.lexicon).length - i
  omega
 refine zaC<|zh<|zh<|zah<|O<|W.sr<|zaa (v := v_9) X X<|zaj (v := v_9) X X<|zz X X<|Y<|zB<|zbs Tryz.results30 ?_
 obtain ⟨h97, le98, f99, st100⟩ := OSl.freeze (k := 0) st38 hO_9 rfl (by have q_ := List.length_filter_le (zgT p (zbK (zas p)) (zbK (zas p)).length) ((homR p.text p.lexicon).take i); rw [List.length_take] at q_; (try simp only [List.length_append, List.length_cons, List.length_nil]); omega)
 refine ⟨h97, _, rfl, st100.done, ?_⟩
 refine ⟨_, tup2 rfl (zar ?_), Sl.to f99 ?_⟩
 all_goals first | (simp_all [mootR]; done) | (rw [mootR, if_pos hz0, List.take_of_length_le (by omega)]; done)
theorem c_stem_Homographs_own {h : Heap} {w : World} (hs : Sub h w) {t : Text} {t_v0 : Value} (t_f0 : Sl LChapter h t_v0 t.chapters) {x : Lexicon} {x_v0 : Value} (x_f0 : Sl LRule h x_v0 x.rules) {x_v1 : Value} (x_f1 : Sl LDecision h x_v1 x.decisions) (K1 : Cells h 1 0 Tryz.glob1) : Calls Tryz.prog 84 #[.agg #[t_v0], .agg #[x_v0, x_v1]] w (fun e_ w' => ∃ h' v0_ o0_, e_ = .returned (.tuple #[v0_, .int .i64 (zaQ t x)]) ∧ Le h h' ∧ St h w h' w' [o0_] ∧ OSl LStr 9 h' v0_ (((homR t x))) o0_) := by
 refine zS (n := 60) Tryz.func84 X X X<|have st0:=t_s0 hs;have t_f0_b:=t_f0.le;have x_f0_b:=x_f0.le;have x_f1_b:=x_f1.le;W.sr<|zG st0 (cs := [t_v0]) X X X<|fun b1 w2 h3 le4 hc5 st6=>zG st6 (cs := [x_v0, x_v1]) X X X<|fun b7 w8 h9 le10 hc11 st12=>zcz X X<|zz X X<|Y<|W.sr<|zy st12.sub (hc5.up le10) X zaO zac X X<|zy st12.sub hc11 X zaK zR X X<|have l13:=le4.trans le10;zn st12 X X X Tryz.call117 X (c_stem_open st12.sub (t := t) (t_f0.up l13) (x := x) (x_f0.up l13) (x_f1.up l13) (K1.up l13))<|fun r14 w15 h16 le17 st18 q19=> ?_
 rcases Bool.eq_false_or_eq_true (decide (zaQ (t) (x) = 0)) with hb20 | hb20
 ·
  simp only [hb20, if_true, if_false, Bool.false_eq_true, reduceIte] at q19
  obtain ⟨v21, rfl, f22⟩ := q19
  obtain ⟨b23, vs24, rfl, hc25, hr26⟩ := f22
  obtain ⟨v27, v29, v31, v33, rfl, f28, f30, f32, lm34⟩ := hr26
  have f28_b := f28.le
  have f30_b := f30.le
  have f32_b := f32.le
  refine zdu X X<|zak (v := (.pointer (some _))) X X X<|zak (v := (.int _ _)) X X X<|v_asP X X<|zz X X<|Y<|zj<|W.sr<|zk X X<|zcF X X X<|Y ?_
  refine zH rfl (fun c35 => ?_) (fun c35 => ?_)
  ·
   refine W.sr<|zk X X<|zcz X X<|zz X X<|Y<|zB<|zd<|zbs Tryz.results84 ?_
   have st36 := st18.snoc
   have f37 := OSl.nil LStr 9 h16
   refine ⟨h16, (.slice none 0 0), _, congrArg Ending.returned (tup2 rfl (zar ?_)), (l13.trans le17), st36.sublist (own' := [[]]) (.cons_cons _ (.slnil)), OSl.to f37 ?_⟩
   all_goals simp_all [homR]
  refine zC<|O<|zj ?_
  have hx0 : zaQ t x = 0 := by simpa using c35
  have hel := entries_len (zcx hx0) x
  refine zo<|zgq (κ := Str) (υ := Head) (ek := strV) (eu := (fun x : Head => .agg [strV x.stem, .int .u8 x.mark].toArray)) st18 X<|fun v38 o39 w40 f41 st42=> ?_
  obtain ⟨mb43, rfl⟩ := f41.form
  have nd44 : (([] : List (Str × Head)).map (·.1)).Nodup := by simp
  refine zaj (v := (.map (some mb43))) X X<|Y<|W.sr<|zcz X X<|Y<|zj<|W.sr<|v_mvP X X ?_
  have l45 := l13.trans le17
  refine zn st42 rfl rfl rfl Tryz.call118 rfl (c_stem_office_entries st42.sub (o := (Office.mk (x) (t) (zeY (x)))) f28 f30 f32 lm34 hc25 (K1.up l45) (by exact ⟨hx0, rfl⟩)) ?_
  intro r46 w47 h48 le49 st50 q51
  obtain ⟨v52, e54, f53⟩ := q51
  rw [← e54] at f53
  have f53_b := f53.le
  have f55 := Sl.to f53 (show _ = (zbt t x) from rfl)
  have f55_b := f55.le
  refine zaJ f55 X Tryz.underlying187 X<|zk X X<|Y<|zF ?_
  have st59 := st50.snoc
  have f60 := OSl.nil LStr 9 h48
  refine zat ([9, 11, 12, 13] ++ t_rg 27 29) (G := Nat × List (Str × Head) × Value × List (Nat × Obj) × List (Nat × Obj) × Heap) (fun ⟨i, m, v_9, o_9, o_8, h56⟩ => [(9, v_9), (27, .int .i64 (i : Int))]) (fun ⟨i, m, v_9, o_9, o_8, h56⟩ w' => Le h48 h56 ∧ St h w h56 w' [o_8, o_9] ∧ (OSl LStr 9 h56 v_9 (zhd (zbt t x) i) o_9) ∧ (OM strV (fun x : Head => .agg [strV x.stem, .int .u8 x.mark].toArray) (m) o_8 (.map (some mb43))) ∧ (((m).map (·.1)).Nodup) ∧ (i ≤ (zbt t x).length) ∧ (∀ wd, look m wd = zcD ((zbt t x).take i) wd)) (fun ⟨i, m, v_9, o_9, o_8, h56⟩ => (zbt t x).length - i) ⟨0, [], (.slice none 0 0), [], o39, h48⟩ ⟨rfl, rfl, trivial⟩ ⟨Le.refl _, st59, (OSl.to f60 (by rfl)), (by have q := f41; exact q), (by have q := nd44; exact q), zaM, (by intro wd; rfl)⟩ ?_
  rintro ⟨i, m, v_9, o_9, o_8, h56⟩ _ w61 ⟨le57, st58, hO_9, hM_8, hN_8, hi, hm⟩
  refine W.sr<|zaV X X X<|Y<|zj ?_
  refine zH rfl (fun c62 => ?_) (fun c62 => ?_)
  ·
   refine zC<|O<|zj<|zF<|W.sr ?_
   obtain ⟨y, hy⟩ : ∃ y_, ((zbt t x))[i]? = some y_ := t_ge (by omega)
   obtain ⟨b63, o64, _, he66, hc65, hr_y⟩ := Sl.elem (f55.up le57) hy
   obtain ⟨rfl, ls67, ls68, lu69⟩ := hr_y
   simp only [big] at ls67
   simp only [big] at ls68
   refine zV he66 X X (hk := X) (hu := Tryz.underlying187) (hz := Tryz.sizeOf190) X<|zy st58.sub hc65 X Tryz.isAgg190 Tryz.sizeOf190 X X<|zae st58 Tryz.zeroValue190 X X<|fun b70 w71 st72=>zM st72 (k := 2) X X X (za X (za X (za X (za X (za X (za X zap)))))) Tryz.sizeOf190 X X X<|fun w73 st74=> ?_
   obtain ⟨h75, le76, hb77, st79⟩ := st74.freeze (k := 2) rfl
   have hc78 := Cells.of hb77
   refine Y<|W.sr<|zaa (v := (.map (some mb43))) X X<|U X zdF X zW X X<|E (j := 3) st79.sub hc78 X X X zaw X<|zq X X (r_look_ok (k := (y.word)) (zu := zdc) (key_str zaz) Tryz.underlying186 hM_8 (st79.ent (k := 0) X) zdb X X X)<|zdu X X<|zak (v := (.agg (List.toArray _))) X X X<|zak (v := (.bool _)) X X X<|zae st79 zdb X X<|fun b80 w81 st82=>zM st82 (k := 3) X X X (za X (za X zap)) zT X X X<|fun w83 st84=> ?_
   obtain ⟨h85, le86, hb87, st89⟩ := st84.freeze (k := 3) rfl
   have hc88 := Cells.of hb87
   refine zJ X X<|Y<|W.sr<|zai X X<|zai X X ?_
   refine zaY (d := 39) rfl (fun g90 => ?_) (fun g90 => ?_)
   ·
    refine M X X X<|zy st89.sub hc88 X zbl zT X X<|M X X X<|U X zdF X zT X X<|M X X X<|zab (j := 4) st89.sub (hc78.up le86) (us := [strV (y.head.stem), .int .u8 (y.head.mark)]) X X zbl zT X X X<|M X X X<|zq X X (ziz X X zea (Tryz.eq_Head ((look m (y.word)).getD zdc) y.head))<|zaf (v := (.bool _)) X X X<|Y ?_
    refine zH rfl (fun c91 => ?_) (fun c91 => ?_)
    ·
     refine zo<|zaa (v := v_9) X X<|U X zdF X zW X X<|E (j := 3) st89.sub (hc78.up le86) X X X zaw X<|zaL (L := LStr) (xs := [(y.word)]) (cs := [strV (y.word)]) st89 (Enc.cons (L := LStr) (vs := [strV (y.word)]) (x := (y.word)) (h := h85) (⟨rfl, zba⟩) Enc.nil) X X X zA Tryz.info9 X X X t_kr<|fun v92 w93 h96 le97 f94 st95=> ?_
     refine zaR (k := 1) (nb := 16) st95 (hO_9.up ((le76.trans le86).trans le97)) rfl f94 rfl rfl rfl zA Tryz.info9 rfl rfl rfl (by decide) rfl (by have q := zhl (zbt t x) i; simp only [List.length_append, List.length_cons, List.length_nil]; omega) (by have q := zhl (zbt t x) i; simp only [List.length_append, List.length_cons, List.length_nil]; omega) ?_
     intro v98 o99 w100 _ e101 f102 st103
     subst e101
     refine zaj (v := v98) X X<|zt<|zP<|O<|zo<|zaP X X t_om X<|zk X X<|Y ?_
     have l104 := ((le57.trans le76).trans le86).trans le97
     refine ⟨⟨i + 1, m, v98, o99, o_8, h96⟩, ⟨rfl, rfl, trivial⟩, ?_, ⟨l104, st103.take 2, ?_, ?_, ?_, ?_, ?_⟩, ?_⟩
     ·exact zav
     ·refine OSl.to f102 ?_
      rw [homsN_succ hy, homAt_yes hm g90 (by simpa using c91)]
     ·have q := hM_8
      exact q
     ·have q := hN_8
      exact q
     ·first | omega | (simp; omega)
     ·exact hom_keep hy hm g90
     show (zbt t x).length - ((i + 1)) < (zbt t x).length - i
     omega
    refine zo<|zaa (v := (.map (some mb43))) X X<|U X zdF X zW X X<|E (j := 3) st89.sub (hc78.up le86) X X X zaw X<|U X zdF X zT X X<|zab (j := 4) st89.sub (hc78.up le86) (us := [strV (y.head.stem), .int .u8 (y.head.mark)]) X X zbl zT X X X<|zey (i := 0) st89 hM_8 X hN_8 (key_str zaz) Tryz.underlying186 X (k := (y.word)) X (u := y.head) X<|fun o105 w106 _ e107 f108 nd109 st110=> ?_
    subst e107
    refine zt<|zP<|O<|zo<|zaP X X t_om X<|zk X X<|Y ?_
    refine ⟨⟨i + 1, (putM m y.word y.head), v_9, o_9, o105, h85⟩, ⟨rfl, rfl, trivial⟩, ?_, ⟨((le57.trans le76).trans le86), st110.take 2, ?_, ?_, ?_, ?_, ?_⟩, ?_⟩
    ·exact zav
    ·refine OSl.to (hO_9.up (le76.trans le86)) ?_
     rw [homsN_succ hy, homAt_no hm (fun _ => by simpa using c91), List.append_nil]
    ·have q := f108
     exact q
    ·have q := nd109
     exact q
    ·first | omega | (simp; omega)
    ·exact hom_put hy hm (fun _ => by simpa using c91)
    show (zbt t x).length - ((i + 1)) < (zbt t x).length - i
    omega
   refine Z X X X X X<|Z X X X X X<|Z X X X X X<|Z X X X X X<|zX (v := (.bool _)) X X X<|Y ?_
   refine zad rfl (fun c111 => ?_) (fun c111 => ?_)
   ·
    cases c111
   refine zo<|zaa (v := (.map (some mb43))) X X<|U X zdF X zW X X<|E (j := 3) st89.sub (hc78.up le86) X X X zaw X<|U X zdF X zT X X<|zab (j := 4) st89.sub (hc78.up le86) (us := [strV (y.head.stem), .int .u8 (y.head.mark)]) X X zbl zT X X X<|zey (i := 0) st89 hM_8 X hN_8 (key_str zaz) Tryz.underlying186 X (k := (y.word)) X (u := y.head) X<|fun o112 w113 _ e114 f115 nd116 st117=> ?_
   subst e114
   refine zt<|zP<|O<|zo<|zaP X X t_om X<|zk X X<|Y ?_
   refine ⟨⟨i + 1, (putM m y.word y.head), v_9, o_9, o112, h85⟩, ⟨rfl, rfl, trivial⟩, ?_, ⟨((le57.trans le76).trans le86), st117.take 2, ?_, ?_, ?_, ?_, ?_⟩, ?_⟩
   ·exact zav
   ·refine OSl.to (hO_9.up (le76.trans le86)) ?_
    rw [homsN_succ hy, homAt_no hm (fun q => by rw [g90] at q; cases q), List.append_nil]
   ·have q := f115
    exact q
   ·have q := nd116
    exact q
   ·first | omega | (simp; omega)
   ·exact hom_put hy hm (fun q => by rw [g90] at q; cases q)
   show (zbt t x).length - ((i + 1)) < (zbt t x).length - i
   omega
  refine zaC<|zh<|zh<|zah<|O<|W.sr<|zaa (v := v_9) X X ?_
  have con := sort1 (L := LStr) (T := 9) (f := 119) strV (by rintro _ _ _ ⟨rfl, _⟩; rfl) rfl (fun l => l.mergeSort fun a b => decide (a ≤ b)) (fun l => List.mergeSort_perm _ _) (fun blk off cap zs w hH hb hs => Tryz.slices_Sort_string blk off cap zs w hH hb hs) (fun p cap w => Tryz.slices_Sort_string_none p cap w) (i := 1) st58 hO_9 rfl (by have q := zhl (zbt t x) i; first | omega | (simp only [List.length_mergeSort]; omega))
  refine zaT rfl rfl (zbc rfl Tryz.call119 rfl) (con.mono ?_)
  rintro _ w118 ⟨rfl, o119, _, e120, f121, st122⟩
  subst e120
  refine ⟨_, rfl, ?_⟩
  clear con
  refine Y<|W.sr<|zaa (v := v_9) X X ?_
  have st130 := st122.sublist (own' := [o119]) (.cons _ (.cons_cons _ (.slnil)))
  have con := zgs (rest := []) f121 (by have q := zhl (zbt t x) i; first | omega | (simp only [List.length_mergeSort]; omega)) st130
  refine zaT rfl rfl (zbc rfl Tryz.call120 rfl) (con.mono ?_)
  rintro _ w123 ⟨h124, o125, v126, rfl, le127, st128, f129⟩
  refine ⟨_, rfl, ?_⟩
  clear con
  have f131 := OSl.to f129 (show _ = (setL sLt (zhd (zbt t x) (zbt t x).length)) from by rw [show i = (zbt t x).length by omega]; exact setOf_sort _)
  refine zaj (v := v126) X X<|zz X X<|Y<|zB<|zbs Tryz.results84 ?_
  refine ⟨h124, v126, _, congrArg Ending.returned (tup2 rfl (zar ?_)), (((l45.trans le49).trans le57).trans le127), st128.sublist (own' := [o125]) (.cons_cons _ (.slnil)), OSl.to f131 ?_⟩
  ·exact hx0.symm
  simp [homR, hx0]
 simp only [hb20, if_true, if_false, Bool.false_eq_true, reduceIte] at q19
 obtain ⟨v132, rfl, f133⟩ := q19
 obtain rfl := f133
 refine zdu X X<|zak (v := (.pointer none)) X X X<|zak (v := (.int _ _)) X X X<|zaj X X<|zz X X<|Y<|zj<|W.sr<|zk X X<|zcF X X X<|Y ?_
 refine zH rfl (fun c134 => ?_) (fun c134 => ?_)
 ·
  refine W.sr<|zk X X<|zcz X X<|zz X X<|Y<|zB<|zd<|zbs Tryz.results84 ?_
  have st135 := st18.snoc
  have f136 := OSl.nil LStr 9 h16
  refine ⟨h16, (.slice none 0 0), _, congrArg Ending.returned (tup2 rfl (zar ?_)), (l13.trans le17), st135.sublist (own' := [[]]) (.cons_cons _ (.slnil)), OSl.to f136 ?_⟩
  all_goals simp_all [homR]
 exfalso
 simp_all
theorem c_vote_Moot_1 {h : Heap} {w : World} (hs : Sub h w) (wd : Str) (wd_le : wd.length ≤ 281474976710656) {still_b : Nat} {still_v : Value} {still : List (Str × Bool)} (still_f : FM strV (fun b : Bool => .bool b) h still still_v) (still_c : Cells h still_b 0 [still_v]) : Calls Tryz.prog 87 #[strV wd, .pointer (some ⟨still_b, 0, none⟩)] w (Rets h w (fun _ _ res_ => res_ = .bool (((look still wd).getD false)))) := by
 refine zS (n := 7) Tryz.func87 X X X<|have st0:=t_s0 hs;W.sr<|zJ X X<|Y<|W.sr<|E (j := 0) st0.sub still_c X X X Tryz.isAgg137 X<|zbX X X<|zq X X (r_look_fm (k := wd) (zu := false) (key_str zaz) Tryz.underlying137 still_f st0.sub Tryz.zeroValue4 X X X)<|zJ X X<|Y<|zB<|zc Tryz.results87 ?_
 refine ⟨h, _, rfl, st0.done, ?_⟩
 refine zw ?_
 rfl
set_option maxHeartbeats 4000000 in
theorem c_vote_Moot {h : Heap} {w : World} (hs : Sub h w) {p : Poll} {p_v0 : Value} (p_f0 : Sl LChapter h p_v0 p.text.chapters) {p_v1 : Value} (p_f1 : Sl LRule h p_v1 p.lexicon.rules) {p_v2 : Value} (p_f2 : Sl LDecision h p_v2 p.lexicon.decisions) {p_v3 : Value} (p_f3 : Sl LQuestion h p_v3 p.questions) {p_v4 : Value} (p_f4 : Sl LVoter h p_v4 p.voters) (K1 : Cells h 1 0 Tryz.glob1) (K0 : Cells h 0 0 Tryz.glob0) : Calls Tryz.prog 29 #[.agg #[p_v0, p_v1, p_v2, p_v3, p_v4]] w (Rets h w (fun h' _ res_ => ∃ u0, res_ = .tuple #[u0, .int .i64 (allE p true)] ∧ Sl LStr h' u0 ((mootR p)))) := by
 refine zS (n := 69) Tryz.func29 X X X<|have st0:=t_s0 hs;have p_f0_b:=p_f0.le;have p_f1_b:=p_f1.le;have p_f2_b:=p_f2.le;have p_f3_b:=p_f3.le;have p_f4_b:=p_f4.le;W.sr<|zG st0 (cs := [p_v0, p_v1, p_v2, p_v3, p_v4]) X X X<|fun b1 w2 h3 le4 hc5 st6=>zcz X X<|zz X X<|Y<|W.sr<|zy st6.sub hc5 X zbV zbm X X<|zn st6 X X X Tryz.call54 X (c_vote_all st6.sub (p := p) (p_f0.up le4) (p_f1.up le4) (p_f2.up le4) (p_f3.up le4) (p_f4.up le4) _ (K1.up le4) (K0.up le4))<|fun r7 w8 h9 le10 st11 q12=> ?_
 obtain ⟨v13, rfl, f14⟩ := q12
 have f14_b := f14.le
 refine zdu X X<|zak (v := v13) X X X<|zak (v := (.int _ _)) X X X<|zaj (v := v13) X X<|zz X X<|Y<|zj<|W.sr<|zk X X<|zcF X X X<|Y ?_
 refine zH rfl (fun c15 => ?_) (fun c15 => ?_)
 ·
  refine W.sr<|zk X X<|zcz X X<|zz X X<|Y<|zB<|zd<|zbs Tryz.results29 ?_
  refine ⟨h9, _, rfl, st11.done, ?_⟩
  refine ⟨_, tup2 rfl (zar ?_), Sl.to (Sl.nil _ _) ?_⟩
  all_goals (simp_all [mootR])
 refine zC<|O<|zj ?_
 have hz0 : allE p true = 0 := by simpa using c15
 obtain ⟨hk1, hk2, hk3, hk4⟩ := all_ok hz0
 have hk5 := List.length_pos_iff.2 hk3
 have hk6 : (allL p true).length = (zas p).length := by rw [hk4]
 have hk7 := zih (zdj hk1).2
 have hk8 := zeh (zdj hk1).2
 have hpb := (zdj hk1).2
 have hx0 := (zdj hk1).1
 have ht0 := zcx hx0
 have hhl := homR_len hx0
 refine zo<|U X zx X zac X X<|zab (j := 0) st11.sub (hc5.up le10) (us := [p_v0]) X X zaO zac X X X<|U X zx X zR X X<|zab (j := 1) st11.sub (hc5.up le10) (us := [p_v1, p_v2]) X X zaK zR X X X ?_
 have l16 := le4.trans le10
 refine zaT rfl rfl (zbc rfl Tryz.call84 rfl) ((c_stem_Homographs_own st11.sub (t := p.text) (p_f0.up l16) (x := p.lexicon) (p_f1.up l16) (p_f2.up l16) (K1.up l16)).mono ?_)
 rintro _ w17 ⟨h18, v22, o23, rfl, le19, s21, f24⟩
 refine ⟨_, rfl, ?_⟩
 have st20 := st11.call s21
 refine zdu X X<|zak (v := v22) X X X<|zak (v := (.int _ _)) X X X<|zaj (v := v22) X X<|zz X X<|Y<|W.sr<|zgq (κ := Str) (υ := Bool) (ek := strV) (eu := (fun b : Bool => .bool b)) st20 X<|fun v25 o26 w27 f28 st29=> ?_
 obtain ⟨mb30, rfl⟩ := f28.form
 have nd31 : (([] : List (Str × Bool)).map (·.1)).Nodup := by simp
 refine zae st29 Tryz.zeroValue137 X X<|fun b32 w33 st34=>zbR st34 (k := 2) X X (v := (.map (some mb30))) X f28.one Tryz.sizeOf137 X X X<|fun w35 st36=> ?_
 obtain ⟨h37, le38, hb39, st41⟩ := st36.freeze (k := 2) rfl
 have hc40 := Cells.of hb39
 refine Y<|zj<|W.sr<|zaa (v := v22) X X<|zeu (f24.up le38) X zA X<|zk X X<|Y<|zF ?_
 refine zat ([10] ++ t_rg 34 7) (G := Nat × List (Str × Bool) × List (Nat × Obj) × Heap) (fun ⟨k, m, o_31, h42⟩ => [(34, .int .i64 (k : Int))]) (fun ⟨k, m, o_31, h42⟩ w' => Le h37 h42 ∧ St h w h42 w' [o23, o_31, []] ∧ (OM strV (fun b : Bool => .bool b) (m) o_31 (.map (some mb30))) ∧ (((m).map (·.1)).Nodup) ∧ (k ≤ (homR p.text p.lexicon).length) ∧ (∀ w, look m w = if w ∈ (homR p.text p.lexicon).take k then some true else none)) (fun ⟨k, m, o_31, h42⟩ => (homR p.text p.lexicon).length - k) ⟨0, [], o26, h37⟩ ⟨rfl, trivial⟩ ⟨Le.refl _, st41, (by have q := f28; exact q), (by have q := nd31; exact q), zaM, (by intro w; simp [look])⟩ ?_
 rintro ⟨k, m, o_31, h42⟩ _ w45 ⟨le43, st44, hM_31, hN_31, hk, hm⟩
 refine W.sr<|zaV X X X<|Y<|zj ?_
 refine zH rfl (fun c46 => ?_) (fun c46 => ?_)
 ·
  refine zC<|O<|zj<|zF<|W.sr ?_
  obtain ⟨wd, hwd⟩ : ∃ y_, ((((homR (p.text) (p.lexicon)))))[k]? = some y_ := t_ge (by omega)
  obtain ⟨b47, o48, cur49, _, e52, he50, hr_wd, hc51⟩ := OSl.elem (f24.up (le38.trans le43)) hwd
  subst e52
  obtain ⟨rfl, ls53⟩ := hr_wd
  simp only [big] at ls53
  refine zV he50 X X (hk := X) (hu := zA) (hz := zW) X<|zq X X (zct (j := 0) (st44.get (k := 0) X) hc51 X X X zaw)<|zdR X X<|Y<|zo<|E (j := 0) st44.sub (hc40.up le43) X X X Tryz.isAgg137 X<|zbX X X<|zey (i := 1) st44 hM_31 X hN_31 (key_str zaz) Tryz.underlying137 X (k := wd) X (u := true) X<|fun o54 w55 _ e56 f57 nd58 st59=> ?_
  subst e56
  refine zt<|zP<|O<|zo<|zaP X X t_om X<|zk X X<|Y ?_
  refine ⟨⟨k + 1, (putM m wd true), o54, h42⟩, ⟨rfl, trivial⟩, ?_, ⟨le43, st59, ?_, ?_, ?_, ?_⟩, ?_⟩
  ·exact zav
  ·have q := f57
   exact q
  ·have q := nd58
   exact q
  ·first | omega | (simp; omega)
  ·exact still_put hwd hm
  show (homR p.text p.lexicon).length - ((k + 1)) < (homR p.text p.lexicon).length - k
  omega
 refine zaC<|zh<|zh<|zah<|O<|zj<|W.sr<|zaa (v := v13) X X ?_
 refine zn st44 rfl rfl rfl Tryz.call78 rfl (c_vote_settled st44.sub (f14.up ((le19.trans le38).trans le43)) (by omega) (by intro t_ ht_; rw [hk4] at ht_; exact zhi ht_) (by omega)) ?_
 intro r60 w61 h62 le63 st64 q65
 obtain ⟨v66, e68, f67⟩ := q65
 rw [← e68] at f67
 have f67_b := f67.le
 have f69 := Sl.to f67 (show _ = (zbK (zas p)) from by rw [hk4])
 have f69_b := f69.le
 refine zaJ f69 X zp X<|zk X X<|Y<|zF ?_
 refine zat ([11, 12, 13, 14] ++ t_rg 44 22) (G := Nat × List (Str × Bool) × List (Nat × Obj) × Heap) (fun ⟨k2, m2, o_31, h70⟩ => [(44, .int .i64 (k2 : Int))]) (fun ⟨k2, m2, o_31, h70⟩ w' => Le h62 h70 ∧ St h w h70 w' [o23, o_31, []] ∧ (OM strV (fun b : Bool => .bool b) (m2) o_31 (.map (some mb30))) ∧ (((m2).map (·.1)).Nodup) ∧ (k2 ≤ (zbK (zas p)).length) ∧ (∀ w, look m2 w = zgC (homR p.text p.lexicon) p (zbK (zas p)) k2 w)) (fun ⟨k2, m2, o_31, h70⟩ => (zbK (zas p)).length - k2) ⟨0, m, o_31, h62⟩ ⟨rfl, trivial⟩ ⟨Le.refl _, st64, (by have q := hM_31; exact q), (by have q := hN_31; exact q), zaM, (by exact still_zero (by omega) hm)⟩ ?_
 rintro ⟨k2, m2, o_31, h70⟩ _ w73 ⟨le71, st72, hM_31, hN_31, hk2, hm2⟩
 refine W.sr<|zaV X X X<|Y<|zj ?_
 refine zH rfl (fun c74 => ?_) (fun c74 => ?_)
 ·
  refine zC<|O<|zj<|zF<|W.sr<|zk X X ?_
  obtain ⟨ch, hch⟩ : ∃ y_, ((zbK (zas p)))[k2]? = some y_ := t_ge (by omega)
  obtain ⟨b75, o76, _, he78, hc77, hr_ch⟩ := Sl.elem (f69.up le71) hch
  obtain rfl := hr_ch
  refine zV he78 X X (hk := X) (hu := zp) (hz := zr) X<|E (j := 0) st72.sub hc77 X X X zN X<|zz X X<|zz X X<|Y<|zj ?_
  have hk9 : k2 < p.questions.length := by have q_ := set_len7 hk3; omega
  refine zbj Tryz.mixed t_kr (Cls h70 _) (Cls.drew st72)<|zD X zx X zac X X<|have l79:=((((le10.trans le19).trans le38).trans le43).trans le63).trans le71;zl X X (fun _ hC => (zbL (j := 0) hC.sub (hc5.up l79) (us := [p_v0]) X X zaO zac X X))<|zD X zx X zbd X X<|zl X X (fun _ hC => (ze (j := 3) hC.sub (hc5.up l79) X X X zbv))<|zbJ X X ?_
  obtain ⟨q, hq⟩ : ∃ y_, (p.questions)[k2]? = some y_ := t_ge (by omega)
  have l84 := ((((l16.trans le19).trans le38).trans le43).trans le63).trans le71
  obtain ⟨b80, o81, _, he83, hc82, hr_q⟩ := Sl.elem (p_f3.up l84) hq
  obtain ⟨v85, rfl, f86⟩ := hr_q
  have f86_b := f86.le
  refine zaG he83 X X (hk := X) (hu := zau) (hz := zbz) X<|zD X zam X zO X X<|zl X X (fun _ hC => (zbL (j := 0) hC.sub hc82 (us := [.int .i64 (q.at_.chapter), .int .i64 (q.at_.line), .int .i64 (q.at_.word)]) X X zaD zO X X)) ?_
  refine zbU rfl rfl (fun _ => zbc rfl Tryz.call85 rfl) (fun _ hC => Rets.quiet hC (by have con := (zgJ hC.sub (t := p.text) (p_f0.up l84) (p := q.at_)); rw [at_word ht0, at_err ht0 (poll_quest hpb hq).1] at con; exact con)) ?_
  refine u_mvT X X<|u_extract (v := (strV _)) X X X<|u_extract (v := (.int _ _)) X X X<|u_asS X X<|u_asI X X<|zaN ?_
  rintro w87 ⟨h88, s89⟩
  have st90 := st72.call0 s89
  refine O<|W.sr<|zk X X<|zaV X X X<|Y ?_
  refine zH rfl (fun c91 => ?_) (fun c91 => ?_)
  ·
   refine zo<|have l92:=((le43.trans le63).trans le71).trans s89.le;E (j := 0) st90.sub (hc40.up l92) X X X Tryz.isAgg137 X<|zbX X X<|OpsL.mapDelete (i := 1) st90 hM_31 X hN_31 (key_str zaz) Tryz.underlying137 X (k := ((zbC p.text q.at_))) X<|fun o93 w94 _ e95 f96 nd97 st98=> ?_
   subst e95
   refine zt<|zP<|O<|zo<|zaP X X t_om X<|zk X X<|Y ?_
   refine ⟨⟨k2 + 1, (delM m2 (zbC p.text q.at_)), o93, h88⟩, ⟨rfl, trivial⟩, ?_, ⟨(le71.trans s89.le), st98, ?_, ?_, ?_, ?_⟩, ?_⟩
   ·exact zav
   ·have q := f96
    exact q
   ·have q := nd97
    exact q
   ·first | omega | (simp; omega)
   ·exact still_del hq hch c91 hm2
   show (zbK (zas p)).length - ((k2 + 1)) < (zbK (zas p)).length - k2
   omega
  refine zC<|zP<|O<|zo<|zaP X X t_om X<|zk X X<|Y ?_
  refine ⟨⟨k2 + 1, m2, o_31, h88⟩, ⟨rfl, trivial⟩, ?_, ⟨(le71.trans s89.le), st90, ?_, ?_, ?_, ?_⟩, ?_⟩
  ·exact zav
  ·have q := hM_31
   exact q
  ·have q := hN_31
   exact q
  ·first | omega | (simp; omega)
  ·exact still_skip hq hch c91 hm2
  show (zbK (zas p)).length - ((k2 + 1)) < (zbK (zas p)).length - k2
  omega
 refine zaC<|zh<|zh<|zah<|O<|zj ?_
 obtain ⟨h99, le100, f101, st102⟩ := OM.freeze (k := 1) st72 hM_31 rfl
 refine zo<|zaa (v := v22) X X<|zdl X X X ?_
 have st103 := st102.take 1
 have con := zfN (rest := []) (f24.up ((((le38.trans le43).trans le63).trans le71).trans le100)) (g := 87) (caps := [.pointer (some ⟨b32, 0, none⟩)]) (fun x_ => ((look (m2) (x_)).getD false)) (by omega) Tryz.call87 (fun x_ h_ w_ vs_ le_ hs_ hx_ hr_ u_ hu_ => by cases hu_; obtain ⟨hr1_, hr2_⟩ := hr_; cases hr1_; simp only [big] at hr2_; exact c_vote_Moot_1 hs_ _ hr2_ (f101.up le_) ((hc40.up (((le43.trans le63).trans le71).trans le100)).up le_)) st103
 refine zaT rfl rfl (zbc rfl Tryz.call86 rfl) (con.mono ?_)
 rintro _ w104 ⟨h105, o106, v107, rfl, le108, st109, f110⟩
 refine ⟨_, rfl, ?_⟩
 clear con
 refine zaj (v := v107) X X<|zz X X<|Y<|zB<|zbs Tryz.results29 ?_
 obtain ⟨h111, le112, f113, st114⟩ := OSl.freeze (k := 0) st109 f110 rfl (by refine Nat.le_trans (List.length_filter_le _ _) ?_; omega)
 refine ⟨h111, _, rfl, st114.done, ?_⟩
 refine ⟨_, tup2 rfl (zar ?_), Sl.to f113 ?_⟩
 all_goals first | (simp_all [mootR]; done) | (rw [mootR, if_pos hz0]; rw [show (zbK (zas p)).length = k2 by omega]; exact still_filter hm2)
end Go.Pk

namespace Go.Pk
open Go Go.RowKit Go.Proofs
set_option maxHeartbeats 4000000 in
theorem zhN {h : Heap} {w : World} (hs : Sub h w) {p : Poll} {p_v0 : Value} (p_f0 : Sl LChapter h p_v0 p.text.chapters) {p_v1 : Value} (p_f1 : Sl LRule h p_v1 p.lexicon.rules) {p_v2 : Value} (p_f2 : Sl LDecision h p_v2 p.lexicon.decisions) {p_v3 : Value} (p_f3 : Sl LQuestion h p_v3 p.questions) {p_v4 : Value} (p_f4 : Sl LVoter h p_v4 p.voters) (K1 : Cells h 1 0 Tryz.glob1) (K0 : Cells h 0 0 Tryz.glob0) : Calls Tryz.prog 4 #[.agg #[p_v0, p_v1, p_v2, p_v3, p_v4]] w (Rets h w (fun _ _ res_ => res_ = .bool (true))) := by
 refine zS (n := 91) Tryz.func4 X X X<|have st0:=t_s0 hs;have p_f0_b:=p_f0.le;have p_f1_b:=p_f1.le;have p_f2_b:=p_f2.le;have p_f3_b:=p_f3.le;have p_f4_b:=p_f4.le;W.sr<|zG st0 (cs := [p_v0, p_v1, p_v2, p_v3, p_v4]) X X X<|fun b1 w2 h3 le4 hc5 st6=>zJ X X<|Y<|zj<|W.sr<|zy st6.sub hc5 X zbV zbm X X<|zn st6 X X X Tryz.call15 X (c_postilref07_Great st6.sub (p := p) (p_f0.up le4) (p_f1.up le4) (p_f2.up le4) (p_f3.up le4) (p_f4.up le4))<|fun r7 w8 h9 le10 st11 q12=> ?_
 obtain rfl := q12
 refine Y ?_
 refine zad rfl (fun c13 => ?_) (fun c13 => ?_)
 ·
  refine W.sr<|zJ X X<|Y<|zB<|zd<|zc Tryz.results4 ?_
  refine ⟨h9, _, rfl, st11.done, ?_⟩
  refine zw ?_
  simp_all
 refine zC<|O<|W.sr<|zy st11.sub (hc5.up le10) X zbV zbm X X ?_
 have l14 := le4.trans le10
 refine zn st11 rfl rfl rfl Tryz.call16 rfl (c_postilref07_Twin st11.sub (p := p) (p_f0.up l14) (p_f1.up l14) (p_f2.up l14) (p_f3.up l14) (p_f4.up l14) (by simpa using c13)) ?_
 intro r15 w16 h17 le18 st19 q20
 obtain ⟨v21, v23, v25, v27, v29, rfl, f22, f24, f26, f28, f30⟩ := q20
 have f22_b := f22.le
 have f24_b := f24.le
 have f26_b := f26.le
 have f28_b := f28.le
 have f30_b := f30.le
 refine zae st19 Tryz.zeroValue32 X X<|fun b31 w32 st33=>zM st33 (k := 0) X X X (za f22.one (za f24.one (za f26.one (za f28.one (za f30.one zap))))) zbm X X X<|fun w34 st35=> ?_
 obtain ⟨h36, le37, hb38, st40⟩ := st35.freeze (k := 0) rfl
 have hc39 := Cells.of hb38
 refine Y<|W.sr<|zy st40.sub hc39 X zbV zbm X X ?_
 have l41 := (l14.trans le18).trans le37
 refine zaT rfl rfl (zbc rfl Tryz.call27 rfl) ((c_vote_Decide st40.sub (p := (p)) (f22.up le37) (f24.up le37) (f26.up le37) (f28.up le37) (f30.up le37) (K1.up l41) (K0.up l41)).mono ?_)
 rintro _ w42 ⟨h43, v47, v50, o48, o51, rfl, le44, s46, f49, f52⟩
 refine ⟨_, rfl, ?_⟩
 have st45 := st40.call s46
 refine zdu X X<|zak (v := (.agg (List.toArray _))) X X X<|zak (v := (.int _ _)) X X X<|zae st45 zcR X X<|fun b53 w54 st55=>zM st55 (k := 3) X X X (za f49.one (za f52.one zap)) zR X X X<|fun w56 st57=> ?_
 obtain ⟨h58, le59, hb60, st62⟩ := st57.freeze (k := 3) rfl
 have hc61 := Cells.of hb60
 refine zz X X<|Y<|W.sr<|have l63:=(((le10.trans le18).trans le37).trans le44).trans le59;zy st62.sub (hc5.up l63) X zbV zbm X X<|have l64:=(l41.trans le44).trans le59;zn st62 X X X Tryz.call28 X (c_postilref07_Decide st62.sub (p := p) (p_f0.up l64) (p_f1.up l64) (p_f2.up l64) (p_f3.up l64) (p_f4.up l64))<|fun r65 w66 h67 le68 st69 q70=> ?_
 obtain ⟨v71, v73, rfl, f72, f74⟩ := q70
 have f72_b := f72.le
 have f74_b := f74.le
 refine zdu X X<|zak (v := (.agg (List.toArray _))) X X X<|zak (v := (.int _ _)) X X X<|zae st69 zcR X X<|fun b75 w76 st77=>zM st77 (k := 4) X X X (za f72.one (za f74.one zap)) zR X X X<|fun w78 st79=> ?_
 obtain ⟨h80, le81, hb82, st84⟩ := st79.freeze (k := 4) rfl
 have hc83 := Cells.of hb82
 refine zz X X<|Y<|W.sr<|have l85:=((le44.trans le59).trans le68).trans le81;zy st84.sub (hc39.up l85) X zbV zbm X X<|have l86:=(((le37.trans le44).trans le59).trans le68).trans le81;have l87:=(l64.trans le68).trans le81;zn st84 X X X Tryz.call29 X (c_vote_Moot st84.sub (p := (p)) (f22.up l86) (f24.up l86) (f26.up l86) (f28.up l86) (f30.up l86) (K1.up l87) (K0.up l87))<|fun r88 w89 h90 le91 st92 q93=> ?_
 obtain ⟨v94, rfl, f95⟩ := q93
 have f95_b := f95.le
 refine zdu X X<|zak (v := v94) X X X<|zak (v := (.int _ _)) X X X<|zaj (v := v94) X X<|zz X X<|Y<|W.sr<|have l96:=((l63.trans le68).trans le81).trans le91;zy st92.sub (hc5.up l96) X zbV zbm X X<|have l97:=l87.trans le91;zn st92 X X X Tryz.call30 X (c_postilref07_Moot st92.sub (p := p) (p_f0.up l97) (p_f1.up l97) (p_f2.up l97) (p_f3.up l97) (p_f4.up l97))<|fun r98 w99 h100 le101 st102 q103=> ?_
 obtain ⟨v104, rfl, f105⟩ := q103
 have f105_b := f105.le
 refine zdu X X<|zak (v := v104) X X X<|zak (v := (.int _ _)) X X X<|zaj (v := v104) X X<|zz X X<|Y<|W.sr<|have l106:=((le68.trans le81).trans le91).trans le101;zy st102.sub (hc61.up l106) X zaK zR X X<|zy st102.sub (hc83.up (le91.trans le101)) X zaK zR X X ?_
 have ha107 := zhm st102.sub
 have l109 := (((le59.trans le68).trans le81).trans le91).trans le101
 have f108 := (OSl.whole (k := 1) st102 (f49.up l109) rfl (by first | exact decide_len1 p | exact decide_len2 p)).2
 have f110 := (OSl.whole (k := 2) st102 (f52.up l109) rfl (by first | exact decide_len1 p | exact decide_len2 p)).2
 have l111 := ((le81.trans le91).trans le101).trans ha107
 refine zn st102 X X X Tryz.call31 X (Rets.thaw st102.sub (zhG (zfc _) (a := (Lexicon.mk (((zcH ((p)))).rules) (((zcH ((p)))).decisions))) f108 f110 (b := (zcH (p))) (f72.up l111) (f74.up l111)))<|fun r112 w113 h114 le115 st116 q117=> ?_
 obtain rfl := q117
 refine zai X X ?_
 refine zaY (d := 42) rfl (fun g118 => ?_) (fun g118 => ?_)
 ·
  refine M X X X<|zk X X<|M X X X<|zk X X<|M X X X<|zee X X X<|zaf (v := (.bool _)) X X X<|zai X X ?_
  refine zaB (d := 47) rfl (fun g119 => ?_) (fun g119 => ?_)
  ·
   refine M X X X<|zaa (v := v94) X X<|M X X X<|zaa (v := v104) X X<|M X X X<|zn st116 X X X Tryz.call32 X (zfZ st116.sub (f95.up (le101.trans le115)) (f105.up le115))<|fun r120 w121 h122 le123 st124 q125=> ?_
   obtain rfl := q125
   refine zaf (v := (.bool _)) X X X<|zai X X ?_
   refine zaY (d := 52) rfl (fun g126 => ?_) (fun g126 => ?_)
   ·
    refine M X X X<|zk X X<|M X X X<|zk X X<|M X X X<|zee X X X<|zaf (v := (.bool _)) X X X<|zJ X X<|Y<|zj<|W.sr<|U X zQ X zbP X X<|E (j := 0) st124.sub (hc61.up ((l106.trans le115).trans le123)) X X X zcs X<|zeu (f49.up ((l109.trans le115).trans le123)) X zaX X<|zk X X<|Y<|zF ?_
    refine zat ([13] ++ t_rg 60 9) (G := Nat × List Rule × List (Nat × Obj) × Heap) (fun ⟨i, ys, o_k1, h127⟩ => [(60, .int .i64 (i : Int))]) (fun ⟨i, ys, o_k1, h127⟩ w' => Le h122 h127 ∧ St h w h127 w' [[], o_k1, o51, [], []] ∧ (OSl LRule 68 h127 v47 (ys) o_k1) ∧ (ys.length = (zcH p).rules.length) ∧ (i ≤ ys.length)) (fun ⟨i, ys, o_k1, h127⟩ => ys.length - i) ⟨0, (zcH p).rules, o48, h122⟩ ⟨rfl, trivial⟩ ⟨Le.refl _, st124, (OSl.to (f49.up ((l109.trans le115).trans le123)) (by rfl)), (by rfl), zaM⟩ ?_
    rintro ⟨i, ys, o_k1, h127⟩ _ w130 ⟨le128, st129, hO_k1, hl, hi⟩
    refine W.sr<|zaV X X X<|Y<|zj ?_
    refine zH rfl (fun c131 => ?_) (fun c131 => ?_)
    ·
     refine zC<|O<|zj<|zF<|W.sr<|zk X X<|zz X X<|Y<|zo<|U X zQ X zbP X X<|have l132:=((l106.trans le115).trans le123).trans le128;E (j := 0) st129.sub (hc61.up l132) X X X zcs X<|zk X X ?_
     obtain ⟨r, hr⟩ : ∃ y_, (ys)[i]? = some y_ := t_ge (by omega)
     obtain ⟨b133, o134, cur135, _, e138, he136, hr_r, hc137⟩ := OSl.elem hO_k1 hr
     subst e138
     obtain ⟨rfl, ls139, ls140⟩ := hr_r
     simp only [big] at ls139
     simp only [big] at ls140
     refine zV he136 X X (hk := X) (hu := zaX) (hz := zcr) X<|U X zbo X zr X X ?_
     refine OpsL.storeElF (j := 2) (k := 1) (y1 := { r with least := 5 }) st129 hO_k1 rfl hr he136 rfl rfl rfl rfl rfl (by rintro _ ⟨rfl, f0_, f1_⟩; exact ⟨rfl, f0_, f1_⟩) zr ?_
     intro o141 w142 _ e143 f144 st145
     subst e143
     refine zt<|zP<|O<|zo<|zaP X X t_om X<|zk X X<|Y ?_
     refine ⟨⟨i + 1, (ys.set i { r with least := 5 }), o141, h127⟩, ⟨rfl, trivial⟩, ?_, ⟨le128, st145, ?_, ?_, ?_⟩, ?_⟩
     ·exact zav
     ·refine OSl.to f144 ?_
      rfl
     ·rw [List.length_set]; exact hl
     ·rw [List.length_set]; omega
     show (((ys.set i { r with least := 5 }))).length - ((i + 1)) < ys.length - i
     rw [List.length_set]; omega
    refine zaC<|zh<|zh<|zah<|O<|zj<|W.sr<|U X zQ X zaS X X<|have l146:=((l106.trans le115).trans le123).trans le128;E (j := 1) st129.sub (hc61.up l146) X X X zbr X<|have l147:=((l109.trans le115).trans le123).trans le128;zeu (f52.up l147) X zU X<|zk X X<|Y<|zF ?_
    refine zat ([14] ++ t_rg 72 13) (G := Nat × List Decision × List (Nat × Obj) × Heap) (fun ⟨i, ys, o_k2, h148⟩ => [(72, .int .i64 (i : Int))]) (fun ⟨i, ys, o_k2, h148⟩ w' => Le h127 h148 ∧ St h w h148 w' [[], o_k1, o_k2, [], []] ∧ (OSl LDecision 74 h148 v50 (ys) o_k2) ∧ (ys.length = (zcH p).decisions.length) ∧ (i ≤ ys.length) ∧ (∀ (j : Nat) (e : Decision), i ≤ j → ys[j]? = some e → 1 ≤ e.number ∧ e.number ≤ 999)) (fun ⟨i, ys, o_k2, h148⟩ => ys.length - i) ⟨0, (zcH p).decisions, o51, h127⟩ ⟨rfl, trivial⟩ ⟨Le.refl _, st129, (OSl.to (f52.up l147) (by rfl)), (by rfl), zaM, (by exact decide_num p)⟩ ?_
    rintro ⟨i, ys, o_k2, h148⟩ _ w151 ⟨le149, st150, hO_k2, hl, hi, hb⟩
    refine W.sr<|zaV X X X<|Y<|zj ?_
    refine zH rfl (fun c152 => ?_) (fun c152 => ?_)
    ·
     refine zC<|O<|zj<|zF<|W.sr<|zk X X<|zz X X<|Y<|zo<|U X zQ X zaS X X<|E (j := 1) st150.sub (hc61.up (l146.trans le149)) X X X zbr X<|zk X X ?_
     obtain ⟨e, he⟩ : ∃ y_, (ys)[i]? = some y_ := t_ge (by omega)
     obtain ⟨b153, o154, cur155, _, e158, he156, hr_e, hc157⟩ := OSl.elem hO_k2 he
     subst e158
     obtain ⟨rfl, lu159, ls160, ls161, lu162⟩ := hr_e
     simp only [big] at ls160
     simp only [big] at ls161
     refine zV he156 X X (hk := X) (hu := zU) (hz := zK) X<|U X zi X zr X X<|zq X X (zct (j := 0) (st150.get (k := 2) X) hc157 X X X zN) ?_
     refine zq rfl rfl (zij rfl rfl (by have q_ := hb i e (Nat.le_refl _) he; omega)) ?_
     obtain ⟨b163, o164, cur165, _, e168, he166, hr_e, hc167⟩ := OSl.elem hO_k2 he
     obtain ⟨hb169, hc170⟩ : b153 = b163 ∧ cur155 = cur165 := by cases e168; exact ⟨rfl, rfl⟩
     subst hb169
     subst hc170
     obtain ⟨rfl, lu171, ls172, ls173, lu174⟩ := hr_e
     simp only [big] at ls172
     simp only [big] at ls173
     refine zV he166 X X (hk := X) (hu := zU) (hz := zK) X<|U X zi X zr X X ?_
     refine OpsL.storeElF (j := 0) (k := 2) (y1 := { e with number := ((e.number) + 3) }) st150 hO_k2 rfl he he166 rfl rfl rfl rfl rfl (by rintro _ ⟨rfl, f1_, f2_, f6_, f7_⟩; exact ⟨rfl, f1_, f2_, f6_, f7_⟩) zr ?_
     intro o175 w176 _ e177 f178 st179
     subst e177
     refine zt<|zP<|O<|zo<|zaP X X t_om X<|zk X X<|Y ?_
     refine ⟨⟨i + 1, (ys.set i { e with number := e.number + 3 }), o175, h148⟩, ⟨rfl, trivial⟩, ?_, ⟨le149, st179, ?_, ?_, ?_, ?_⟩, ?_⟩
     ·exact zav
     ·refine OSl.to f178 ?_
      rfl
     ·rw [List.length_set]; exact hl
     ·rw [List.length_set]; omega
     ·intro j_ e_ hj_ he_; rw [List.getElem?_set_ne (by omega)] at he_; exact hb j_ e_ (by omega) he_
     show (((ys.set i { e with number := e.number + 3 }))).length - ((i + 1)) < ys.length - i
     rw [List.length_set]; omega
    refine zaC<|zh<|zh<|zah<|O<|W.sr<|zai X X<|zai X X ?_
    refine zaB (d := 86) rfl (fun g180 => ?_) (fun g180 => ?_)
    ·
     refine M X X X<|have l181:=(((((l85.trans le91).trans le101).trans le115).trans le123).trans le128).trans le149;zy st150.sub (hc39.up l181) X zbV zbm X X<|M X X X<|have l182:=((((l96.trans le101).trans le115).trans le123).trans le128).trans le149;zy st150.sub (hc5.up l182) X zbV zbm X X<|M X X X<|have l183:=(((((l86.trans le91).trans le101).trans le115).trans le123).trans le128).trans le149;have l184:=((((l97.trans le101).trans le115).trans le123).trans le128).trans le149;zn st150 X X X Tryz.call26 X (c_postilref07_Same st150.sub (a := (p)) (f22.up l183) (f24.up l183) (f26.up l183) (f28.up l183) (f30.up l183) (b := p) (p_f0.up l184) (p_f1.up l184) (p_f2.up l184) (p_f3.up l184) (p_f4.up l184))<|fun r185 w186 h187 le188 st189 q190=> ?_
     obtain rfl := q190
     refine zaf (v := (.bool _)) X X X<|zJ X X<|Y<|zB<|zc Tryz.results4 ?_
     refine ⟨h187, _, rfl, st189.done, ?_⟩
     refine zw ?_
     simp_all
    simp at g180
   simp at g126
  simp at g119
 simp at g118
end Go.Pk
