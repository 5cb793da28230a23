/- A PART OF THE PROOF: contracts of functions, each walked once (much of it printed by a program of the author's own). -/
import Derived.Test.YtjdbapoodefncaaGreatDoorT14
import Derived.Test.YtjdbapoodefncaaGreatDoorT4
import Derived.Test.YtjdbapoodefncaaGreatDoorT2
set_option linter.unusedSimpArgs false
set_option linter.unusedVariables false
set_option maxRecDepth 4000
namespace Go.Pk
open Go Go.RowKit Go.Proofs
set_option maxHeartbeats 4000000 in
theorem zke {h : Heap} {w : World} (hs : Sub h w) {p : Poll} {p_v0 : Value} (p_f0 : Sl LChapter h p_v0 p.text.chapters) {p_v1 : Value} (p_f1 : Sl LRule h p_v1 p.lexicon.rules) {p_v2 : Value} (p_f2 : Sl LDecision h p_v2 p.lexicon.decisions) {p_v3 : Value} (p_f3 : Sl LQuestion h p_v3 p.questions) {p_v4 : Value} (p_f4 : Sl LVoter h p_v4 p.voters) (K1 : Cells h 1 0 Tryz.glob1) (K0 : Cells h 0 0 Tryz.glob0) : Calls Tryz.prog 7 #[.agg #[p_v0, p_v1, p_v2, p_v3, p_v4]] w (Rets h w (fun _ _ res_ => res_ = .bool (true))) := by
 refine zS (n := 127) Tryz.func7 X X X<|have st0:=zbj hs;have p_f0_b:=p_f0.le;have p_f1_b:=p_f1.le;have p_f2_b:=p_f2.le;have p_f3_b:=p_f3.le;have p_f4_b:=p_f4.le;ze<|zI st0 (cs := [p_v0, p_v1, p_v2, p_v3, p_v4]) X X X<|fun b1 w2 h3 le4 hc5 st6=>zC X X<|Y<|ze<|zd st6 X X X Tryz.call10 X (zgj st6.sub (K1.up le4) (K0.up le4))<|fun r7 w8 h9 le10 st11 q12=> ?_;subst q12;refine zC X X<|Y<|zl<|ze<|zx st11.sub (hc5.up le10) X zbd zar X X<|have l13:=le4.t le10;zd st11 X X X Tryz.call26 X (zih st11.sub (p := p) (p_f0.up l13) (p_f1.up l13) (p_f2.up l13) (p_f3.up l13) (p_f4.up l13))<|fun r14 w15 h16 le17 st18 q19=> ?_;subst q19;refine zbt X X<|zV X X ?_;refine zas (d := 22) rfl (fun g20 => ?_) (fun g20 => ?_)
 ·refine zR 2 X<|zM (v := (.bool _)) X X X<|Y ?_;refine zai rfl (fun c21 => ?_) (fun c21 => ?_)
  ·refine ze<|zV X X<|zC X X<|Y<|zw<|zc<|zb Tryz.results7 ?_;refine ⟨h16, _, rfl, st18.done, ?_⟩;refine zt ?_
   first | rfl | (rcases hor with ⟨h1_, _⟩ | ⟨h1_, _⟩ <;> simp_all; done) | exact decide_eq_true (by rw [hmr, ← cntQ_all (q := (zgn p (zbT (zF p)) (zbT (zF p)).length)) (l := (zfh p.text p.lexicon)) (i := i) zq])
  cases c21
 refine Z X X X<|zV X X<|Z X X X<|zbt X X<|zN (v := (.bool _)) X X X<|Y ?_;refine zai rfl (fun c22 => ?_) (fun c22 => ?_)
 ·cases c22
 refine zy<|E<|zl ?_;obtain ⟨hsm, hk1⟩ : zhe p = true ∧ zbL p = 0 := by simpa using g20
 have hpb := (zcd hk1).2;have hpl := zcL hpb;have hx0 := (zcd hk1).1;have ht0 := zdF hx0;have hor := allE_or hk1;have hhl := homR_len hx0;refine zk<|zx st18.sub (hc5.up (le10.t le17)) X zbd zar X X<|have l23:=l13.t le17;zd st18 X X X Tryz.call23 X (c_vote_Moot st18.sub (p := p) (p_f0.up l23) (p_f1.up l23) (p_f2.up l23) (p_f3.up l23) (p_f4.up l23) (K1.up l23) (K0.up l23))<|fun r24 w25 h26 le27 st28 q29=> ?_;obtain ⟨v30, rfl, f31⟩ := q29;have f31_b := f31.le;refine zbS X X<|zz (v := v30) X X X<|zz (v := (.int _ _)) X X X<|zad (v := v30) X X<|zr X X<|Y<|ze<|zx st28.sub (hc5.up ((le10.t le17).t le27)) X zbd zar X X<|have l32:=l23.t le27;zd st28 X X X Tryz.call14 X (ziI st28.sub (p := p) (p_f0.up l32) (p_f1.up l32) (p_f2.up l32) (p_f3.up l32) (p_f4.up l32) (K1.up l32) (K0.up l32))<|fun r33 w34 h35 le36 st37 q38=> ?_;obtain ⟨v39, rfl, f40⟩ := q38;have f40_b := f40.le;refine zbS X X<|zz (v := v39) X X X<|zz (v := (.int _ _)) X X X<|zad (v := v39) X X<|zr X X<|Y<|ze<|U X zA X zay X X<|have l41:=((le10.t le17).t le27).t le36;zaf (j := 0) st37.sub (hc5.up l41) (us := [p_v0]) X X zbk zay X X X<|U X zA X zaF X X<|zaf (j := 1) st37.sub (hc5.up l41) (us := [p_v1, p_v2]) X X zbQ zaF X X X ?_;have l42 := l32.t le36;have con := (c_stem_Homographs st37.sub (t := p.text) (p_f0.up l42) (x := p.lexicon) (p_f1.up l42) (p_f2.up l42) (K1.up l42));rw [hx0] at con;refine zd st37 X X X Tryz.call36 X con<|fun r43 w44 h45 le46 st47 q48=> ?_;obtain ⟨v49, rfl, f50⟩ := q48;have f50_b := f50.le;clear con;refine zbS X X<|zz (v := v49) X X X<|zz (v := (.int _ _)) X X X<|zad (v := v49) X X<|zr X X<|Y<|zl<|ze<|zf X X<|zf X X<|zcl X X X<|zV X X ?_;refine zO (d := 48) rfl (fun g51 => ?_) (fun g51 => ?_)
 ·exfalso;have sure_ : (decide ((zco (p) true) ≠ (zco (p) true))) = false := by simp
  exact zgW sure_ g51
 refine Z X X X<|zf X X<|Z X X X<|zcl X X X<|zN (v := (.bool _)) X X X<|Y ?_;refine zai rfl (fun c52 => ?_) (fun c52 => ?_)
 ·exact absurd c52 (by decide)
 refine zy<|E<|zl<|ze<|zf X X<|zcl X X X<|Y ?_;refine zD rfl (fun c53 => ?_) (fun c53 => ?_)
 ·refine ze<|zV X X<|zV X X<|Z X X X<|zf X X<|Z X X X<|zcw X X X<|zM (v := (.bool _)) X X X<|zC X X<|Y<|zw<|zc<|zb Tryz.results7 ?_;refine ⟨h45, _, rfl, st47.done, ?_⟩;refine zt ?_
  first | rfl | (rcases hor with ⟨h1_, _⟩ | ⟨h1_, _⟩ <;> simp_all; done) | exact decide_eq_true (by rw [hmr, ← cntQ_all (q := (zgn p (zbT (zF p)) (zbT (zF p)).length)) (l := (zfh p.text p.lexicon)) (i := i) zq])
 refine zy<|E<|zl<|zl ?_;have hep : zco p true = 0 := by simpa using c53
 have hls := settledN_len hep;have hsq := settled_ok hep;have hmr : mootR p = (zfh p.text p.lexicon).filter (zgn p (zbT (zF p)) (zbT (zF p)).length) := by rw [mootR, if_pos hep]
 have hml := List.length_filter_le (zgn p (zbT (zF p)) (zbT (zF p)).length) (zfh p.text p.lexicon);rw [← hmr] at hml;have hsl : (zbT (zF p)).length = p.questions.length := by rw [← hsq]; exact hls
 refine zk<|zU (v := v39) X X<|zaG (f40.up le46) X zh X<|U X zA X zbi X X<|M (j := 3) st47.sub (hc5.up (l41.t le46)) X X X zbB X<|have l54:=l42.t le46;zaG (p_f3.up l54) X zao X<|zcl X X X<|Y ?_;refine zD rfl (fun c55 => ?_) (fun c55 => ?_)
 ·exfalso;have sure_ : (decide (((zdM (p)).length : Int) ≠ (p.questions.length : Int))) = false := by exact decide_eq_false zq
  exact zgW sure_ c55
 refine zy<|E<|ze<|zr X X<|Y<|zl<|ze<|zU (v := v49) X X<|zaG f50 X zT X<|zf X X<|Y<|zH ?_;refine zax ([2, 10] ++ zbU 12 6 ++ zbU 67 53) (G := Nat × Heap) (fun ⟨i, h56⟩ => [(10, .int .i64 (((cntQ (zgn p (zbT (zF p)) (zbT (zF p)).length) (zfh p.text p.lexicon) i) : Nat) : Int)), (67, .int .i64 (i : Int))]) (fun ⟨i, h56⟩ w' => Le h45 h56 ∧ St h w h56 w' [] ∧ (i ≤ (zfh p.text p.lexicon).length)) (fun ⟨i, h56⟩ => (zfh p.text p.lexicon).length - i) ⟨0, h45⟩ ⟨(zah (by simp [cntQ])), rfl, trivial⟩ ⟨Le.refl _, st47, zaU⟩ ?_;rintro ⟨i, h56⟩ _ w59 ⟨le57, st58, hi⟩;refine ze<|zaR X X X<|Y<|zl ?_;refine zD rfl (fun c60 => ?_) (fun c60 => ?_)
 ·refine zy<|E<|zl<|zH<|ze ?_;obtain ⟨wd, hwd⟩ : ∃ y_, ((zfh (p.text) (p.lexicon)))[i]? = some y_ := zby zq;obtain ⟨b61, o62, _, he64, hc63, hr_wd⟩ := Sl.elem (f50.up le57) hwd;obtain ⟨rfl, ls65⟩ := hr_wd;simp only [big] at ls65;refine zW he64 X X (hk := X) (hu := zT) (hz := zaj) X<|M (j := 0) st58.sub hc63 X X X zav X<|zfr X X<|Y<|ze<|zC X X<|Y<|zl<|ze<|U X zA X zbi X X<|M (j := 3) st58.sub (hc5.up ((l41.t le46).t le57)) X X X zbB X<|have l66:=l54.t le57;zaG (p_f3.up l66) X zao X<|zf X X<|Y<|zH ?_;refine zax ([2, 13, 14, 15, 16, 17] ++ zbU 74 29) (G := Nat × Heap) (fun ⟨k, h67⟩ => [(13, .bool (zgn p (zbT (zF p)) k wd)), (74, .int .i64 (k : Int))]) (fun ⟨k, h67⟩ w' => Le h56 h67 ∧ St h w h67 w' [] ∧ (k ≤ p.questions.length)) (fun ⟨k, h67⟩ => p.questions.length - k) ⟨0, h56⟩ ⟨(zt (by rfl)), rfl, trivial⟩ ⟨Le.refl _, st58, zaU⟩ ?_;rintro ⟨k, h67⟩ _ w70 ⟨le68, st69, hk⟩;refine ze<|zaR X X X<|Y<|zl ?_;refine zD rfl (fun c71 => ?_) (fun c71 => ?_)
  ·refine zy<|E<|zl<|zH<|ze<|zf X X ?_;obtain ⟨q, hq⟩ : ∃ y_, (p.questions)[k]? = some y_ := zby zq;have l76 := l66.t le68;obtain ⟨b72, o73, _, he75, hc74, hr_q⟩ := Sl.elem (p_f3.up l76) hq;obtain ⟨v77, rfl, f78⟩ := hr_q;have f78_b := f78.le;refine zW he75 X X (hk := X) (hu := zao) (hz := zbJ) X<|zx st69.sub hc74 X Tryz.isAgg68 zbJ X X<|zY st69 Tryz.zeroValue68 X X<|fun b79 w80 st81=>zr X X<|zP st81 (k := 0) X X X (za X (za X (za X (za f78.one zat)))) zbJ X X X<|fun w82 st83=> ?_;obtain ⟨h84, le85, hb86, st88⟩ := st83.freeze (k := 0) rfl;have hc87 := Cells.of hb86;refine Y<|ze<|U X zA X zay X X<|have l89:=(((l41.t le46).t le57).t le68).t le85;zaf (j := 0) st88.sub (hc5.up l89) (us := [p_v0]) X X zbk zay X X X<|U X zaD X zac X X<|zaf (j := 0) st88.sub hc87 (us := [.int .i64 (q.at_.chapter), .int .i64 (q.at_.line), .int .i64 (q.at_.word)]) X X zaP zac X X X ?_;have l90 := l76.t le85;have con := (zgP st88.sub (t := p.text) (p_f0.up l90) (p := q.at_));rw [at_word ht0, at_err ht0 (zeW hpb hq).1] at con;refine zd st88 X X X zhY X con<|fun r91 w92 h93 le94 st95 q96=> ?_;subst q96;clear con;refine zbS X X<|zz (v := (zK _)) X X X<|zz (v := (.int _ _)) X X X<|zfr X X<|zr X X<|Y<|zl<|ze<|zf X X<|zcl X X X<|Y ?_;refine zai rfl (fun c97 => ?_) (fun c97 => ?_)
   ·exact absurd c97 (by decide)
   refine zy<|E<|zk<|zV X X<|zV X X ?_;refine zas (d := 90) rfl (fun g98 => ?_) (fun g98 => ?_)
   ·refine zR 10 X<|zM (v := (.bool _)) X X X<|zC X X<|zp<|zQ<|E<|zk<|zaI X X zaM X<|zf X X<|Y ?_;refine ⟨⟨k + 1, h93⟩, ⟨?_, rfl, trivial⟩, ?_, ⟨((le68.t le85).t le94), st95.take 0, ?_⟩, ?_⟩
    ·exact zt (by first | (rw [hsq] at hch; rw [moot_at hq hch]; first | (simp_all; done) | (simp_all; intros; omega)) | (rw [moot_succ]; simp_all; done))
    ·exact zap
    ·first | omega | (simp; omega)
    show p.questions.length - ((k + 1)) < p.questions.length - k;omega
   refine Z X X X<|zU (v := v39) X X<|Z X X X<|zf X X<|Z X X X ?_;obtain ⟨ch, hch⟩ : ∃ y_, ((zdM (p)))[k]? = some y_ := zby zq;have l103 := (((le46.t le57).t le68).t le85).t le94;obtain ⟨b99, o100, _, he102, hc101, hr_ch⟩ := Sl.elem (f40.up l103) hch;subst hr_ch;refine zW he102 X X (hk := X) (hu := zh) (hz := zn) X<|Z X X X<|M (j := 0) st95.sub hc101 X X X zG X<|Z X X X<|zaR X X X<|Z X X X<|zV X X ?_;refine zO (d := 96) rfl (fun g104 => ?_) (fun g104 => ?_)
   ·refine Z X X X<|zcu X X<|Z X X X<|zcu X X<|Z X X X<|v_seql X X X<|Z X X X<|zM (v := (.bool _)) X X X<|zN (v := (.bool _)) X X X<|zC X X<|zp<|zQ<|E<|zk<|zaI X X zaM X<|zf X X<|Y ?_;refine ⟨⟨k + 1, h93⟩, ⟨?_, rfl, trivial⟩, ?_, ⟨((le68.t le85).t le94), st95.take 0, ?_⟩, ?_⟩
    ·exact zt (by first | (rw [hsq] at hch; rw [moot_at hq hch]; first | (simp_all; done) | (simp_all; intros; omega)) | (rw [moot_succ]; simp_all; done))
    ·exact zap
    ·first | omega | (simp; omega)
    show p.questions.length - ((k + 1)) < p.questions.length - k;omega
   refine zR 3 X<|Z X X X<|zN (v := (.bool _)) X X X<|zN (v := (.bool _)) X X X<|zC X X<|zp<|zQ<|E<|zk<|zaI X X zaM X<|zf X X<|Y ?_;refine ⟨⟨k + 1, h93⟩, ⟨?_, rfl, trivial⟩, ?_, ⟨((le68.t le85).t le94), st95.take 0, ?_⟩, ?_⟩
   ·exact zt (by first | (rw [hsq] at hch; rw [moot_at hq hch]; first | (simp_all; done) | (simp_all; intros; omega)) | (rw [moot_succ]; simp_all; done))
   ·exact zap
   ·first | omega | (simp; omega)
   show p.questions.length - ((k + 1)) < p.questions.length - k;omega
  refine zaH<|zm<|zm<|zam<|E<|zl<|ze<|zV X X<|zbt X X<|Y ?_;refine zai rfl (fun c105 => ?_) (fun c105 => ?_)
  ·refine zaH<|zm<|zam<|E<|zk<|zaI X X zaM X<|zf X X<|Y ?_;refine ⟨⟨i + 1, h67⟩, ⟨?_, rfl, trivial⟩, ?_, ⟨(le57.t le68), st69, ?_⟩, ?_⟩
   ·exact zah (by rw [cntQ_succ hwd]; first | (rw [if_pos hmq]; omega) | (rw [if_neg (by rw [show (zbT (zF p)).length = k by omega]; simpa using c105)]; omega))
   ·exact zap
   ·first | omega | (simp; omega)
   show (zfh p.text p.lexicon).length - ((i + 1)) < (zfh p.text p.lexicon).length - i;omega
  refine zy<|E<|zl<|zl ?_;have hmq : (zgn p (zbT (zF p)) (zbT (zF p)).length) wd = true := by rw [show (zbT (zF p)).length = k by omega]; simpa using c105
  have hcq := (cntQ_at hwd).2 hmq;rw [← hmr] at hcq;have hcl := (List.getElem?_eq_some_iff.1 hcq).1;refine zk<|zf X X<|zU (v := v30) X X<|have l106:=((le36.t le46).t le57).t le68;zaG (f31.up l106) X zT X<|zhP X X X<|zV X X ?_;refine zO (d := 109) rfl (fun g107 => ?_) (fun g107 => ?_)
  ·exfalso;have sure_ : (decide ((((cntQ (zgn p (zbT (zF p)) (zbT (zF p)).length) (zfh p.text p.lexicon) i) : Nat) : Int) ≥ ((mootR (p)).length : Int))) = false := by exact decide_eq_false zq
   exact zgW sure_ g107
  refine Z X X X<|zU (v := v30) X X<|Z X X X<|zf X X<|Z X X X ?_;obtain ⟨lw, hlw⟩ : ∃ y_, ((mootR (p)))[(cntQ (zgn p (zbT (zF p)) (zbT (zF p)).length) (zfh p.text p.lexicon) i)]? = some y_ := zby zq;obtain ⟨b108, o109, _, he111, hc110, hr_lw⟩ := Sl.elem (f31.up l106) hlw;obtain ⟨rfl, ls112⟩ := hr_lw;simp only [big] at ls112;refine zg rfl rfl (zaE he111 rfl rfl (hk := (show _ = (((cntQ (zgn p (zbT (zF p)) (zbT (zF p)).length) (zfh p.text p.lexicon) i) : Nat) : Int) by rfl)) (hu := zT) (hz := zaj)) ?_;refine Z X X X<|M (j := 0) st69.sub hc110 X X X zav X<|Z X X X<|zcu X X<|Z X X X<|zg X X (r_sneq X X)<|zN (v := (.bool _)) X X X<|Y ?_;refine zD rfl (fun c113 => ?_) (fun c113 => ?_)
  ·exfalso;have sure_ : (decide (lw ≠ wd)) = false := by exact decide_eq_false (fun q_ => q_ (Option.some.inj (hlw.symm.trans hcq)))
   exact zgW sure_ c113
  refine zy<|E<|zk<|zf X X<|zaI X X zaM X<|zr X X<|zp<|zQ<|E<|zk<|zaI X X zaM X<|zf X X<|Y ?_;refine ⟨⟨i + 1, h67⟩, ⟨?_, rfl, trivial⟩, ?_, ⟨(le57.t le68), st69, ?_⟩, ?_⟩
  ·exact zah (by rw [cntQ_succ hwd]; first | (rw [if_pos hmq]; omega) | (rw [if_neg (by rw [show (zbT (zF p)).length = k by omega]; simpa using c113)]; omega))
  ·exact zap
  ·first | omega | (simp; omega)
  show (zfh p.text p.lexicon).length - ((i + 1)) < (zfh p.text p.lexicon).length - i;omega
 refine zaH<|zm<|zm<|zam<|E<|ze<|zV X X<|zV X X<|Z X X X<|zf X X<|Z X X X<|zU (v := v30) X X<|Z X X X<|zaG (f31.up ((le36.t le46).t le57)) X zT X<|Z X X X<|zcw X X X<|zM (v := (.bool _)) X X X<|zC X X<|Y<|zw<|zb Tryz.results7 ?_;refine ⟨h56, _, rfl, st58.done, ?_⟩;refine zt ?_
 first | rfl | (rcases hor with ⟨h1_, _⟩ | ⟨h1_, _⟩ <;> simp_all; done) | exact decide_eq_true (by rw [hmr, ← cntQ_all (q := (zgn p (zbT (zF p)) (zbT (zF p)).length)) (l := (zfh p.text p.lexicon)) (i := i) zq])
end Go.Pk
