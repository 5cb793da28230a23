/- A PART OF THE PROOF: contracts of functions, each walked once (much of it printed by a program of the author's own). -/
import Derived.Test.YtfpiiheehdedmaaGreatDoorT14
import Derived.Test.YtfpiiheehdedmaaGreatDoorT2
set_option linter.unusedSimpArgs false
set_option linter.unusedVariables false
set_option maxRecDepth 4000
namespace Go.Pk
open Go Go.RowKit Go.Proofs
set_option maxHeartbeats 4000000 in
theorem zjl {h : Heap} {w : World} (hs : Sub h w) {p : Poll} {p_v0 : Value} (p_f0 : Sl LChapter h p_v0 p.text.chapters) {p_v1 : Value} (p_f1 : Sl LRule h p_v1 p.lexicon.rules) {p_v2 : Value} (p_f2 : Sl LDecision h p_v2 p.lexicon.decisions) {p_v3 : Value} (p_f3 : Sl LQuestion h p_v3 p.questions) {p_v4 : Value} (p_f4 : Sl LVoter h p_v4 p.voters) {more : Voter} {more_v0 : Value} (more_f0 : Sl LInt h more_v0 more.votes) (K1 : Cells h 1 0 Tryz.glob1) (K0 : Cells h 0 0 Tryz.glob0) : Calls Tryz.prog 8 #[.agg #[p_v0, p_v1, p_v2, p_v3, p_v4], .agg #[.int .i64 more.id, .int .i64 more.wrong, more_v0]] w (Rets h w (fun _ _ res_ => res_ = .bool (true))) := by
 refine zP (n := 162) Tryz.func8 X X X<|have st0:=t_s0 hs;have p_f0_b:=p_f0.le;have p_f1_b:=p_f1.le;have p_f2_b:=p_f2.le;have p_f3_b:=p_f3.le;have p_f4_b:=p_f4.le;have more_f0_b:=more_f0.le;W.sr<|zJ st0 (cs := [p_v0, p_v1, p_v2, p_v3, p_v4]) X X X<|fun b1 w2 h3 le4 hc5 st6=>zJ st6 (cs := [.int .i64 (more.id), .int .i64 (more.wrong), more_v0]) X X X<|fun b7 w8 h9 le10 hc11 st12=>zF X X<|Y<|W.sr<|have l13:=le4.trans le10;ze st12 X X X Tryz.call33 X (zfJ st12.sub (K1.up l13) (K0.up l13))<|fun r14 w15 h16 le17 st18 q19=> ?_
 obtain rfl := q19
 refine zF X X<|Y<|zj<|W.sr<|zr st18.sub (hc5.up (le10.trans le17)) X zaE zad X X<|have l20:=l13.trans le17;ze st18 X X X Tryz.call41 X (zdh st18.sub (p := p) (p_f0.up l20) (p_f1.up l20) (p_f2.up l20) (p_f3.up l20) (p_f4.up l20))<|fun r21 w22 h23 le24 st25 q26=> ?_
 obtain rfl := q26
 refine zbl X X<|zS X X ?_
 refine zaw (d := 26) rfl (fun g27 => ?_) (fun g27 => ?_)
 ·
  refine M X X X X X<|M X X X X X<|M X X X X X<|M X X X X X<|zT (v := (.bool _)) X X X<|zS X X<|M X X X X X<|M X X X X X<|zT (v := (.bool _)) X X X<|Y ?_
  refine zae rfl (fun c28 => ?_) (fun c28 => ?_)
  ·
   refine W.sr<|zS X X<|zF X X<|Y<|zw<|zd<|zb Tryz.results8 ?_
   refine ⟨h23, _, rfl, st25.done, ?_⟩
   refine zx ?_
   first | rfl | (simp_all; done)
  cases c28
 refine Z X X X<|E X zaz X zbs X X<|Z X X X<|U (j := 2) st25.sub (hc11.up (le17.trans le24)) X X X zce X<|Z X X X<|have l29:=l20.trans le24;zaH (more_f0.up l29) X zg X<|Z X X X<|zdm X X X<|zN (v := (.bool _)) X X X<|zS X X ?_
 refine zY (d := 32) rfl (fun g30 => ?_) (fun g30 => ?_)
 ·
  refine M X X X X X<|M X X X X X<|zT (v := (.bool _)) X X X<|Y ?_
  refine zae rfl (fun c31 => ?_) (fun c31 => ?_)
  ·
   refine W.sr<|zS X X<|zF X X<|Y<|zw<|zd<|zb Tryz.results8 ?_
   refine ⟨h23, _, rfl, st25.done, ?_⟩
   refine zx ?_
   first | rfl | (simp_all; done)
  cases c31
 refine Z X X X<|zS X X<|Z X X X<|zbl X X<|zN (v := (.bool _)) X X X<|Y ?_
 refine zae rfl (fun c32 => ?_) (fun c32 => ?_)
 ·
  cases c32
 refine zy<|O<|zj ?_
 obtain ⟨hsm, hk1⟩ : zdV p = true ∧ zbM p = 0 := by simpa using g27
 have hpb := (zcb hk1).2
 have hpl := zcO hpb
 refine zn<|zr st25.sub (hc5.up ((le10.trans le17).trans le24)) X zaE zad X X ?_
 refine zay rfl rfl (zaV rfl Tryz.call16 rfl) ((zdO st25.sub (p := p) (p_f0.up l29) (p_f1.up l29) (p_f2.up l29) (p_f3.up l29) (p_f4.up l29) (by exact hsm)).mono ?_)
 rintro _ w33 ⟨h34, v38, v40, v42, v44, v46, o47, rfl, le35, s37, f39, f41, f43, f45, f48⟩
 refine ⟨_, rfl, ?_⟩
 have st36 := st25.call s37
 refine zQ st36 zdu X X<|fun b49 w50 st51=>zI st51 (k := 1) X X X (za f39.one (za f41.one (za f43.one (za f45.one (za f48.one zan))))) zad X X X<|fun w52 st53=>Y<|W.sr<|E X zt X zaL X X<|zbi (st53.get (k := 1) X) X X zbj X<|zr st53.sub (hc11.up ((le17.trans le24).trans le35)) X zdU zaT X X<|have l54:=l29.trans le35;zac (L := LVoter) (xs := [more]) (cs := [.int .i64 (more.id), .int .i64 (more.wrong), more_v0]) st53 (Enc.cons (L := LVoter) (vs := [.int .i64 (more.id), .int .i64 (more.wrong), more_v0]) (x := more) (h := h34) (⟨_, X, (more_f0.up l54)⟩) Enc.nil) X X X zaa Tryz.info79 X X X t_kr<|fun v55 w56 h59 le60 f57 st58=> ?_
 refine zbB (k := 0) (nb := 40) st58 (f48.up le60) rfl f57 rfl rfl rfl zaa Tryz.info79 rfl rfl rfl (by decide) rfl (by simp only [List.length_append, List.length_cons, List.length_nil]; omega) (by simp only [List.length_append, List.length_cons, List.length_nil]; omega) ?_
 intro v61 o62 w63 _ e64 f65 st66
 subst e64
 refine E X zt X zaL X X<|zar st66 (k := 1) X X (v := v61) X f65.one zaL X X X<|fun w67 st68=>Y<|zj<|W.sr<|zbc (st68.get (k := 1) X) X zaE zad X X ?_
 obtain ⟨h69, le70, f71, st72⟩ := OSl.freeze (k := 0) st68 f65 rfl (by simp only [List.length_append, List.length_cons, List.length_nil]; omega)
 refine ze st72 X X X Tryz.call41 X (zdh st72.sub (p := (zcj p more)) (f39.up (le60.trans le70)) (f41.up (le60.trans le70)) (f43.up (le60.trans le70)) (f45.up (le60.trans le70)) f71)<|fun r73 w74 h75 le76 st77 q78=> ?_
 obtain rfl := q78
 refine zbl X X<|Y ?_
 refine zae rfl (fun c79 => ?_) (fun c79 => ?_)
 ·
  refine W.sr<|zS X X<|zF X X<|Y<|zw<|zd<|zb Tryz.results8 ?_
  refine ⟨h75, _, rfl, st77.done, ?_⟩
  refine zx ?_
  first | rfl | (simp_all; done)
 refine zy<|O<|zj ?_
 obtain ⟨_, hkx⟩ : zdV (zcj p more) = true ∧ zbM (zcj p more) = 0 := by simpa using c79
 have hte := zep hpb
 have htx := more_le (p := p) (v := more)
 refine zn<|have l80:=(((((le10.trans le17).trans le24).trans le35).trans le60).trans le70).trans le76;zr st77.sub (hc5.up l80) X zaE zad X X ?_
 have l81 := ((l54.trans le60).trans le70).trans le76
 have con := (zeA st77.sub (p := p) (p_f0.up l81) (p_f1.up l81) (p_f2.up l81) (p_f3.up l81) (p_f4.up l81) (K1.up l81) (K0.up l81))
 rw [if_pos hk1, hk1] at con
 refine ze st77 X X X Tryz.call34 X con<|fun r82 w83 h84 le85 st86 q87=> ?_
 obtain rfl := q87
 clear con
 refine zbY X X<|zA (v := (.int _ _)) X X X<|zA (v := (.int _ _)) X X X<|zq X X<|zq X X<|Y<|W.sr<|zbc (st86.get (k := 1) X) X zaE zad X X ?_
 have l88 := ((le60.trans le70).trans le76).trans le85
 have l89 := l81.trans le85
 have con := (zeA st86.sub (p := (zcj p more)) (f39.up l88) (f41.up l88) (f43.up l88) (f45.up l88) (f71.up (le76.trans le85)) (K1.up l89) (K0.up l89))
 rw [if_pos hkx, hkx] at con
 refine ze st86 X X X Tryz.call34 X con<|fun r90 w91 h92 le93 st94 q95=> ?_
 obtain rfl := q95
 clear con
 refine zbY X X<|zA (v := (.int _ _)) X X X<|zA (v := (.int _ _)) X X X<|zq X X<|zq X X<|Y<|zj<|W.sr<|zh X X<|zcf X X X<|zS X X<|Z X X X<|zh X X<|Z X X X<|zcf X X X<|zN (v := (.bool _)) X X X<|zS X X<|Z X X X<|zh X X<|Z X X X<|zh X X<|Z X X X<|zdm X X X<|zN (v := (.bool _)) X X X<|Y ?_
 refine zC rfl (fun c96 => ?_) (fun c96 => ?_)
 ·
  exfalso
  have sure_ : (decide ((((zM (zcj p more)).length : Int)) > (((zM p).length : Int)))) = false := by exact decide_eq_false (by omega)
  exact t_of sure_ c96
 refine zy<|O<|W.sr<|zr st94.sub (hc5.up ((l80.trans le85).trans le93)) X zaE zad X X<|have l97:=l89.trans le93;ze st94 X X X zhk X (zdx st94.sub (p := p) (p_f0.up l97) (p_f1.up l97) (p_f2.up l97) (p_f3.up l97) (p_f4.up l97) (K1.up l97) (K0.up l97))<|fun r98 w99 h100 le101 st102 q103=> ?_
 obtain ⟨v104, rfl, f105⟩ := q103
 have f105_b := f105.le
 refine zbY X X<|zA (v := v104) X X X<|zA (v := (.int _ _)) X X X<|zaf (v := v104) X X<|zq X X<|Y<|W.sr<|zbc (st102.get (k := 1) X) X zaE zad X X<|have l106:=((le76.trans le85).trans le93).trans le101;have l107:=l97.trans le101;ze st102 X X X zhk X (zdx st102.sub (p := (zcj p more)) (f39.up ((l88.trans le93).trans le101)) (f41.up ((l88.trans le93).trans le101)) (f43.up ((l88.trans le93).trans le101)) (f45.up ((l88.trans le93).trans le101)) (f71.up l106) (K1.up l107) (K0.up l107))<|fun r108 w109 h110 le111 st112 q113=> ?_
 obtain ⟨v114, rfl, f115⟩ := q113
 have f115_b := f115.le
 refine zbY X X<|zA (v := v114) X X X<|zA (v := (.int _ _)) X X X<|zaf (v := v114) X X<|zq X X<|Y<|zj<|W.sr<|zh X X<|zdd X X X<|Y ?_
 refine zC rfl (fun c116 => ?_) (fun c116 => ?_)
 ·
  refine zj ?_
  have hxn : (zM (zcj p more)) = [] := List.eq_nil_of_length_eq_zero (by have q_ := c116; omega)
  have hex := allE_none hkx hxn
  refine zn<|zS X X<|zS X X<|Z X X X<|zh X X<|Z X X X<|zdd X X X<|zT (v := (.bool _)) X X X<|zF X X<|Y<|zw<|zd<|zb Tryz.results8 ?_
  refine ⟨h110, _, rfl, st112.done, ?_⟩
  refine zx ?_
  first | rfl | (simp_all; done)
 refine zy<|O<|zj<|zj ?_
 have hnx : (zM (zcj p more)) ≠ [] := by intro e_; have q_ := c116; rw [e_] at q_; exact q_ rfl
 have hex := allE_some hkx hnx
 have hep := allE_some hk1 (more_ne hnx)
 have hls := ziY hep
 have hlx : (zbz (zcj p more)).length = p.questions.length := ziY hex
 refine zn<|zh X X<|zcf X X X<|zS X X ?_
 refine zY (d := 89) rfl (fun g117 => ?_) (fun g117 => ?_)
 ·
  exfalso
  have sure_ : (decide ((allE (p) true) ≠ 0)) = false := by exact decide_eq_false (by rw [hep]; decide)
  exact t_of sure_ g117
 refine Z X X X<|zh X X<|Z X X X<|zcf X X X<|zN (v := (.bool _)) X X X<|zS X X ?_
 refine zY (d := 93) rfl (fun g118 => ?_) (fun g118 => ?_)
 ·
  exfalso
  have sure_ : (decide ((allE ((zcj p more)) true) ≠ 0)) = false := by exact decide_eq_false (by rw [hex]; decide)
  exact t_of sure_ g118
 refine Z X X X<|zR (v := v104) X X<|Z X X X<|zaH (f105.up le111) X zg X<|Z X X X<|zR (v := v114) X X<|Z X X X<|zaH f115 X zg X<|Z X X X<|zcf X X X<|zN (v := (.bool _)) X X X<|zS X X ?_
 refine zY (d := 100) rfl (fun g119 => ?_) (fun g119 => ?_)
 ·
  exfalso
  have sure_ : (decide (((zbz (p)).length : Int) ≠ ((zbz ((zcj p more))).length : Int))) = false := by exact decide_eq_false (by omega)
  exact t_of sure_ g119
 refine Z X X X<|zR (v := v104) X X<|Z X X X<|zaH (f105.up le111) X zg X<|Z X X X<|E X zt X zbe X X<|Z X X X<|have l120:=(((l80.trans le85).trans le93).trans le101).trans le111;U (j := 3) st112.sub (hc5.up l120) X X X zby X<|Z X X X<|have l121:=l107.trans le111;zaH (p_f3.up l121) X zaq X<|Z X X X<|zcf X X X<|zN (v := (.bool _)) X X X<|Y ?_
 refine zC rfl (fun c122 => ?_) (fun c122 => ?_)
 ·
  exfalso
  have sure_ : (decide (((zbz (p)).length : Int) ≠ (p.questions.length : Int))) = false := by exact decide_eq_false (by omega)
  exact t_of sure_ c122
 refine zy<|O<|zj<|W.sr<|zR (v := v104) X X<|zaH (f105.up le111) X zg X<|zh X X<|Y<|zG ?_
 refine zax ([4, 15, 16, 17, 18, 19, 21] ++ t_rg 110 51) (G := Nat × Heap) (fun ⟨k, h123⟩ => [(110, .int .i64 (k : Int))]) (fun ⟨k, h123⟩ w' => Le h110 h123 ∧ St h w h123 w' [[], [(b49, .cells (List.toArray [v38, v40, v42, v44, v61]) 32)]] ∧ (k ≤ (zbz p).length)) (fun ⟨k, h123⟩ => (zbz p).length - k) ⟨0, h110⟩ ⟨rfl, trivial⟩ ⟨Le.refl _, st112, zaW⟩ ?_
 rintro ⟨k, h123⟩ _ w126 ⟨le124, st125, hk⟩
 refine W.sr<|zaX X X X<|Y<|zj ?_
 refine zC rfl (fun c127 => ?_) (fun c127 => ?_)
 ·
  refine zy<|O<|zj<|zG<|zj ?_
  obtain ⟨q, hq⟩ : ∃ q_, p.questions[k]? = some q_ := ⟨_, List.getElem?_eq_getElem (by omega)⟩
  refine zn<|zh X X<|zq X X<|Y<|W.sr<|zr st125.sub (hc5.up (l120.trans le124)) X zaE zad X X<|zh X X ?_
  have l128 := l121.trans le124
  have con := (c_vote_Open st125.sub (p := p) (p_f0.up l128) (p_f1.up l128) (p_f2.up l128) (p_f3.up l128) (p_f4.up l128) (question := (k : Int)) (K1.up l128) (K0.up l128))
  rw [(open_ok hq).1, (open_ok hq).2, hep] at con
  refine ze st125 X X X Tryz.call36 X con<|fun r129 w130 h131 le132 st133 q134=> ?_
  obtain ⟨v135, rfl, f136⟩ := q134
  have f136_b := f136.le
  clear con
  refine zbY X X<|zA (v := v135) X X X<|zA (v := (.int _ _)) X X X<|zaf (v := v135) X X<|zq X X<|Y<|W.sr<|zbc (st133.get (k := 1) X) X zaE zad X X<|zh X X ?_
  have l137 := ((((l88.trans le93).trans le101).trans le111).trans le124).trans le132
  have l138 := ((l106.trans le111).trans le124).trans le132
  have l139 := l128.trans le132
  have con := (c_vote_Open st133.sub (p := (zcj p more)) (f39.up l137) (f41.up l137) (f43.up l137) (f45.up l137) (f71.up l138) (question := (k : Int)) (K1.up l139) (K0.up l139))
  rw [(open_ok (p := (zcj p more)) hq).1, (open_ok (p := (zcj p more)) hq).2, hex] at con
  refine ze st133 X X X Tryz.call36 X con<|fun r140 w141 h142 le143 st144 q145=> ?_
  obtain ⟨v146, rfl, f147⟩ := q145
  have f147_b := f147.le
  clear con
  refine zbY X X<|zA (v := v146) X X X<|zA (v := (.int _ _)) X X X<|zaf (v := v146) X X<|zq X X<|Y<|zj<|zj<|zbX Tryz.mixed t_kr (Cls h142 _) (Cls.drew st144)<|zde X X<|u_neq X X X<|zhr X X<|zD X X X<|zde X X<|zD X X X<|u_neq X X X<|zef (v := (.bool _)) X X X<|zhr X X<|zD X X X<|zfU (v := v104) X X<|zD X X X<|zde X X<|zD X X X ?_
  obtain ⟨a, ha⟩ : ∃ y_, ((zbz (p)))[k]? = some y_ := t_ge (by omega)
  have l152 := ((le111.trans le124).trans le132).trans le143
  obtain ⟨b148, o149, _, he151, hc150, hr_a⟩ := Sl.elem (f105.up l152) ha
  obtain rfl := hr_a
  refine zbZ he151 X X (hk := X) (hu := zg) (hz := zl) X<|zD X X X<|zH X X (fun _ hC => (zf (j := 0) hC.sub hc150 X X X zz))<|zD X X X<|u_geq X X X<|zD X X X<|zhr X X ?_
  refine ziq (d := 137) rfl (fun g153 => ?_) (fun g153 => ?_)
  ·
   refine zD X X X<|zfU (v := v114) X X<|zD X X X<|zde X X<|zD X X X ?_
   obtain ⟨b, hb⟩ : ∃ y_, ((zbz ((zcj p more))))[k]? = some y_ := t_ge (by omega)
   obtain ⟨b154, o155, _, he157, hc156, hr_b⟩ := Sl.elem (f115.up ((le124.trans le132).trans le143)) hb
   obtain rfl := hr_b
   refine zbZ he157 X X (hk := X) (hu := zg) (hz := zl) X<|zD X X X<|zH X X (fun _ hC => (zf (j := 0) hC.sub hc156 X X X zz))<|zD X X X<|zfU (v := v104) X X<|zD X X X<|zde X X<|zD X X X<|zbZ he151 X X (hk := X) (hu := zg) (hz := zl) X<|zD X X X<|zH X X (fun _ hC => (zf (j := 0) hC.sub hc150 X X X zz))<|zD X X X<|u_neq X X X<|zD X X X<|zfP (v := (.bool _)) X X X<|zef (v := (.bool _)) X X X<|zbC ?_
   rintro w158 ⟨h159, s160⟩
   have st161 := st144.call0 s160
   refine O ?_
   refine zC rfl (fun c162 => ?_) (fun c162 => ?_)
   ·
    exfalso
    have sure_ : (decide (b ≠ a)) = false := by rw [ziX hep] at ha; rw [ziX hex] at hb; exact decide_eq_false (fun q_ => q_ (more_set hnx ha hb (by omega)))
    exact t_of sure_ c162
   refine zy<|O<|W.sr<|zR (v := v146) X X<|zaH (f147.up s160.le) X zg X<|zh X X<|Y<|zG ?_
   refine zax ([4, 21] ++ t_rg 151 9) (G := Nat × Heap) (fun ⟨j, h163⟩ => [(151, .int .i64 (j : Int))]) (fun ⟨j, h163⟩ w' => Le h159 h163 ∧ St h w h163 w' [[], [(b49, .cells (List.toArray [v38, v40, v42, v44, v61]) 32)]] ∧ (j ≤ (zhb (zcj p more) k).length)) (fun ⟨j, h163⟩ => (zhb (zcj p more) k).length - j) ⟨0, h159⟩ ⟨rfl, trivial⟩ ⟨Le.refl _, st161, zaW⟩ ?_
   rintro ⟨j, h163⟩ _ w166 ⟨le164, st165, hj⟩
   refine W.sr<|zaX X X X<|Y<|zj ?_
   refine zC rfl (fun c167 => ?_) (fun c167 => ?_)
   ·
    refine zy<|O<|zj<|zG<|W.sr ?_
    obtain ⟨o, ho⟩ : ∃ y_, ((zhb (zcj p more) k))[j]? = some y_ := t_ge (by omega)
    obtain ⟨b168, o169, _, he171, hc170, hr_o⟩ := Sl.elem (f147.up (s160.le.trans le164)) ho
    obtain rfl := hr_o
    refine zU he171 X X (hk := X) (hu := zg) (hz := zl) X<|U (j := 0) st165.sub hc170 X X X zz X<|zq X X<|Y<|W.sr<|zR (v := v135) X X<|zh X X<|ze st165 X X X Tryz.call45 X (zgw st165.sub (f136.up ((le143.trans s160.le).trans le164)) _)<|fun r172 w173 h174 le175 st176 q177=> ?_
    obtain rfl := q177
    refine zbl X X<|Y ?_
    refine zae rfl (fun c178 => ?_) (fun c178 => ?_)
    ·
     exfalso
     have sure_ : ((!((decide ((o) ∈ ((zhb p k))))))) = false := by rw [decide_eq_true (more_open hep hex (List.mem_of_getElem? ho))]; rfl
     exact absurd (c178.symm.trans sure_) (by decide)
    refine zy<|zO<|O<|zn<|zaM X X t_om X<|zh X X<|Y ?_
    refine ⟨⟨j + 1, h174⟩, ⟨rfl, trivial⟩, ?_, ⟨(le164.trans le175), st176, ?_⟩, ?_⟩
    ·exact zau
    ·first | omega | (simp; omega)
    show (zhb (zcj p more) k).length - ((j + 1)) < (zhb (zcj p more) k).length - j
    omega
   refine zaI<|zm<|zm<|zam<|zO<|O<|zn<|zaM X X t_om X<|zh X X<|Y ?_
   have l179 := (((le124.trans le132).trans le143).trans s160.le).trans le164
   refine ⟨⟨k + 1, h163⟩, ⟨rfl, trivial⟩, ?_, ⟨l179, st165, ?_⟩, ?_⟩
   ·exact zau
   ·first | omega | (simp; omega)
   show (zbz p).length - ((k + 1)) < (zbz p).length - k
   omega
  refine zL X X X X X<|zL X X X X X<|zL X X X X X<|zL X X X X X<|zL X X X X X<|zL X X X X X<|zL X X X X X<|zL X X X X X<|zL X X X X X<|zD X X X<|zef (v := (.bool _)) X X X<|zef (v := (.bool _)) X X X<|zbC ?_
  rintro w180 ⟨h181, s182⟩
  have st183 := st144.call0 s182
  refine O ?_
  refine zae rfl (fun c184 => ?_) (fun c184 => ?_)
  ·
   cases c184
  refine zy<|O<|W.sr<|zR (v := v146) X X<|zaH (f147.up s182.le) X zg X<|zh X X<|Y<|zG ?_
  refine zax ([4, 21] ++ t_rg 151 9) (G := Nat × Heap) (fun ⟨j, h185⟩ => [(151, .int .i64 (j : Int))]) (fun ⟨j, h185⟩ w' => Le h181 h185 ∧ St h w h185 w' [[], [(b49, .cells (List.toArray [v38, v40, v42, v44, v61]) 32)]] ∧ (j ≤ (zhb (zcj p more) k).length)) (fun ⟨j, h185⟩ => (zhb (zcj p more) k).length - j) ⟨0, h181⟩ ⟨rfl, trivial⟩ ⟨Le.refl _, st183, zaW⟩ ?_
  rintro ⟨j, h185⟩ _ w188 ⟨le186, st187, hj⟩
  refine W.sr<|zaX X X X<|Y<|zj ?_
  refine zC rfl (fun c189 => ?_) (fun c189 => ?_)
  ·
   refine zy<|O<|zj<|zG<|W.sr ?_
   obtain ⟨o, ho⟩ : ∃ y_, ((zhb (zcj p more) k))[j]? = some y_ := t_ge (by omega)
   obtain ⟨b190, o191, _, he193, hc192, hr_o⟩ := Sl.elem (f147.up (s182.le.trans le186)) ho
   obtain rfl := hr_o
   refine zU he193 X X (hk := X) (hu := zg) (hz := zl) X<|U (j := 0) st187.sub hc192 X X X zz X<|zq X X<|Y<|W.sr<|zR (v := v135) X X<|zh X X<|ze st187 X X X Tryz.call45 X (zgw st187.sub (f136.up ((le143.trans s182.le).trans le186)) _)<|fun r194 w195 h196 le197 st198 q199=> ?_
   obtain rfl := q199
   refine zbl X X<|Y ?_
   refine zae rfl (fun c200 => ?_) (fun c200 => ?_)
   ·
    exfalso
    have sure_ : ((!((decide ((o) ∈ ((zhb p k))))))) = false := by rw [decide_eq_true (more_open hep hex (List.mem_of_getElem? ho))]; rfl
    exact absurd (c200.symm.trans sure_) (by decide)
   refine zy<|zO<|O<|zn<|zaM X X t_om X<|zh X X<|Y ?_
   refine ⟨⟨j + 1, h196⟩, ⟨rfl, trivial⟩, ?_, ⟨(le186.trans le197), st198, ?_⟩, ?_⟩
   ·exact zau
   ·first | omega | (simp; omega)
   show (zhb (zcj p more) k).length - ((j + 1)) < (zhb (zcj p more) k).length - j
   omega
  refine zaI<|zm<|zm<|zam<|zO<|O<|zn<|zaM X X t_om X<|zh X X<|Y ?_
  have l201 := (((le124.trans le132).trans le143).trans s182.le).trans le186
  refine ⟨⟨k + 1, h185⟩, ⟨rfl, trivial⟩, ?_, ⟨l201, st187, ?_⟩, ?_⟩
  ·exact zau
  ·first | omega | (simp; omega)
  show (zbz p).length - ((k + 1)) < (zbz p).length - k
  omega
 refine zaI<|zm<|zm<|zam<|O<|W.sr<|zS X X<|zF X X<|Y<|zw<|zb Tryz.results8 ?_
 refine ⟨h123, _, rfl, st125.done, ?_⟩
 refine zx ?_
 first | rfl | (simp_all; done)
end Go.Pk
