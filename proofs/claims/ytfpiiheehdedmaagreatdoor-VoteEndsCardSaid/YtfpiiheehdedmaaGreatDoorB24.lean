/- A PART OF THE PROOF: contracts of functions, each walked once (much of it printed by a program of the author's own). -/
import Derived.Test.YtfpiiheehdedmaaGreatDoorT14
import Derived.Test.YtfpiiheehdedmaaGreatDoorT2
set_option linter.unusedSimpArgs false
set_option linter.unusedVariables false
set_option maxRecDepth 4000
namespace Go.Pk
open Go Go.RowKit Go.Proofs
set_option maxHeartbeats 4000000 in
theorem ziT {h : Heap} {w : World} (hs : Sub h w) {p : Poll} {p_v0 : Value} (p_f0 : Sl LChapter h p_v0 p.text.chapters) {p_v1 : Value} (p_f1 : Sl LRule h p_v1 p.lexicon.rules) {p_v2 : Value} (p_f2 : Sl LDecision h p_v2 p.lexicon.decisions) {p_v3 : Value} (p_f3 : Sl LQuestion h p_v3 p.questions) {p_v4 : Value} (p_f4 : Sl LVoter h p_v4 p.voters) (K1 : Cells h 1 0 Tryz.glob1) (K0 : Cells h 0 0 Tryz.glob0) : Calls Tryz.prog 7 #[.agg #[p_v0, p_v1, p_v2, p_v3, p_v4]] w (Rets h w (fun _ _ res_ => res_ = .bool (true))) := by
 refine zL (n := 174) Tryz.func7 X X X<|have st0:=t_s0 hs;have p_f0_b:=p_f0.le;have p_f1_b:=p_f1.le;have p_f2_b:=p_f2.le;have p_f3_b:=p_f3.le;have p_f4_b:=p_f4.le;W.sr<|zJ st0 (cs := [p_v0, p_v1, p_v2, p_v3, p_v4]) X X X<|fun b1 w2 h3 le4 hc5 st6=>zF X X<|Y<|W.sr<|zg st6 X X X Tryz.call33 X (zhp st6.sub (K1.up le4) (K0.up le4))<|fun r7 w8 h9 le10 st11 q12=> ?_
 obtain rfl := q12
 refine zF X X<|Y<|zm<|W.sr<|zz st11.sub (hc5.up le10) X zbn zaI X X<|have l13:=le4.trans le10;zg st11 X X X Tryz.call41 X (zho st11.sub (p := p) (p_f0.up l13) (p_f1.up l13) (p_f2.up l13) (p_f3.up l13) (p_f4.up l13))<|fun r14 w15 h16 le17 st18 q19=> ?_
 obtain rfl := q19
 refine zbr X X<|zU X X ?_
 refine zas (d := 24) rfl (fun g20 => ?_) (fun g20 => ?_)
 ·
  refine M X X X X X<|M X X X X X<|zQ (v := (.bool _)) X X X<|Y ?_
  refine zad rfl (fun c21 => ?_) (fun c21 => ?_)
  ·
   refine W.sr<|zU X X<|zF X X<|Y<|zw<|zc<|zb Tryz.results7 ?_
   refine ⟨h16, _, rfl, st18.done, ?_⟩
   refine zq ?_
   first | rfl | (simp_all; done)
  cases c21
 refine Z X X X<|zU X X<|Z X X X<|zbr X X<|zP (v := (.bool _)) X X X<|Y ?_
 refine zad rfl (fun c22 => ?_) (fun c22 => ?_)
 ·
  cases c22
 refine zx<|E<|zm ?_
 obtain ⟨hsm, hk1⟩ : zgn p = true ∧ zcw p = 0 := by simpa using g20
 have hpb := (zbY hk1).2
 have hpl := zck hpb
 refine zl<|zz st18.sub (hc5.up (le10.trans le17)) X zbn zaI X X ?_
 have l23 := l13.trans le17
 refine zg st18 rfl rfl rfl Tryz.call46 rfl (zhg st18.sub (p := p) (p_f0.up l23) (p_f1.up l23) (p_f2.up l23) (p_f3.up l23) (p_f4.up l23) (by exact hpb)) ?_
 intro r24 w25 h26 le27 st28 q29
 obtain ⟨v30, e32, f31⟩ := q29
 rw [← e32] at f31
 have f31_b := f31.le
 refine zaa (v := r24) X X<|Y<|W.sr<|zz st28.sub (hc5.up ((le10.trans le17).trans le27)) X zbn zaI X X ?_
 have l33 := l23.trans le27
 have con := (c_vote_Count st28.sub (p := p) (p_f0.up l33) (p_f1.up l33) (p_f2.up l33) (p_f3.up l33) (p_f4.up l33) (K1.up l33) (K0.up l33))
 rw [if_pos hk1, hk1] at con
 refine zg st28 X X X Tryz.call34 X con<|fun r34 w35 h36 le37 st38 q39=> ?_
 obtain rfl := q39
 clear con
 refine zcE X X<|zM (v := (.int _ _)) X X X<|zM (v := (.int _ _)) X X X<|zt X X<|zt X X<|Y<|W.sr<|have l40:=((le10.trans le17).trans le27).trans le37;zz st38.sub (hc5.up l40) X zbn zaI X X<|have l41:=l33.trans le37;zg st38 X X X Tryz.call39 X (c_vote_Truth st38.sub (p := p) (p_f0.up l41) (p_f1.up l41) (p_f2.up l41) (p_f3.up l41) (p_f4.up l41) (K1.up l41) (K0.up l41))<|fun r42 w43 h44 le45 st46 q47=> ?_
 obtain ⟨v48, rfl, f49⟩ := q47
 have f49_b := f49.le
 refine zcE X X<|zM (v := v48) X X X<|zM (v := (.int _ _)) X X X<|zaa (v := v48) X X<|zt X X<|Y<|W.sr<|zz st46.sub (hc5.up (l40.trans le45)) X zbn zaI X X<|have l50:=l41.trans le45;zg st46 X X X Tryz.call37 X (c_vote_Settled st46.sub (p := p) (p_f0.up l50) (p_f1.up l50) (p_f2.up l50) (p_f3.up l50) (p_f4.up l50) (K1.up l50) (K0.up l50))<|fun r51 w52 h53 le54 st55 q56=> ?_
 obtain ⟨v57, rfl, f58⟩ := q56
 have f58_b := f58.le
 refine zcE X X<|zM (v := v57) X X X<|zM (v := (.int _ _)) X X X<|zaa (v := v57) X X<|zt X X<|Y<|zm<|W.sr<|zf X X<|zcA X X X<|zU X X<|Z X X X<|zf X X<|Z X X X<|zO (v := r24) X X<|Z X X X<|zaC (f31.up ((le37.trans le45).trans le54)) X zap X<|Z X X X<|zcA X X X<|zP (v := (.bool _)) X X X<|Y ?_
 refine zG rfl (fun c59 => ?_) (fun c59 => ?_)
 ·
  exfalso
  have sure_ : (decide ((((zB p).length : Int)) ≠ ((zB (p)).length : Int))) = false := by simp
  exact t_of sure_ c59
 refine zx<|E<|zm<|zm<|have hte:=zen hpb;zl<|zf X X<|zcX X X X<|Y ?_
 refine zG rfl (fun c60 => ?_) (fun c60 => ?_)
 ·
  refine zm ?_
  have hen := allE_none hk1 (show zB p = [] from List.eq_nil_of_length_eq_zero (by have q_ := c60; omega))
  refine zl<|zU X X<|zU X X<|Z X X X<|zf X X<|Z X X X<|zcX X X X<|zQ (v := (.bool _)) X X X<|zU X X ?_
  refine zab (d := 61) rfl (fun g61 => ?_) (fun g61 => ?_)
  ·
   refine Z X X X<|zf X X<|Z X X X<|zcX X X X<|zQ (v := (.bool _)) X X X<|zF X X<|Y<|zw<|zc<|zb Tryz.results7 ?_
   refine ⟨h53, _, rfl, st55.done, ?_⟩
   refine zq ?_
   first | rfl | (simp_all; done)
  refine M X X X X X<|M X X X X X<|zP (v := (.bool _)) X X X<|zF X X<|Y<|zw<|zc<|zb Tryz.results7 ?_
  refine ⟨h53, _, rfl, st55.done, ?_⟩
  refine zq ?_
  first | rfl | (simp_all; done)
 refine zx<|E<|zm<|zm ?_
 have hn : zB p ≠ [] := by intro e_; have q_ := c60; rw [e_] at q_; exact q_ rfl
 have hep := allE_some hk1 hn
 have hls := settledN_len hep
 refine zl<|zf X X<|zcA X X X<|zU X X ?_
 refine zab (d := 67) rfl (fun g62 => ?_) (fun g62 => ?_)
 ·
  exfalso
  have sure_ : (decide ((allE (p) true) ≠ 0)) = false := by exact decide_eq_false (by rw [hep]; decide)
  exact t_of sure_ g62
 refine Z X X X<|zf X X<|Z X X X<|zcA X X X<|zP (v := (.bool _)) X X X<|zU X X ?_
 refine zab (d := 71) rfl (fun g63 => ?_) (fun g63 => ?_)
 ·
  exfalso
  have sure_ : (decide ((allE (p) true) ≠ 0)) = false := by exact decide_eq_false (by rw [hep]; decide)
  exact t_of sure_ g63
 refine Z X X X<|zO (v := v57) X X<|Z X X X<|zaC f58 X ze X<|Z X X X<|O X zD X zbl X X<|Z X X X<|U (j := 3) st55.sub (hc5.up ((l40.trans le45).trans le54)) X X X zbx X<|Z X X X<|have l64:=l50.trans le54;zaC (p_f3.up l64) X zaq X<|Z X X X<|zcA X X X<|zP (v := (.bool _)) X X X<|zU X X ?_
 refine zab (d := 79) rfl (fun g65 => ?_) (fun g65 => ?_)
 ·
  exfalso
  have sure_ : (decide (((zed (p)).length : Int) ≠ (p.questions.length : Int))) = false := by exact decide_eq_false (by omega)
  exact t_of sure_ g65
 refine Z X X X<|zO (v := v48) X X<|Z X X X<|zO (v := r24) X X<|Z X X X ?_
 obtain ⟨a0, ha0⟩ : ∃ y_, ((zB (p)))[0]? = some y_ := t_ge (by omega)
 obtain ⟨b66, o67, _, he69, hc68, hr_a0⟩ := Sl.elem (f31.up ((le37.trans le45).trans le54)) ha0
 obtain ⟨v70, rfl, f71⟩ := hr_a0
 have f71_b := f71.le
 refine zT he69 X X (hk := X) (hu := zap) (hz := zbs) X<|Z X X X<|U (j := 0) st55.sub hc68 X X X zbI X<|Z X X X<|zg st55 X X X Tryz.call21 X (zcR st55.sub (f49.up le54) f71)<|fun r72 w73 h74 le75 st76 q77=> ?_
 obtain rfl := q77
 refine Z X X X<|zbr X X<|zP (v := (.bool _)) X X X<|Y ?_
 refine zad rfl (fun c78 => ?_) (fun c78 => ?_)
 ·
  exfalso
  have sure_ : ((!(decide (((((allL (p) true)[0]?).getD [])) = (a0))))) = false := by rw [decide_eq_true (truth_first hep ha0)]; rfl
  exact absurd (c78.symm.trans sure_) (by decide)
 refine zx<|E<|zm<|W.sr<|O X zD X zbl X X<|have l79:=((l40.trans le45).trans le54).trans le75;U (j := 3) st76.sub (hc5.up l79) X X X zbx X<|have l80:=l64.trans le75;zaC (p_f3.up l80) X zaq X<|zf X X<|Y<|zH ?_
 refine zao ([2] ++ t_rg 11 7 ++ [19] ++ t_rg 90 83) (G := Nat × Heap) (fun ⟨k, h81⟩ => [(90, .int .i64 (k : Int))]) (fun ⟨k, h81⟩ w' => Le h74 h81 ∧ St h w h81 w' [] ∧ (k ≤ p.questions.length)) (fun ⟨k, h81⟩ => p.questions.length - k) ⟨0, h74⟩ ⟨rfl, trivial⟩ ⟨Le.refl _, st76, zaP⟩ ?_
 rintro ⟨k, h81⟩ _ w84 ⟨le82, st83, hk⟩
 refine W.sr<|zaO X X X<|Y<|zm ?_
 refine zG rfl (fun c85 => ?_) (fun c85 => ?_)
 ·
  refine zx<|E<|zm<|zH<|W.sr<|zf X X ?_
  obtain ⟨q, hq⟩ : ∃ y_, (p.questions)[k]? = some y_ := t_ge (by omega)
  have l90 := l80.trans le82
  obtain ⟨b86, o87, _, he89, hc88, hr_q⟩ := Sl.elem (p_f3.up l90) hq
  obtain ⟨v91, rfl, f92⟩ := hr_q
  have f92_b := f92.le
  refine zT he89 X X (hk := X) (hu := zaq) (hz := zbB) X<|zz st83.sub hc88 X Tryz.isAgg84 zbB X X<|zX st83 Tryz.zeroValue84 X X<|fun b93 w94 st95=>zt X X<|zN st95 (k := 0) X X X (za X (za X (za X (za f92.one zau)))) zbB X X X<|fun w96 st97=> ?_
  obtain ⟨h98, le99, hb100, st102⟩ := st97.freeze (k := 0) rfl
  have hc101 := Cells.of hb100
  refine Y<|W.sr<|zz st102.sub (hc5.up ((l79.trans le82).trans le99)) X zbn zaI X X<|zf X X ?_
  have l103 := l90.trans le99
  have con := (c_vote_Open st102.sub (p := p) (p_f0.up l103) (p_f1.up l103) (p_f2.up l103) (p_f3.up l103) (p_f4.up l103) (question := (k : Int)) (K1.up l103) (K0.up l103))
  rw [(open_ok hq).1, (open_ok hq).2, openN_eq hep hq, hep] at con
  refine zg st102 X X X Tryz.call36 X con<|fun r104 w105 h106 le107 st108 q109=> ?_
  obtain ⟨v110, rfl, f111⟩ := q109
  have f111_b := f111.le
  clear con
  refine zcE X X<|zM (v := v110) X X X<|zM (v := (.int _ _)) X X X<|zaa (v := v110) X X<|zt X X<|Y<|zm<|W.sr<|zf X X<|zcA X X X<|Y ?_
  refine zad rfl (fun c112 => ?_) (fun c112 => ?_)
  ·
   exact absurd c112 (by decide)
  refine zx<|E<|W.sr<|zt X X<|Y<|zm<|W.sr<|O X zaw X zbO X X<|U (j := 3) st108.sub (hc101.up le107) X X X zcg X<|zaC (f92.up (le99.trans le107)) X zaQ X<|zf X X<|Y<|zH ?_
  refine zao ([2, 15, 16, 17, 19] ++ t_rg 106 28) (G := Nat × Heap) (fun ⟨h0, h113⟩ => [(15, .int .i64 ((zdK (zB p) k h0).length : Int)), (106, .int .i64 (h0 : Int))]) (fun ⟨h0, h113⟩ w' => Le h106 h113 ∧ St h w h113 w' [[]] ∧ (h0 ≤ q.heads.length)) (fun ⟨h0, h113⟩ => q.heads.length - h0) ⟨0, h106⟩ ⟨(zac (by rfl)), rfl, trivial⟩ ⟨Le.refl _, st108, zaP⟩ ?_
  rintro ⟨h0, h113⟩ _ w116 ⟨le114, st115, hh0⟩
  have hol0 := openK_len (zB p) k h0
  refine W.sr<|zaO X X X<|Y<|zm ?_
  refine zG rfl (fun c117 => ?_) (fun c117 => ?_)
  ·
   refine zx<|E<|zm<|zH<|W.sr<|zf X X<|zt X X<|Y<|W.sr<|zF X X<|Y<|zm<|W.sr<|zO (v := r24) X X<|have l118:=((((((le37.trans le45).trans le54).trans le75).trans le82).trans le99).trans le107).trans le114;zaC (f31.up l118) X zap X<|zf X X<|Y<|zH ?_
   refine zao ([17, 19] ++ t_rg 111 14) (G := Nat × Heap) (fun ⟨j, h119⟩ => [(17, .bool (zgz ((zB p).take j) k (h0 : Int))), (111, .int .i64 (j : Int))]) (fun ⟨j, h119⟩ w' => Le h113 h119 ∧ St h w h119 w' [[]] ∧ (j ≤ (zB p).length)) (fun ⟨j, h119⟩ => (zB p).length - j) ⟨0, h113⟩ ⟨(zq (by rfl)), rfl, trivial⟩ ⟨Le.refl _, st115, zaP⟩ ?_
   rintro ⟨j, h119⟩ _ w122 ⟨le120, st121, hj⟩
   refine W.sr<|zaO X X X<|Y<|zm ?_
   refine zG rfl (fun c123 => ?_) (fun c123 => ?_)
   ·
    refine zx<|E<|zm<|zH<|W.sr ?_
    obtain ⟨t, ht⟩ : ∃ y_, ((zB (p)))[j]? = some y_ := t_ge (by omega)
    obtain ⟨b124, o125, _, he127, hc126, hr_t⟩ := Sl.elem (f31.up (l118.trans le120)) ht
    obtain ⟨v128, rfl, f129⟩ := hr_t
    have f129_b := f129.le
    refine zT he127 X X (hk := X) (hu := zap) (hz := zbs) X<|U (j := 0) st121.sub hc126 X X X zbI X<|zaa (v := v128) X X<|Y<|have htl:=zdl (List.mem_of_getElem? ht);zl<|zU X X<|zU X X ?_
    refine zas (d := 116) rfl (fun g130 => ?_) (fun g130 => ?_)
    ·
     refine M X X X X X<|M X X X X X<|M X X X X X<|M X X X X X<|M X X X X X<|M X X X X X<|zQ (v := (.bool _)) X X X<|zF X X<|zr<|zK<|E<|zl<|zay X X t_om X<|zf X X<|Y ?_
     refine ⟨⟨j + 1, h119⟩, ⟨?_, rfl, trivial⟩, ?_, ⟨le120, st121, ?_⟩, ?_⟩
     ·exact zq (by first | (rw [openB_snoc ht ha]; simp_all; done) | (rw [zgz, zeJ ht, ← zgz, g130]; rfl))
     ·exact zal
     ·first | omega | (simp; omega)
     show (zB p).length - ((j + 1)) < (zB p).length - j
     omega
    refine Z X X X<|zO (v := v128) X X<|Z X X X<|zf X X<|Z X X X ?_
    obtain ⟨a, ha⟩ : ∃ y_, (t)[k]? = some y_ := t_ge (by omega)
    obtain ⟨b131, o132, _, he134, hc133, hr_a⟩ := Sl.elem f129 ha
    obtain rfl := hr_a
    refine zi rfl rfl (zat he134 rfl rfl (hk := (show _ = ((k : Nat) : Int) by rfl)) (hu := ze) (hz := zn)) ?_
    refine Z X X X<|U (j := 0) st121.sub hc133 X X X zA X<|Z X X X<|zf X X<|Z X X X<|zcX X X X<|zP (v := (.bool _)) X X X<|zF X X<|zr<|zK<|E<|zl<|zay X X t_om X<|zf X X<|Y ?_
    refine ⟨⟨j + 1, h119⟩, ⟨?_, rfl, trivial⟩, ?_, ⟨le120, st121, ?_⟩, ?_⟩
    ·exact zq (by first | (rw [openB_snoc ht ha]; simp_all; done) | (rw [zgz, zeJ ht, ← zgz, g130]; rfl))
    ·exact zal
    ·first | omega | (simp; omega)
    show (zB p).length - ((j + 1)) < (zB p).length - j
    omega
   refine zaA<|zo<|zo<|zak<|E<|zm<|W.sr<|zU X X<|zO (v := v110) X X<|zf X X<|zg st121 X X X Tryz.call45 X (c_postillaw07_has st121.sub (f111.up (le114.trans le120)) _)<|fun r135 w136 h137 le138 st139 q140=> ?_
   obtain rfl := q140
   refine zi X X (r_bneq X X zbc)<|Y ?_
   refine zad rfl (fun c141 => ?_) (fun c141 => ?_)
   ·
    exfalso
    have sure_ : ((!((zgz ((zB p).take j) k (h0 : Int)) == ((decide (((h0 : Int)) ∈ ((zdK (zB p) k q.heads.length)))))))) = false := by rw [List.take_of_length_le (show (zB p).length ≤ j by omega), open_there (n := q.heads.length) (by omega)]; simp
    exact absurd (c141.symm.trans sure_) (by decide)
   refine zx<|E<|W.sr<|zU X X<|Y ?_
   refine zad rfl (fun c142 => ?_) (fun c142 => ?_)
   ·
    refine zl<|zf X X<|zay X X t_om X<|zt X X<|zr<|zK<|E<|zl<|zay X X t_om X<|zf X X<|Y ?_
    refine ⟨⟨h0 + 1, h137⟩, ⟨?_, rfl, trivial⟩, ?_, ⟨((le114.trans le120).trans le138), st139, ?_⟩, ?_⟩
    ·exact zac (by have q_ := c142; rw [List.take_of_length_le (show (zB p).length ≤ j by omega)] at q_; rw [openK_succ]; simp [q_])
    ·exact zal
    ·first | omega | (simp; omega)
    show q.heads.length - ((h0 + 1)) < q.heads.length - h0
    omega
   refine zx<|zK<|E<|zl<|zay X X t_om X<|zf X X<|Y ?_
   refine ⟨⟨h0 + 1, h137⟩, ⟨?_, rfl, trivial⟩, ?_, ⟨((le114.trans le120).trans le138), st139, ?_⟩, ?_⟩
   ·exact zac (by have q_ := c142; rw [List.take_of_length_le (show (zB p).length ≤ j by omega)] at q_; rw [openK_succ]; simp [q_])
   ·exact zal
   ·first | omega | (simp; omega)
   show q.heads.length - ((h0 + 1)) < q.heads.length - h0
   omega
  refine zaA<|zo<|zo<|zak<|E<|zm ?_
  obtain ⟨c1, hc1⟩ : ∃ c_, (zed p)[k]? = some c_ := ⟨_, List.getElem?_eq_getElem (by omega)⟩
  have hcs : (zcB (zB p))[k]? = some c1 := by rw [← settled_ok hep]; exact hc1
  have hqh := (zfQ hpb hq).2.2.1
  have hol := openK_len (zB p) k q.heads.length
  refine zby Tryz.mixed t_kr (Cls h113 _) (Cls.drew st115)<|zdX (v := v110) X X<|u_len (f111.up le114) X ze X<|zcr X X<|u_neq X X X<|zdJ X X ?_
  refine zey (d := 138) rfl (fun g143 => ?_) (fun g143 => ?_)
  ·
   exfalso
   have sure_ : (decide (((zdK (zB p) k q.heads.length).length : Int) ≠ ((zdK (zB p) k h0).length : Int))) = false := by exact decide_eq_false (by rw [show h0 = q.heads.length by omega]; simp)
   exact t_of sure_ g143
  refine zk X X X<|zdX (v := v57) X X<|zk X X X<|zcr X X<|zk X X X ?_
  have l148 := (((le75.trans le82).trans le99).trans le107).trans le114
  obtain ⟨b144, o145, _, he147, hc146, hr_c1⟩ := Sl.elem (f58.up l148) hc1
  obtain rfl := hr_c1
  refine zbp he147 X X (hk := X) (hu := ze) (hz := zn) X<|zk X X X<|zC X X (fun _ hC => (zd (j := 0) hC.sub hc146 X X X zA))<|zk X X X<|u_geq X X X<|zk X X X<|zcr X X<|zk X X X<|u_eql X X X<|zk X X X<|zC X X (fun _ _ => (r_bneq X X zbc))<|zdf (v := (.bool _)) X X X<|zdJ X X ?_
  refine zdn (d := 148) rfl (fun g149 => ?_) (fun g149 => ?_)
  ·
   exfalso
   have sure_ : ((!((decide (c1 ≥ 0)) == (decide (((zdK (zB p) k h0).length : Int) = 1))))) = false := by rw [show h0 = q.heads.length by omega]; rw [ends_oneI hn hq hcs]; simp
   exact absurd (g149.symm.trans sure_) (by decide)
  refine zk X X X<|zdX (v := v57) X X<|zk X X X<|zcr X X<|zk X X X<|zbp he147 X X (hk := X) (hu := ze) (hz := zn) X<|zk X X X<|zC X X (fun _ hC => (zd (j := 0) hC.sub hc146 X X X zA))<|zk X X X<|u_geq X X X<|zk X X X<|zdJ X X ?_
  refine zey (d := 154) rfl (fun g150 => ?_) (fun g150 => ?_)
  ·
   refine zk X X X<|zdX (v := v57) X X<|zk X X X<|zcr X X<|zk X X X<|zbp he147 X X (hk := X) (hu := ze) (hz := zn) X<|zk X X X<|zC X X (fun _ hC => (zd (j := 0) hC.sub hc146 X X X zA))<|zk X X X<|zdX (v := v110) X X<|zk X X X ?_
   obtain ⟨o0, ho0⟩ : ∃ y_, ((zdK (zB p) k q.heads.length))[0]? = some y_ := t_ge (by rw [ends_set hn hq hcs (by omega)]; exact Nat.zero_lt_one)
   obtain ⟨b151, o152, _, he154, hc153, hr_o0⟩ := Sl.elem (f111.up le114) ho0
   obtain rfl := hr_o0
   refine zbp he154 X X (hk := X) (hu := ze) (hz := zn) X<|zk X X X<|zC X X (fun _ hC => (zd (j := 0) hC.sub hc153 X X X zA))<|zk X X X<|u_neq X X X<|zk X X X<|zdx (v := (.bool _)) X X X<|zdf (v := (.bool _)) X X X<|zdJ X X ?_
   refine zey (d := 165) rfl (fun g155 => ?_) (fun g155 => ?_)
   ·
    exfalso
    have sure_ : (decide (c1 ≠ o0)) = false := by exact decide_eq_false (fun q_ => q_ (ends_first hn hq hcs (by omega) ho0))
    exact t_of sure_ g155
   refine zk X X X<|zdX (v := v57) X X<|zk X X X<|zcr X X<|zk X X X<|zbp he147 X X (hk := X) (hu := ze) (hz := zn) X<|zk X X X<|zC X X (fun _ hC => (zd (j := 0) hC.sub hc146 X X X zA))<|zk X X X<|u_lss X X X<|zdf (v := (.bool _)) X X X<|zbe ?_
   rintro w156 ⟨h157, s158⟩
   have st159 := st115.call0 s158
   refine E ?_
   refine zG rfl (fun c160 => ?_) (fun c160 => ?_)
   ·
    exfalso
    have sure_ : (decide (c1 < (-1))) = false := by exact decide_eq_false (ends_low hpb hcs)
    exact t_of sure_ c160
   refine zx<|zK<|E<|zl<|zay X X t_om X<|zf X X<|Y ?_
   have l161 := (((le82.trans le99).trans le107).trans le114).trans s158.le
   refine ⟨⟨k + 1, h157⟩, ⟨rfl, trivial⟩, ?_, ⟨l161, st159.take 0, ?_⟩, ?_⟩
   ·exact zal
   ·first | omega | (simp; omega)
   show p.questions.length - ((k + 1)) < p.questions.length - k
   omega
  refine zy X X X X X<|zy X X X X X<|zy X X X X X<|zy X X X X X<|zy X X X X X<|zy X X X X X<|zy X X X X X<|zy X X X X X<|zk X X X<|zdf (v := (.bool _)) X X X<|zdf (v := (.bool _)) X X X<|zdJ X X<|zk X X X<|zdX (v := v57) X X<|zk X X X<|zcr X X<|zk X X X<|zbp he147 X X (hk := X) (hu := ze) (hz := zn) X<|zk X X X<|zC X X (fun _ hC => (zd (j := 0) hC.sub hc146 X X X zA))<|zk X X X<|u_lss X X X<|zdf (v := (.bool _)) X X X<|zbe ?_
  rintro w162 ⟨h163, s164⟩
  have st165 := st115.call0 s164
  refine E ?_
  refine zG rfl (fun c166 => ?_) (fun c166 => ?_)
  ·
   exfalso
   have sure_ : (decide (c1 < (-1))) = false := by exact decide_eq_false (ends_low hpb hcs)
   exact t_of sure_ c166
  refine zx<|zK<|E<|zl<|zay X X t_om X<|zf X X<|Y ?_
  have l167 := (((le82.trans le99).trans le107).trans le114).trans s164.le
  refine ⟨⟨k + 1, h163⟩, ⟨rfl, trivial⟩, ?_, ⟨l167, st165.take 0, ?_⟩, ?_⟩
  ·exact zal
  ·first | omega | (simp; omega)
  show p.questions.length - ((k + 1)) < p.questions.length - k
  omega
 refine zaA<|zo<|zo<|zak<|E<|W.sr<|zU X X<|zF X X<|Y<|zw<|zb Tryz.results7 ?_
 refine ⟨h81, _, rfl, st83.done, ?_⟩
 refine zq ?_
 first | rfl | (simp_all; done)
end Go.Pk
