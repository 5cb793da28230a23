/- A PART OF THE PROOF: contracts of functions, each walked once (much of it printed by a program of the author's own). -/
import Derived.Test.YtjdbapoodefncaaGreatDoorT14
import Derived.Test.YtjdbapoodefncaaGreatDoorT2
set_option linter.unusedSimpArgs false
set_option linter.unusedVariables false
set_option maxRecDepth 4000
namespace Go.Pk
open Go Go.RowKit Go.Proofs
theorem ziM {h : Heap} {w : World} (hs : Sub h w) {p : Poll} {p_v0 : Value} (p_f0 : Sl LChapter h p_v0 p.text.chapters) {p_v1 : Value} (p_f1 : Sl LRule h p_v1 p.lexicon.rules) {p_v2 : Value} (p_f2 : Sl LDecision h p_v2 p.lexicon.decisions) {p_v3 : Value} (p_f3 : Sl LQuestion h p_v3 p.questions) {p_v4 : Value} (p_f4 : Sl LVoter h p_v4 p.voters) {ts_v : Value} {ts : (List (List Int))} (ts_f : Sl (LSl LInt) h ts_v ts) (k : Int) (hp : zcT p = true) (hk0 : 0 ≤ k ∧ k < (p.questions.length : Int)) (hl : ∀ t ∈ ts, k < (t.length : Int)) (hn : ts.length ≤ 1000) : Calls Tryz.prog 35 #[.agg #[p_v0, p_v1, p_v2, p_v3, p_v4], ts_v, .int .i64 k] w (Rets h w (fun _ _ res_ => res_ = .int .i64 ((zhu ts k.toNat (((p.questions[k.toNat]?).getD zfm).heads.length))))) := by
 refine zS (n := 42) Tryz.func35 X X X<|have st0:=zbj hs;have p_f0_b:=p_f0.le;have p_f1_b:=p_f1.le;have p_f2_b:=p_f2.le;have p_f3_b:=p_f3.le;have p_f4_b:=p_f4.le;have ts_f_b:=ts_f.le;ze<|zI st0 (cs := [p_v0, p_v1, p_v2, p_v3, p_v4]) X X X<|fun b1 w2 h3 le4 hc5 st6=>zr X X<|Y<|ze<|zr X X<|Y<|zl<|ze<|U X zA X zbi X X<|M (j := 3) st6.sub hc5 X X X zbB X<|zf X X ?_;obtain ⟨q, hq⟩ : ∃ y_, (p.questions)[k.toNat]? = some y_ := zby zq;obtain ⟨b7, o8, _, he10, hc9, hr_q⟩ := Sl.elem (p_f3.up le4) hq;obtain ⟨v11, rfl, f12⟩ := hr_q;have f12_b := f12.le;refine zg rfl rfl (zaE he10 rfl rfl (hk := (show _ = ((k.toNat : Nat) : Int) by omega)) (hu := zao) (hz := zbJ)) ?_;refine U X zaD X zce X X<|M (j := 3) st6.sub hc9 X X X zcC X<|zaG f12 X zba X<|zf X X<|Y<|zH ?_;refine zax ([7, 8, 9, 11] ++ zbU 19 22) (G := Nat × Heap) (fun ⟨h0, h13⟩ => [(7, .int .i64 (zhu ts k.toNat h0)), (19, .int .i64 (h0 : Int))]) (fun ⟨h0, h13⟩ w' => Le h3 h13 ∧ St h w h13 w' [] ∧ (h0 ≤ q.heads.length)) (fun ⟨h0, h13⟩ => q.heads.length - h0) ⟨0, h3⟩ ⟨rfl, rfl, trivial⟩ ⟨Le.refl _, st6, zaU⟩ ?_;rintro ⟨h0, h13⟩ _ w16 ⟨le14, st15, hh0⟩;refine ze<|zaR X X X<|Y<|zl ?_;refine zD rfl (fun c17 => ?_) (fun c17 => ?_)
 ·refine zy<|E<|zl<|zH<|zl<|have hqh:=(zeW hp hq).2.2.1;zk<|zf X X<|zr X X<|Y<|ze<|zr X X<|Y<|zl<|ze<|zU (v := ts_v) X X<|have l18:=le4.t le14;zaG (ts_f.up l18) X zaz X<|zf X X<|Y<|zH ?_;refine zax ([9, 11] ++ zbU 24 13) (G := Nat × Heap) (fun ⟨i, h19⟩ => [(9, .int .i64 ((zgh (ts.take i) k.toNat (h0 : Int) : Nat) : Int)), (24, .int .i64 (i : Int))]) (fun ⟨i, h19⟩ w' => Le h13 h19 ∧ St h w h19 w' [] ∧ (i ≤ ts.length)) (fun ⟨i, h19⟩ => ts.length - i) ⟨0, h13⟩ ⟨rfl, rfl, trivial⟩ ⟨Le.refl _, st15, zaU⟩ ?_;rintro ⟨i, h19⟩ _ w22 ⟨le20, st21, hi⟩;have hcl := zfv (ts.take i) k.toNat (h0 : Int);rw [List.length_take] at hcl;refine ze<|zaR X X X<|Y<|zl ?_;refine zD rfl (fun c23 => ?_) (fun c23 => ?_)
  ·refine zy<|E<|zl<|zH<|ze ?_;obtain ⟨t, ht⟩ : ∃ y_, (ts)[i]? = some y_ := zby zq;have l28 := l18.t le20;obtain ⟨b24, o25, _, he27, hc26, hr_t⟩ := Sl.elem (ts_f.up l28) ht;obtain ⟨v29, rfl, f30⟩ := hr_t;have f30_b := f30.le;refine zW he27 X X (hk := X) (hu := zaz) (hz := zbR) X<|M (j := 0) st21.sub hc26 X X X zcq X<|zad (v := v29) X X<|Y<|ze<|zU (v := v29) X X<|zf X X ?_;obtain ⟨a, ha⟩ : ∃ y_, (t)[k.toNat]? = some y_ := zby (by have q1 := hl t (List.mem_of_getElem? ht); omega);obtain ⟨b31, o32, _, he34, hc33, hr_a⟩ := Sl.elem f30 ha;subst hr_a;refine zg rfl rfl (zaE he34 rfl rfl (hk := (show _ = ((k.toNat : Nat) : Int) by omega)) (hu := zh) (hz := zn)) ?_;refine M (j := 0) st21.sub hc33 X X X zG X<|zf X X<|zcw X X X<|Y ?_;refine zD rfl (fun c35 => ?_) (fun c35 => ?_)
   ·refine zk<|zf X X<|zaI X X zaM X<|zr X X<|zp<|zQ<|E<|zk<|zaI X X zaM X<|zf X X<|Y ?_;refine ⟨⟨i + 1, h19⟩, ⟨?_, rfl, trivial⟩, ?_, ⟨le20, st21, ?_⟩, ?_⟩
    ·exact zah (by rw [cntH_snoc ht]; first | (rw [if_pos (by rw [ha]; simp_all)]; simp; done) | (rw [if_neg (by rw [ha]; simp_all)]; simp; done))
    ·exact zap
    ·first | omega | (simp; omega)
    show ts.length - ((i + 1)) < ts.length - i;omega
   refine zy<|zQ<|E<|zk<|zaI X X zaM X<|zf X X<|Y ?_;refine ⟨⟨i + 1, h19⟩, ⟨?_, rfl, trivial⟩, ?_, ⟨le20, st21, ?_⟩, ?_⟩
   ·exact zah (by rw [cntH_snoc ht]; first | (rw [if_pos (by rw [ha]; simp_all)]; simp; done) | (rw [if_neg (by rw [ha]; simp_all)]; simp; done))
   ·exact zap
   ·first | omega | (simp; omega)
   show ts.length - ((i + 1)) < ts.length - i;omega
  refine zaH<|zm<|zm<|zam<|E<|zk<|zf X X<|zf X X<|zg X X (r_max X X)<|zr X X<|zp<|zQ<|E<|zk<|zaI X X zaM X<|zf X X<|Y ?_;refine ⟨⟨h0 + 1, h19⟩, ⟨?_, rfl, trivial⟩, ?_, ⟨(le14.t le20), st21, ?_⟩, ?_⟩
  ·exact zah (by rw [List.take_of_length_le zq]; rfl)
  ·exact zap
  ·first | omega | (simp; omega)
  show q.heads.length - ((h0 + 1)) < q.heads.length - h0;omega
 refine zaH<|zm<|zm<|zam<|E<|ze<|zf X X<|zr X X<|Y<|zw<|zb Tryz.results35 ?_;refine ⟨h13, _, rfl, st15.done, ?_⟩;refine zah ?_;rw [hq, show h0 = q.heads.length by omega]; rfl
set_option maxHeartbeats 4000000 in
theorem zkd {h : Heap} {w : World} (hs : Sub h w) {p : Poll} {p_v0 : Value} (p_f0 : Sl LChapter h p_v0 p.text.chapters) {p_v1 : Value} (p_f1 : Sl LRule h p_v1 p.lexicon.rules) {p_v2 : Value} (p_f2 : Sl LDecision h p_v2 p.lexicon.decisions) {p_v3 : Value} (p_f3 : Sl LQuestion h p_v3 p.questions) {p_v4 : Value} (p_f4 : Sl LVoter h p_v4 p.voters) (question : Int) (question_l : 0 ≤ question ∧ question ≤ 255) (K1 : Cells h 1 0 Tryz.glob1) (K0 : Cells h 0 0 Tryz.glob0) : Calls Tryz.prog 6 #[.agg #[p_v0, p_v1, p_v2, p_v3, p_v4], .int .u8 question] w (Rets h w (fun _ _ res_ => res_ = .bool (true))) := by
 refine zS (n := 99) Tryz.func6 X X X<|have st0:=zbj hs;have p_f0_b:=p_f0.le;have p_f1_b:=p_f1.le;have p_f2_b:=p_f2.le;have p_f3_b:=p_f3.le;have p_f4_b:=p_f4.le;ze<|zI st0 (cs := [p_v0, p_v1, p_v2, p_v3, p_v4]) X X X<|fun b1 w2 h3 le4 hc5 st6=>zC X X<|Y<|ze<|zd st6 X X X Tryz.call10 X (zgj st6.sub (K1.up le4) (K0.up le4))<|fun r7 w8 h9 le10 st11 q12=> ?_;subst q12;refine zC X X<|Y<|zl<|ze<|zx st11.sub (hc5.up le10) X zbd zar X X<|have l13:=le4.t le10;zd st11 X X X Tryz.call26 X (zih st11.sub (p := p) (p_f0.up l13) (p_f1.up l13) (p_f2.up l13) (p_f3.up l13) (p_f4.up l13))<|fun r14 w15 h16 le17 st18 q19=> ?_;subst q19;refine zbt X X<|zV X X ?_;refine zas (d := 16) rfl (fun g20 => ?_) (fun g20 => ?_)
 ·refine zR 2 X<|zM (v := (.bool _)) X X X<|Y ?_;refine zai rfl (fun c21 => ?_) (fun c21 => ?_)
  ·refine ze<|zV X X<|zC X X<|Y<|zw<|zc<|zb zfN ?_;refine ⟨h16, _, rfl, st18.done, ?_⟩;refine zt ?_;rfl
  cases c21
 refine Z X X X<|zV X X<|Z X X X<|zbt X X<|zN (v := (.bool _)) X X X<|Y ?_;refine zai rfl (fun c22 => ?_) (fun c22 => ?_)
 ·cases c22
 refine zy<|E<|zl ?_;obtain ⟨hsm, hk1⟩ : zhe p = true ∧ zbL p = 0 := by simpa using g20
 have hpb := (zcd hk1).2;have hpl := zcL hpb;refine zk<|zx st18.sub (hc5.up (le10.t le17)) X zbd zar X X ?_;have l23 := l13.t le17;refine zd st18 rfl rfl rfl Tryz.call32 rfl (c_postillaw07_truths st18.sub (p := p) (p_f0.up l23) (p_f1.up l23) (p_f2.up l23) (p_f3.up l23) (p_f4.up l23) (by exact hpb)) ?_;intro r24 w25 h26 le27 st28 q29;obtain ⟨v30, e32, f31⟩ := q29;rw [← e32] at f31;have f31_b := f31.le;refine zad (v := r24) X X<|Y<|ze<|zx st28.sub (hc5.up ((le10.t le17).t le27)) X zbd zar X X<|have l33:=l23.t le27;zd st28 X X X Tryz.call22 X (c_vote_Next st28.sub (p := p) (p_f0.up l33) (p_f1.up l33) (p_f2.up l33) (p_f3.up l33) (p_f4.up l33) (K1.up l33) (K0.up l33))<|fun r34 w35 h36 le37 st38 q39=> ?_;subst q39;refine zbS X X<|zz (v := (.int _ _)) X X X<|zz (v := (.int _ _)) X X X<|zr X X<|zr X X<|Y<|zl<|ze<|zU (v := r24) X X<|zaG (f31.up le37) X zaz X<|zaR X X X<|Y ?_;refine zD rfl (fun c40 => ?_) (fun c40 => ?_)
 ·refine zl<|have hte:=zen hpb;zk<|zV X X<|zV X X<|Z X X X<|zU (v := r24) X X<|Z X X X<|zaG (f31.up le37) X zaz X<|Z X X X<|zcw X X X<|Z X X X<|zV X X ?_;refine zO (d := 36) rfl (fun g41 => ?_) (fun g41 => ?_)
  ·refine Z X X X<|zf X X<|Z X X X<|zcw X X X<|Z X X X<|zM (v := (.bool _)) X X X<|Z X X X<|zV X X ?_;refine zO (d := 40) rfl (fun g42 => ?_) (fun g42 => ?_)
   ·refine zR 7 X<|Z X X X<|zM (v := (.bool _)) X X X<|zM (v := (.bool _)) X X X<|zC X X<|Y<|zw<|zc<|zb zfN ?_;refine ⟨h36, _, rfl, st38.done, ?_⟩;refine zt ?_;rfl
   refine Z X X X<|zU (v := r24) X X<|Z X X X<|zaG (f31.up le37) X zaz X<|Z X X X<|zcw X X X<|Z X X X<|zV X X ?_;refine zO (d := 44) rfl (fun g43 => ?_) (fun g43 => ?_)
   ·refine Z X X X<|zf X X<|Z X X X<|zcw X X X<|Z X X X<|zM (v := (.bool _)) X X X<|Z X X X<|zN (v := (.bool _)) X X X<|zM (v := (.bool _)) X X X<|zC X X<|Y<|zw<|zc<|zb zfN ?_;refine ⟨h36, _, rfl, st38.done, ?_⟩;refine zt ?_
    (have q0_ := next_small0 hk1; have q1_ := ziZ hk1; simp_all)
   refine zR 2 X<|Z X X X<|zN (v := (.bool _)) X X X<|Z X X X<|zN (v := (.bool _)) X X X<|zM (v := (.bool _)) X X X<|zC X X<|Y<|zw<|zc<|zb zfN ?_;refine ⟨h36, _, rfl, st38.done, ?_⟩;refine zt ?_
   (have q0_ := next_small0 hk1; have q1_ := ziZ hk1; simp_all)
  refine zR 2 X<|Z X X X<|zN (v := (.bool _)) X X X<|Z X X X<|zV X X<|Z X X X<|zU (v := r24) X X<|Z X X X<|zaG (f31.up le37) X zaz X<|Z X X X<|zcw X X X<|Z X X X<|zV X X ?_;refine zO (d := 44) rfl (fun g44 => ?_) (fun g44 => ?_)
  ·refine Z X X X<|zf X X<|Z X X X<|zcw X X X<|Z X X X<|zM (v := (.bool _)) X X X<|Z X X X<|zN (v := (.bool _)) X X X<|zM (v := (.bool _)) X X X<|zC X X<|Y<|zw<|zc<|zb zfN ?_;refine ⟨h36, _, rfl, st38.done, ?_⟩;refine zt ?_
   (have q1_ := ziZ hk1 zq; simp_all)
  refine zR 2 X<|Z X X X<|zN (v := (.bool _)) X X X<|Z X X X<|zN (v := (.bool _)) X X X<|zM (v := (.bool _)) X X X<|zC X X<|Y<|zw<|zc<|zb zfN ?_;refine ⟨h36, _, rfl, st38.done, ?_⟩;refine zt ?_
  (exfalso; omega)
 refine zy<|E<|zl<|zl ?_;have hte := zen hpb;obtain ⟨hne, hnr⟩ := next_big hk1 (show 2 ≤ (zF p).length by omega);have hnp := next_pos (show 1 < (zF p).length by omega);have hnl := nextK_le (zF p) (p.questions.length - 1);have hns := nextK_small (show 1 < (zF p).length by omega);refine zk<|zf X X<|zcl X X X<|zV X X ?_;refine zO (d := 52) rfl (fun g45 => ?_) (fun g45 => ?_)
 ·exfalso;have sure_ : (decide ((nextE (p)) ≠ 0)) = false := by exact decide_eq_false (by rw [hne]; decide)
  exact zgW sure_ g45
 refine Z X X X<|zf X X<|Z X X X<|zaR X X X<|zN (v := (.bool _)) X X X<|zV X X ?_;refine zO (d := 56) rfl (fun g46 => ?_) (fun g46 => ?_)
 ·exfalso;have sure_ : (decide (((zja (p))) < 0)) = false := by exact decide_eq_false zq
  exact zgW sure_ g46
 refine Z X X X<|zf X X<|Z X X X<|U X zA X zbi X X<|Z X X X<|have l47:=((le10.t le17).t le27).t le37;M (j := 3) st38.sub (hc5.up l47) X X X zbB X<|Z X X X<|have l48:=l33.t le37;zaG (p_f3.up l48) X zao X<|Z X X X<|zhP X X X<|zN (v := (.bool _)) X X X<|Y ?_;refine zD rfl (fun c49 => ?_) (fun c49 => ?_)
 ·exfalso;have sure_ : (decide (((zja (p))) ≥ (p.questions.length : Int))) = false := by exact decide_eq_false zq
  exact zgW sure_ c49
 refine zy<|E<|zl ?_;have hn0 : 0 < p.questions.length := by omega
 obtain ⟨K, hK⟩ : ∃ k_ : Nat, k_ = question.toNat % p.questions.length := ⟨_, rfl⟩;have hKe : question.tmod (p.questions.length : Int) = (K : Int) := by rw [hK]; exact tmod_nat zq
 have hKl : K < p.questions.length := by rw [hK]; exact Nat.mod_lt _ hn0
 obtain ⟨q, hq⟩ : ∃ q_, p.questions[K]? = some q_ := ⟨_, List.getElem?_eq_getElem hKl⟩;obtain ⟨qn, hqn⟩ : ∃ q_, p.questions[(zes (zF p) (p.questions.length - 1))]? = some q_ := ⟨_, List.getElem?_eq_getElem zq⟩;have hl1 : (zhu (zF p) (zja p).toNat (((p.questions[(zja p).toNat]?).getD zfm).heads.length)) = zcj (zF p) (zes (zF p) (p.questions.length - 1)) := leftP_at hpb hqn hnr;have hl2 : (zhu (zF p) (question.tmod (p.questions.length : Int)).toNat (((p.questions[(question.tmod (p.questions.length : Int)).toNat]?).getD zfm).heads.length)) = zcj (zF p) K := leftP_at hpb hq hKe;have hmin := nextK_min (zF p) (p.questions.length - 1) K zq;refine zk<|zf X X ?_;refine zg rfl rfl (zhB rfl rfl zck (IntWalk.i64_in _ zq)) ?_;refine U X zA X zbi X X<|M (j := 3) st38.sub (hc5.up l47) X X X zbB X<|zaG (p_f3.up l48) X zao X<|zg X X (r_rem X X zaM)<|zr X X<|Y<|zl<|zbK Tryz.mixed O (Cls h36 _) (Cls.drew st38)<|zB X X (fun _ hC => (zau hC.sub (hc5.up l47) X zbd zar X))<|zfA (v := r24) X X<|zdj X X ?_;refine zcD rfl rfl (fun _ => zaK rfl Tryz.call35 rfl) (fun _ hC => Rets.quiet hC (by have con := (ziM hC.sub (p := p) (p_f0.up l48) (p_f1.up l48) (p_f2.up l48) (p_f3.up l48) (p_f4.up l48) (f31.up le37) (k := ((zja (p)))) (by exact hpb) zq (by intro t_ ht_; have q_ := zdE ht_; omega) zq); rw [hl1] at con; exact con)) ?_;refine zB X X (fun _ hC => (zau hC.sub (hc5.up l47) X zbd zar X))<|zfA (v := r24) X X<|zdj X X ?_;refine zcD rfl rfl (fun _ => zaK rfl Tryz.call35 rfl) (fun _ hC => Rets.quiet hC (by have con := (ziM hC.sub (p := p) (p_f0.up l48) (p_f1.up l48) (p_f2.up l48) (p_f3.up l48) (p_f4.up l48) (f31.up le37) (k := (question.tmod (p.questions.length : Int))) (by exact hpb) zq (by intro t_ ht_; have q_ := zdE ht_; omega) zq); rw [hl2] at con; exact con)) ?_;refine u_asI X X<|u_asI X X<|zbu ?_;rintro w50 ⟨h51, s52⟩;have st53 := st38.call0 s52;refine E<|ze<|zV X X<|zV X X<|Z X X X<|zf X X<|Z X X X<|zU (v := r24) X X<|Z X X X<|zaG (f31.up (le37.trans s52.le)) X zaz X<|Z X X X<|zaR X X X<|zM (v := (.bool _)) X X X<|zV X X ?_;refine zO (d := 84) rfl (fun g54 => ?_) (fun g54 => ?_)
 ·refine Z X X X<|zf X X<|Z X X X<|zf X X<|Z X X X<|zg X X (r_leq X X)<|zM (v := (.bool _)) X X X<|zV X X ?_;refine zO (d := 89) rfl (fun g55 => ?_) (fun g55 => ?_)
  ·refine Z X X X<|zf X X<|Z X X X<|zf X X<|Z X X X<|zaR X X X<|Z X X X<|zV X X ?_;refine zO (d := 93) rfl (fun g56 => ?_) (fun g56 => ?_)
   ·refine zR 3 X<|Z X X X<|zM (v := (.bool _)) X X X<|zM (v := (.bool _)) X X X<|zC X X<|Y<|zw<|zb zfN ?_;refine ⟨h51, _, rfl, st53.done, ?_⟩;refine zt ?_;rfl
   refine Z X X X<|zf X X<|Z X X X<|zf X X<|Z X X X<|zhP X X X<|Z X X X<|zN (v := (.bool _)) X X X<|zM (v := (.bool _)) X X X<|zC X X<|Y<|zw<|zb zfN ?_;refine ⟨h51, _, rfl, st53.done, ?_⟩;refine zt ?_;exact decide_eq_true zq
  exfalso;have sure_ : (decide (((zcj (zF p) (zes (zF p) (p.questions.length - 1)))) ≤ ((zcj (zF p) K)))) = true := by exact decide_eq_true hmin.1
  exact g55 (zeN sure_)
 exfalso;have sure_ : (decide (((zcj (zF p) (zes (zF p) (p.questions.length - 1)))) < ((zF (p)).length : Int))) = true := by exact decide_eq_true hns
 exact g54 (zeN sure_)
end Go.Pk
