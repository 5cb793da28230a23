/- A PART OF THE PROOF: contracts of functions, each walked once (much of it printed by a program of the author's own). -/
import Derived.Test.YtfpiiheehdedmaaGreatDoorT14
import Derived.Test.YtfpiiheehdedmaaGreatDoorT2
set_option linter.unusedSimpArgs false
set_option linter.unusedVariables false
set_option maxRecDepth 4000
namespace Go.Pk
open Go Go.RowKit Go.Proofs
set_option maxHeartbeats 4000000 in
theorem zil {h : Heap} {w : World} (hs : Sub h w) {p : Poll} {p_v0 : Value} (p_f0 : Sl LChapter h p_v0 p.text.chapters) {p_v1 : Value} (p_f1 : Sl LRule h p_v1 p.lexicon.rules) {p_v2 : Value} (p_f2 : Sl LDecision h p_v2 p.lexicon.decisions) {p_v3 : Value} (p_f3 : Sl LQuestion h p_v3 p.questions) {p_v4 : Value} (p_f4 : Sl LVoter h p_v4 p.voters) (voter : Int) (voter_l : 0 ≤ voter ∧ voter ≤ 255) (K1 : Cells h 1 0 Tryz.glob1) (K0 : Cells h 0 0 Tryz.glob0) : Calls Tryz.prog 13 #[.agg #[p_v0, p_v1, p_v2, p_v3, p_v4], .int .u8 voter] w (Rets h w (fun _ _ res_ => res_ = .bool (true))) := by
 refine zL (n := 113) Tryz.func13 X X X<|have st0:=t_s0 hs;have p_f0_b:=p_f0.le;have p_f1_b:=p_f1.le;have p_f2_b:=p_f2.le;have p_f3_b:=p_f3.le;have p_f4_b:=p_f4.le;W.sr<|zJ st0 (cs := [p_v0, p_v1, p_v2, p_v3, p_v4]) X X X<|fun b1 w2 h3 le4 hc5 st6=>zF X X<|Y<|W.sr<|zg st6 X X X Tryz.call33 X (zhp st6.sub (K1.up le4) (K0.up le4))<|fun r7 w8 h9 le10 st11 q12=> ?_
 obtain rfl := q12
 refine zF X X<|Y<|zm<|W.sr<|zz st11.sub (hc5.up le10) X zbn zaI X X<|have l13:=le4.trans le10;zg st11 X X X Tryz.call41 X (zho st11.sub (p := p) (p_f0.up l13) (p_f1.up l13) (p_f2.up l13) (p_f3.up l13) (p_f4.up l13))<|fun r14 w15 h16 le17 st18 q19=> ?_
 obtain rfl := q19
 refine zbr X X<|zU X X ?_
 refine zas (d := 19) rfl (fun g20 => ?_) (fun g20 => ?_)
 ·
  refine M X X X X X<|M X X X X X<|M X X X X X<|M X X X X X<|zQ (v := (.bool _)) X X X<|zU X X<|M X X X X X<|M X X X X X<|zQ (v := (.bool _)) X X X<|Y ?_
  refine zad rfl (fun c21 => ?_) (fun c21 => ?_)
  ·
   refine W.sr<|zU X X<|zF X X<|Y<|zw<|zc<|zb Tryz.results13 ?_
   refine ⟨h16, _, rfl, st18.done, ?_⟩
   refine zq ?_
   rfl
  cases c21
 refine Z X X X<|O X zD X zbi X X<|Z X X X<|U (j := 4) st18.sub (hc5.up (le10.trans le17)) X X X zbF X<|Z X X X<|have l22:=l13.trans le17;zaC (p_f4.up l22) X zan X<|Z X X X<|zcX X X X<|zP (v := (.bool _)) X X X<|zU X X ?_
 refine zab (d := 25) rfl (fun g23 => ?_) (fun g23 => ?_)
 ·
  refine M X X X X X<|M X X X X X<|zQ (v := (.bool _)) X X X<|Y ?_
  refine zad rfl (fun c24 => ?_) (fun c24 => ?_)
  ·
   refine W.sr<|zU X X<|zF X X<|Y<|zw<|zc<|zb Tryz.results13 ?_
   refine ⟨h16, _, rfl, st18.done, ?_⟩
   refine zq ?_
   rfl
  cases c24
 refine Z X X X<|zU X X<|Z X X X<|zbr X X<|zP (v := (.bool _)) X X X<|Y ?_
 refine zad rfl (fun c25 => ?_) (fun c25 => ?_)
 ·
  cases c25
 refine zx<|E<|zm ?_
 obtain ⟨hsm, hk1⟩ : zgn p = true ∧ zcw p = 0 := by simpa using g20
 have hpb := (zbY hk1).2
 have hpl := zck hpb
 have hn0 : 0 < p.voters.length := by omega
 obtain ⟨K, hK⟩ : ∃ k_ : Nat, k_ = voter.toNat % p.voters.length := ⟨_, rfl⟩
 have hKe : voter.tmod (p.voters.length : Int) = (K : Int) := by rw [hK]; exact tmod_nat (by omega)
 have hKl : K < p.voters.length := by rw [hK]; exact Nat.mod_lt _ hn0
 obtain ⟨v, hv⟩ : ∃ q_, p.voters[K]? = some q_ := ⟨_, List.getElem?_eq_getElem hKl⟩
 have hvp := zfa hpb (List.mem_of_getElem? hv)
 have hor := allE_or hk1
 have hwe : allE p (inB (voter.tmod (p.voters.length : Int)) 0 ((p.voters.length : Int) - 1)) = allE p true := by rw [hKe]; exact (wrongs_ok hv).1
 have hwr : zfl p (voter.tmod (p.voters.length : Int)) = (zfm p K) := by rw [hKe]; rfl
 refine zl<|zf X X ?_
 refine zi rfl rfl (zgJ rfl rfl zbU (IntWalk.i64_in _ (by omega))) ?_
 refine O X zD X zbi X X<|U (j := 4) st18.sub (hc5.up (le10.trans le17)) X X X zbF X<|zaC (p_f4.up l22) X zan X<|zi X X (r_rem X X t_om)<|zt X X<|Y<|W.sr<|zz st18.sub (hc5.up (le10.trans le17)) X zbn zaI X X<|zf X X ?_
 have con := (c_vote_Wrongs st18.sub (p := p) (p_f0.up l22) (p_f1.up l22) (p_f2.up l22) (p_f3.up l22) (p_f4.up l22) (voter := (voter.tmod (p.voters.length : Int))) (K1.up l22) (K0.up l22))
 rw [hwr, hwe] at con
 refine zg st18 X X X Tryz.call17 X con<|fun r26 w27 h28 le29 st30 q31=> ?_
 obtain rfl := q31
 clear con
 refine zcE X X<|zM (v := (.agg (List.toArray _))) X X X<|zM (v := (.int _ _)) X X X<|zX st30 Tryz.zeroValue36 X X<|fun b32 w33 st34=>zN st34 (k := 0) X X X (za X (za X zau)) zej X X X<|fun w35 st36=> ?_
 obtain ⟨h37, le38, hb39, st41⟩ := st36.freeze (k := 0) rfl
 have hc40 := Cells.of hb39
 refine zt X X<|Y<|W.sr<|have l42:=((le10.trans le17).trans le29).trans le38;zz st41.sub (hc5.up l42) X zbn zaI X X ?_
 have l43 := (l22.trans le29).trans le38
 refine zg st41 rfl rfl rfl Tryz.call46 rfl (zhg st41.sub (p := p) (p_f0.up l43) (p_f1.up l43) (p_f2.up l43) (p_f3.up l43) (p_f4.up l43) (by exact hpb)) ?_
 intro r44 w45 h46 le47 st48 q49
 obtain ⟨v50, e52, f51⟩ := q49
 rw [← e52] at f51
 have f51_b := f51.le
 refine zaa (v := r44) X X<|Y<|zm<|W.sr<|zO (v := r44) X X<|zaC f51 X zap X<|zcX X X X<|Y ?_
 refine zG rfl (fun c53 => ?_) (fun c53 => ?_)
 ·
  refine W.sr<|zU X X<|zU X X<|Z X X X<|zf X X<|Z X X X<|zcX X X X<|zQ (v := (.bool _)) X X X<|zF X X<|Y<|zw<|zc<|zb Tryz.results13 ?_
  refine ⟨h46, _, rfl, st48.done, ?_⟩
  refine zq ?_
  simp_all
 refine zx<|E<|zm ?_
 have ht0 : zB p ≠ [] := by intro e_; have q_ := c53; rw [e_] at q_; exact q_ rfl
 have he0 : allE p true = 0 := by rcases hor with h_ | h_; exact h_.1; exact absurd h_.2 ht0
 obtain ⟨hin, hlo, hhi, hle⟩ := wrongs_in hpb he0 ht0 hv
 refine zl<|zF X X<|zF X X<|Y<|zm<|W.sr<|zO (v := r44) X X<|zaC f51 X zap X<|zf X X<|Y<|zH ?_
 refine zao ([4, 10, 11, 13, 14] ++ t_rg 54 37) (G := Nat × Heap) (fun ⟨i, h54⟩ => [(10, .bool (((zB p).take i).any fun t => decide ((zbb v t : Int) = (zfm p K).lo))), (11, .bool (((zB p).take i).any fun t => decide ((zbb v t : Int) = (zfm p K).hi))), (54, .int .i64 (i : Int))]) (fun ⟨i, h54⟩ w' => Le h46 h54 ∧ St h w h54 w' [[]] ∧ (i ≤ (zB p).length)) (fun ⟨i, h54⟩ => (zB p).length - i) ⟨0, h46⟩ ⟨(zq (by rfl)), (zq (by rfl)), rfl, trivial⟩ ⟨Le.refl _, st48, zaP⟩ ?_
 rintro ⟨i, h54⟩ _ w57 ⟨le55, st56, hi⟩
 refine W.sr<|zaO X X X<|Y<|zm ?_
 refine zG rfl (fun c58 => ?_) (fun c58 => ?_)
 ·
  refine zx<|E<|zm<|zH<|W.sr ?_
  obtain ⟨t, ht⟩ : ∃ y_, ((zB (p)))[i]? = some y_ := t_ge (by omega)
  obtain ⟨b59, o60, _, he62, hc61, hr_t⟩ := Sl.elem (f51.up le55) ht
  obtain ⟨v63, rfl, f64⟩ := hr_t
  have f64_b := f64.le
  refine zT he62 X X (hk := X) (hu := zap) (hz := zbs) X<|U (j := 0) st56.sub hc61 X X X zbI X<|zaa (v := v63) X X<|Y<|zm<|have htm:=hin t (List.mem_of_getElem? ht);zl<|O X zD X zbi X X<|U (j := 4) st56.sub (hc5.up ((l42.trans le47).trans le55)) X X X zbF X<|zf X X ?_
  have l69 := (l43.trans le47).trans le55
  obtain ⟨b65, o66, _, he68, hc67, hr_v⟩ := Sl.elem (p_f4.up l69) hv
  obtain ⟨v70, rfl, f71⟩ := hr_v
  have f71_b := f71.le
  refine zi rfl rfl (zat he68 rfl rfl (hk := (show _ = ((K : Nat) : Int) by exact hKe)) (hu := zan) (hz := zbq)) ?_
  refine O X zaW X zbs X X<|U (j := 2) st56.sub hc67 X X X zbI X<|zO (v := v63) X X ?_
  have con := (c_postillaw07_wrongs st56.sub f71 f64 (by omega))
  rw [wrongN_votes] at con
  refine zg st56 X X X Tryz.call43 X con<|fun r72 w73 h74 le75 st76 q77=> ?_
  obtain rfl := q77
  clear con
  refine zt X X<|Y<|zm<|W.sr<|zf X X<|O X zdv X zn X X<|U (j := 0) st76.sub (hc40.up ((le47.trans le55).trans le75)) X X X zA X<|zaO X X X<|zU X X ?_
  refine zab (d := 70) rfl (fun g78 => ?_) (fun g78 => ?_)
  ·
   exfalso
   have sure_ : (decide ((((zbb v t : Nat) : Int)) < ((zfm p K).lo))) = false := by exact decide_eq_false (by omega)
   exact t_of sure_ g78
  refine Z X X X<|zf X X<|Z X X X<|O X zdv X zn X X<|Z X X X<|U (j := 1) st76.sub (hc40.up ((le47.trans le55).trans le75)) X X X zA X<|Z X X X<|zdp X X X<|zP (v := (.bool _)) X X X<|Y ?_
  refine zG rfl (fun c79 => ?_) (fun c79 => ?_)
  ·
   exfalso
   have sure_ : (decide ((((zbb v t : Nat) : Int)) > ((zfm p K).hi))) = false := by exact decide_eq_false (by omega)
   exact t_of sure_ c79
  refine zx<|E<|zby Tryz.mixed t_kr (Cls h74 _) (Cls.drew st76)<|zdJ X X<|zdJ X X ?_
  refine zdn (d := 77) rfl (fun g80 => ?_) (fun g80 => ?_)
  ·
   refine zy X X X X X<|zy X X X X X<|zy X X X X X<|zy X X X X X<|zdx (v := (.bool _)) X X X<|zdJ X X<|zdJ X X ?_
   refine zdn (d := 84) rfl (fun g81 => ?_) (fun g81 => ?_)
   ·
    refine zy X X X X X<|zy X X X X X<|zy X X X X X<|zy X X X X X<|zdx (v := (.bool _)) X X X<|zgY X X<|zgY X X<|zbe ?_
    rintro w82 ⟨h83, s84⟩
    have st85 := st76.call0 s84
    refine zK<|E<|zl<|zay X X t_om X<|zf X X<|Y ?_
    refine ⟨⟨i + 1, h83⟩, ⟨?_, ?_, rfl, trivial⟩, ?_, ⟨((le55.trans le75).trans s84.le), st85, ?_⟩, ?_⟩
    ·exact zq (by rw [zeJ ht]; simp_all)
    ·exact zq (by rw [zeJ ht]; simp_all)
    ·exact zal
    ·first | omega | (simp; omega)
    show (zB p).length - ((i + 1)) < (zB p).length - i
    omega
   refine zk X X X<|zcr X X<|zk X X X<|zR X zdv X zn X X<|zk X X X<|zC X X (fun _ hC => (zd (j := 1) hC.sub (hc40.up ((le47.trans le55).trans le75)) X X X zA))<|zk X X X<|u_eql X X X<|zdf (v := (.bool _)) X X X<|zgY X X<|zgY X X<|zbe ?_
   rintro w86 ⟨h87, s88⟩
   have st89 := st76.call0 s88
   refine zK<|E<|zl<|zay X X t_om X<|zf X X<|Y ?_
   refine ⟨⟨i + 1, h87⟩, ⟨?_, ?_, rfl, trivial⟩, ?_, ⟨((le55.trans le75).trans s88.le), st89, ?_⟩, ?_⟩
   ·exact zq (by rw [zeJ ht]; simp_all)
   ·exact zq (by rw [zeJ ht]; simp_all)
   ·exact zal
   ·first | omega | (simp; omega)
   show (zB p).length - ((i + 1)) < (zB p).length - i
   omega
  refine zk X X X<|zcr X X<|zk X X X<|zR X zdv X zn X X<|zk X X X<|zC X X (fun _ hC => (zd (j := 0) hC.sub (hc40.up ((le47.trans le55).trans le75)) X X X zA))<|zk X X X<|u_eql X X X<|zdf (v := (.bool _)) X X X<|zdJ X X<|zdJ X X ?_
  refine zdn (d := 84) rfl (fun g90 => ?_) (fun g90 => ?_)
  ·
   refine zy X X X X X<|zy X X X X X<|zy X X X X X<|zy X X X X X<|zdx (v := (.bool _)) X X X<|zgY X X<|zgY X X<|zbe ?_
   rintro w91 ⟨h92, s93⟩
   have st94 := st76.call0 s93
   refine zK<|E<|zl<|zay X X t_om X<|zf X X<|Y ?_
   refine ⟨⟨i + 1, h92⟩, ⟨?_, ?_, rfl, trivial⟩, ?_, ⟨((le55.trans le75).trans s93.le), st94, ?_⟩, ?_⟩
   ·exact zq (by rw [zeJ ht]; simp_all)
   ·exact zq (by rw [zeJ ht]; simp_all)
   ·exact zal
   ·first | omega | (simp; omega)
   show (zB p).length - ((i + 1)) < (zB p).length - i
   omega
  refine zk X X X<|zcr X X<|zk X X X<|zR X zdv X zn X X<|zk X X X<|zC X X (fun _ hC => (zd (j := 1) hC.sub (hc40.up ((le47.trans le55).trans le75)) X X X zA))<|zk X X X<|u_eql X X X<|zdf (v := (.bool _)) X X X<|zgY X X<|zgY X X<|zbe ?_
  rintro w95 ⟨h96, s97⟩
  have st98 := st76.call0 s97
  refine zK<|E<|zl<|zay X X t_om X<|zf X X<|Y ?_
  refine ⟨⟨i + 1, h96⟩, ⟨?_, ?_, rfl, trivial⟩, ?_, ⟨((le55.trans le75).trans s97.le), st98, ?_⟩, ?_⟩
  ·exact zq (by rw [zeJ ht]; simp_all)
  ·exact zq (by rw [zeJ ht]; simp_all)
  ·exact zal
  ·first | omega | (simp; omega)
  show (zB p).length - ((i + 1)) < (zB p).length - i
  omega
 refine zaA<|zo<|zo<|zak<|E<|zm ?_
 rw [← show (zB p).take i = zB p from List.take_of_length_le (by omega)] at hlo hhi
 refine zby Tryz.mixed t_kr (Cls h54 _) (Cls.drew st56)<|zdJ X X<|zdJ X X<|zk X X X<|zcr X X<|zk X X X<|u_eql X X X<|zdx (v := (.bool _)) X X X<|zdJ X X ?_
 refine zey (d := 96) rfl (fun g99 => ?_) (fun g99 => ?_)
 ·
  refine zk X X X<|zdJ X X<|zdx (v := (.bool _)) X X X<|zdJ X X ?_
  refine zdn (d := 99) rfl (fun g100 => ?_) (fun g100 => ?_)
  ·
   refine zk X X X<|zdJ X X<|zdx (v := (.bool _)) X X X<|zdJ X X ?_
   refine zdn (d := 102) rfl (fun g101 => ?_) (fun g101 => ?_)
   ·
    refine zk X X X<|zR X zdv X zn X X<|zk X X X<|zC X X (fun _ hC => (zd (j := 1) hC.sub (hc40.up (le47.trans le55)) X X X zA))<|zk X X X<|zR X zD X zbi X X<|zk X X X<|zC X X (fun _ hC => (zd (j := 4) hC.sub (hc5.up ((l42.trans le47).trans le55)) X X X zbF))<|zk X X X<|zcr X X<|zk X X X ?_
    have l106 := (l43.trans le47).trans le55
    obtain ⟨b102, o103, _, he105, hc104, hr_v⟩ := Sl.elem (p_f4.up l106) hv
    obtain ⟨v107, rfl, f108⟩ := hr_v
    have f108_b := f108.le
    refine zC rfl rfl (fun _ _ => (zat he105 rfl rfl (hk := (show _ = ((K : Nat) : Int) by exact hKe)) (hu := zan) (hz := zbq))) ?_
    refine zk X X X<|zR X zaW X zn X X<|zk X X X<|zC X X (fun _ hC => (zd (j := 1) hC.sub hc104 X X X zA))<|zk X X X<|zC X X (fun _ _ => (r_leq X X))<|zdx (v := (.bool _)) X X X<|zgY X X<|zbe ?_
    rintro w109 ⟨h110, s111⟩
    have st112 := st56.call0 s111
    refine E<|zw<|zb Tryz.results13 ?_
    refine ⟨h110, _, rfl, st112.done, ?_⟩
    refine zq ?_
    simp_all
   exfalso
   have sure_ : ((((zB p).take i).any fun t => decide ((zbb v t : Int) = (zfm p K).hi))) = true := by exact hhi
   exact absurd (g101.symm.trans sure_) (by decide)
  exfalso
  have sure_ : ((((zB p).take i).any fun t => decide ((zbb v t : Int) = (zfm p K).lo))) = true := by exact hlo
  exact absurd (g100.symm.trans sure_) (by decide)
 exfalso
 have sure_ : (decide ((allE p true) = 0)) = true := by exact decide_eq_true he0
 exact g99 (t_ot sure_)
end Go.Pk
