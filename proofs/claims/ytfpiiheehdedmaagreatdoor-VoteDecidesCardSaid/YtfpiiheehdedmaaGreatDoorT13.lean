/- A PART OF THE PROOF: contracts of functions, each walked once (much of it printed by a program of the author's own). -/
import Derived.Test.YtfpiiheehdedmaaGreatDoorT2
import Derived.Test.YtfpiiheehdedmaaGreatDoorT3
import Derived.Test.YtfpiiheehdedmaaGreatDoorT9
import Derived.Test.YtfpiiheehdedmaaGreatDoorT8
import Derived.Test.YtfpiiheehdedmaaGreatDoorT7
import Derived.Test.YtfpiiheehdedmaaGreatDoorT1
set_option linter.unusedSimpArgs false
set_option linter.unusedVariables false
set_option maxRecDepth 4000
namespace Go.Pk
open Go Go.RowKit Go.Proofs
theorem zde {h : Heap} {w : World} (hs : Sub h w) (n : Int) (lo : Int) (hi : Int) : Calls Tryz.prog 57 #[.int .i64 n, .int .i64 lo, .int .i64 hi] w (Rets h w (fun _ _ res_ => res_ = .bool (inB n lo hi))) := by
 refine zS (n := 15) Tryz.func57 X X X<|have st0:=t_s0 hs;W.sr<|zJ X X<|Y<|W.sr<|zk X X<|zk X X<|zie X X X<|zai X X ?_
 refine zaB (d := 10) rfl (fun g1 => ?_) (fun g1 => ?_)
 ·
  refine M X X X<|zk X X<|M X X X<|zk X X<|M X X X<|zq X X (r_leq X X)<|zaf (v := (.bool _)) X X X<|zJ X X<|Y<|zB<|zc Tryz.results57 ?_
  refine ⟨h, _, rfl, st0.done, ?_⟩
  refine zw ?_
  first | (simp_all [inB]; done) | (simp_all [inB]; omega)
 refine Z X X X X X<|Z X X X X X<|Z X X X X X<|zX (v := (.bool _)) X X X<|zJ X X<|Y<|zB<|zc Tryz.results57 ?_
 refine ⟨h, _, rfl, st0.done, ?_⟩
 refine zw ?_
 first | (simp_all [inB]; done) | (simp_all [inB]; omega)
set_option maxHeartbeats 4000000 in
theorem c_postilref07_Poll {h : Heap} {w : World} (hs : Sub h w) {p : Poll} {p_v0 : Value} (p_f0 : Sl LChapter h p_v0 p.text.chapters) {p_v1 : Value} (p_f1 : Sl LRule h p_v1 p.lexicon.rules) {p_v2 : Value} (p_f2 : Sl LDecision h p_v2 p.lexicon.decisions) {p_v3 : Value} (p_f3 : Sl LQuestion h p_v3 p.questions) {p_v4 : Value} (p_f4 : Sl LVoter h p_v4 p.voters) (ht : zbu p.text = true) : Calls Tryz.prog 105 #[.agg #[p_v0, p_v1, p_v2, p_v3, p_v4]] w (Rets h w (fun _ _ res_ => res_ = .bool (zdh p))) := by
 refine zS (n := 162) Tryz.func105 X X X<|have st0:=t_s0 hs;have p_f0_b:=p_f0.le;have p_f1_b:=p_f1.le;have p_f2_b:=p_f2.le;have p_f3_b:=p_f3.le;have p_f4_b:=p_f4.le;W.sr<|zG st0 (cs := [p_v0, p_v1, p_v2, p_v3, p_v4]) X X X<|fun b1 w2 h3 le4 hc5 st6=>zJ X X<|Y<|zj<|W.sr<|U X zx X zbd X X<|E (j := 3) st6.sub hc5 X X X zbv X<|zaJ (p_f3.up le4) X zau X<|zdr X X X<|zai X X ?_
 refine zaB (d := 14) rfl (fun g7 => ?_) (fun g7 => ?_)
 ·
  refine Z X X X X X<|Z X X X X X<|Z X X X X X<|Z X X X X X<|zaf (v := (.bool _)) X X X<|Y ?_
  refine zad rfl (fun c8 => ?_) (fun c8 => ?_)
  ·
   refine W.sr<|zJ X X<|Y<|zB<|zd<|zc zem ?_
   refine ⟨h3, _, rfl, st6.done, ?_⟩
   refine zw ?_
   first | (simp_all [zdh]; done) | (simp_all [zdh]; omega)
  cases c8
 refine M X X X<|U X zx X zbp X X<|M X X X<|E (j := 4) st6.sub hc5 X X X zbI X<|M X X X<|zaJ (p_f4.up le4) X zaA X<|M X X X<|zdr X X X<|zX (v := (.bool _)) X X X<|Y ?_
 refine zH rfl (fun c9 => ?_) (fun c9 => ?_)
 ·
  refine W.sr<|zJ X X<|Y<|zB<|zd<|zc zem ?_
  refine ⟨h3, _, rfl, st6.done, ?_⟩
  refine zw ?_
  first | (simp_all [zdh]; done) | (simp_all [zdh]; omega)
 refine zC<|O<|zj<|W.sr<|zz X X<|Y<|zF ?_
 refine zat ([2, 3, 4, 5] ++ t_rg 20 75) (G := Nat × Heap) (fun ⟨i, h10⟩ => [(3, .int .i64 (i : Int))]) (fun ⟨i, h10⟩ w' => Le h3 h10 ∧ St h w h10 w' [] ∧ (i ≤ p.questions.length) ∧ (∀ j, j < i → zeE p j = true)) (fun ⟨i, h10⟩ => p.questions.length - i) ⟨0, h3⟩ ⟨rfl, trivial⟩ ⟨Le.refl _, st6, zaM, zaM⟩ ?_
 rintro ⟨i, h10⟩ _ w13 ⟨le11, st12, hi, hA⟩
 refine zj<|W.sr<|zk X X<|U X zx X zbd X X<|E (j := 3) st12.sub (hc5.up le11) X X X zbv X<|have l14:=le4.trans le11;zaJ (p_f3.up l14) X zau X<|zaV X X X<|Y ?_
 refine zH rfl (fun c15 => ?_) (fun c15 => ?_)
 ·
  refine zC<|O<|zj<|zF<|W.sr<|U X zx X zbd X X<|E (j := 3) st12.sub (hc5.up le11) X X X zbv X<|zk X X ?_
  obtain ⟨q, hq⟩ : ∃ y_, (p.questions)[i]? = some y_ := t_ge (by omega)
  obtain ⟨b16, o17, _, he19, hc18, hr_q⟩ := Sl.elem (p_f3.up l14) hq
  obtain ⟨v20, rfl, f21⟩ := hr_q
  have f21_b := f21.le
  refine zV he19 X X (hk := X) (hu := zau) (hz := zbz) X<|zy st12.sub hc18 X Tryz.isAgg84 zbz X X<|zae st12 Tryz.zeroValue84 X X<|fun b22 w23 st24=>zM st24 (k := 0) X X X (za X (za X (za X (za f21.one zap)))) zbz X X X<|fun w25 st26=> ?_
  obtain ⟨h27, le28, hb29, st31⟩ := st26.freeze (k := 0) rfl
  have hc30 := Cells.of hb29
  refine Y<|zj<|zj ?_
  refine W.join (t_rg 32 30) (G := Heap) (fun h32 => [(61, .bool (!(zeo p i q)))]) (fun h32 w' => Le h27 h32 ∧ St h w h32 w' [[]]) ?_ ?_
  ·
   refine zbj Tryz.mixed t_kr (Cls h27 _) (Cls.drew st31)<|zD X zx X zac X X<|zl X X (fun _ hC => (zbL (j := 0) hC.sub (hc5.up (le11.trans le28)) (us := [p_v0]) X X zaO zac X X))<|zD X zam X zO X X<|zl X X (fun _ hC => (zbL (j := 0) hC.sub hc30 (us := [.int .i64 (q.at_.chapter), .int .i64 (q.at_.line), .int .i64 (q.at_.word)]) X X zaD zO X X))<|have l36:=l14.trans le28;zbU X X (fun _ => zbc X Tryz.call113 X) (fun _ hC => Rets.quiet hC (zfA hC.sub (t := p.text) (p_f0.up l36) (p := q.at_)))<|zhO X X<|zdS X X ?_
   refine zeO (d := 38) rfl (fun g37 => ?_) (fun g37 => ?_)
   ·
    refine zb X X X X X<|zb X X X X X<|zb X X X X X<|zY X X X X<|zY X X X X<|zY X X X X<|zY X X X X<|zY X X X X<|zY X X X X<|zY X X X X<|zY X X X X<|zY X X X X<|zY X X X X<|zY X X X X<|zb X X X X X<|zcK (v := (.bool _)) X X X<|zdS X X<|zb X X X X X<|zb X X X X X<|zb X X X X X<|zb X X X X X<|zb X X X X X<|zcK (v := (.bool _)) X X X<|zaN ?_
    rintro w38 ⟨h39, s40⟩
    have st41 := st31.call0 s40
    refine ⟨rfl, h39, ⟨?_, trivial⟩, ?_, s40.le, st41⟩
    ·exact zw (by simp only [zeo]; first | (simp_all; done) | (rw [hq1]; simp_all; done) | (simp_all; omega))
    exact zav
   refine zg X X X<|zbJ X X<|zg X X X<|u_gtr X X X<|zg X X X<|zdS X X ?_
   refine zcP (d := 41) rfl (fun g42 => ?_) (fun g42 => ?_)
   ·
    refine zg X X X<|zD X zx X zbd X X<|zg X X X<|zl X X (fun _ hC => (ze (j := 3) hC.sub (hc5.up (le11.trans le28)) X X X zbv))<|zg X X X<|zbJ X X<|zg X X X<|zig X X t_om X<|zg X X X ?_
    obtain ⟨q1, hq1⟩ : ∃ y_, (p.questions)[(i - 1)]? = some y_ := t_ge (by omega)
    obtain ⟨b43, o44, _, he46, hc45, hr_q1⟩ := Sl.elem (p_f3.up l36) hq1
    obtain ⟨v47, rfl, f48⟩ := hr_q1
    have f48_b := f48.le
    refine zl rfl rfl (fun _ _ => (zao he46 rfl rfl (hk := (show _ = (((i - 1) : Nat) : Int) by omega)) (hu := zau) (hz := zbz))) ?_
    refine zg X X X<|zD X zam X zO X X<|zg X X X<|zl X X (fun _ hC => (zbL (j := 0) hC.sub hc45 (us := [.int .i64 (q1.at_.chapter), .int .i64 (q1.at_.line), .int .i64 (q1.at_.word)]) X X zaD zO X X))<|zg X X X<|zD X zam X zO X X<|zg X X X<|zl X X (fun _ hC => (zbL (j := 0) hC.sub hc30 (us := [.int .i64 (q.at_.chapter), .int .i64 (q.at_.line), .int .i64 (q.at_.word)]) X X zaD zO X X))<|zg X X X<|zbU X X (fun _ => zbc X Tryz.call146 X) (fun _ hC => Rets.quiet hC (zff hC.sub (a := q1.at_) (b := q.at_)))<|zg X X X<|zhO X X<|zg X X X<|zcK (v := (.bool _)) X X X<|zcL (v := (.bool _)) X X X<|zdS X X ?_
    refine zeO (d := 55) rfl (fun g49 => ?_) (fun g49 => ?_)
    ·
     refine zb X X X X X<|zb X X X X X<|zb X X X X X<|zb X X X X X<|zb X X X X X<|zcK (v := (.bool _)) X X X<|zaN ?_
     rintro w50 ⟨h51, s52⟩
     have st53 := st31.call0 s52
     refine ⟨rfl, h51, ⟨?_, trivial⟩, ?_, s52.le, st53⟩
     ·exact zw (by simp only [zeo]; first | (simp_all; done) | (rw [hq1]; simp_all; done) | (simp_all; omega))
     exact zav
    refine zg X X X<|zD X zam X zbO X X<|zg X X X<|zl X X (fun _ hC => (ze (j := 3) hC.sub hc30 X X X zca))<|zg X X X<|u_len (f21.up le28) X zaE X<|zg X X X<|zbU X X (fun _ => zbc X Tryz.call57 X) (fun _ hC => Rets.quiet hC (zde hC.sub _ _ _))<|zg X X X<|zhO X X<|zcL (v := (.bool _)) X X X<|zaN ?_
    rintro w54 ⟨h55, s56⟩
    have st57 := st31.call0 s56
    refine ⟨rfl, h55, ⟨?_, trivial⟩, ?_, s56.le, st57⟩
    ·exact zw (by simp only [zeo]; first | (simp_all; done) | (rw [hq1]; simp_all; done) | (simp_all; omega))
    exact zav
   refine zb X X X X X<|zb X X X X X<|zb X X X X X<|zb X X X X X<|zb X X X X X<|zb X X X X X<|zb X X X X X<|zb X X X X X<|zb X X X X X<|zb X X X X X<|zb X X X X X<|zg X X X<|zcL (v := (.bool _)) X X X<|zcL (v := (.bool _)) X X X<|zdS X X<|zg X X X<|zD X zam X zbO X X<|zg X X X<|zl X X (fun _ hC => (ze (j := 3) hC.sub hc30 X X X zca))<|zg X X X<|u_len (f21.up le28) X zaE X<|zg X X X<|zbU X X (fun _ => zbc X Tryz.call57 X) (fun _ hC => Rets.quiet hC (zde hC.sub _ _ _))<|zg X X X<|zhO X X<|zcL (v := (.bool _)) X X X<|zaN ?_
   rintro w58 ⟨h59, s60⟩
   have st61 := st31.call0 s60
   refine ⟨rfl, h59, ⟨?_, trivial⟩, ?_, s60.le, st61⟩
   ·exact zw (by simp only [zeo]; first | (simp_all; done) | (rw [hq1]; simp_all; done) | (simp_all; omega))
   exact zav
  rintro h32 _ w35 ⟨le33, st34⟩
  refine O ?_
  refine zad rfl (fun c62 => ?_) (fun c62 => ?_)
  ·
   refine W.sr<|zJ X X<|Y<|zB<|zd<|zI<|zd<|zd<|zI<|zd<|zc zem ?_
   refine ⟨h32, _, rfl, st34.done, ?_⟩
   refine zw ?_
   exact (poll_q (quest_no hq (by simpa using c62))).symm
  refine zC<|O<|zj ?_
  have hq0 := quest_ok (p := p) (i := i) (q := q) (by simpa using c62)
  refine zo<|zz X X<|Y<|zF ?_
  refine zat ([2, 5] ++ t_rg 62 33) (G := Nat × Heap) (fun ⟨k, h63⟩ => [(5, .int .i64 (k : Int))]) (fun ⟨k, h63⟩ w' => Le h32 h63 ∧ St h w h63 w' [[]] ∧ (k ≤ q.heads.length) ∧ (∀ j, j < k → zcX q.heads j = true)) (fun ⟨k, h63⟩ => q.heads.length - k) ⟨0, h32⟩ ⟨rfl, trivial⟩ ⟨Le.refl _, st34, zaM, zaM⟩ ?_
  rintro ⟨k, h63⟩ _ w66 ⟨le64, st65, hk, hB⟩
  refine zj<|W.sr<|zk X X<|U X zam X zbO X X<|E (j := 3) st65.sub (hc30.up (le33.trans le64)) X X X zca X<|zaJ (f21.up ((le28.trans le33).trans le64)) X zaE X<|zaV X X X<|Y ?_
  refine zH rfl (fun c67 => ?_) (fun c67 => ?_)
  ·
   refine zC<|O<|zj<|zF<|zj ?_
   refine W.join (t_rg 69 26) (G := Heap) (fun h68 => [(94, .bool (!(zcX q.heads k)))]) (fun h68 w' => Le h63 h68 ∧ St h w h68 w' [[]]) ?_ ?_
   ·
    refine zbj Tryz.mixed t_kr (Cls h63 _) (Cls.drew st65)<|zD X zam X zbO X X<|zl X X (fun _ hC => (ze (j := 3) hC.sub (hc30.up (le33.trans le64)) X X X zca))<|zbJ X X ?_
    obtain ⟨hd, hhd⟩ : ∃ y_, (q.heads)[k]? = some y_ := t_ge (by omega)
    obtain ⟨b72, o73, _, he75, hc74, hr_hd⟩ := Sl.elem (f21.up ((le28.trans le33).trans le64)) hhd
    obtain ⟨rfl, ls76, lu77⟩ := hr_hd
    simp only [big] at ls76
    refine zaG he75 X X (hk := X) (hu := zaE) (hz := zT) X<|zl X X (fun _ hC => (zZ hC.sub hc74 X zbl zT X))<|zbU X X (fun _ => zbc X Tryz.call147 X) (fun _ hC => Rets.quiet hC (zeK hC.sub (hd := hd) zba t_u8))<|zhO X X<|zdS X X ?_
    refine zeO (d := 76) rfl (fun g78 => ?_) (fun g78 => ?_)
    ·
     refine zb X X X X X<|zb X X X X X<|zb X X X X X<|zY X X X X<|zY X X X X<|zY X X X X<|zY X X X X<|zY X X X X<|zY X X X X<|zY X X X X<|zY X X X X<|zY X X X X<|zY X X X X<|zY X X X X<|zY X X X X<|zY X X X X<|zb X X X X X<|zcK (v := (.bool _)) X X X<|zaN ?_
     rintro w79 ⟨h80, s81⟩
     have st82 := st65.call0 s81
     refine ⟨rfl, h80, ⟨?_, trivial⟩, ?_, s81.le, st82⟩
     ·exact zw (by simp only [zcX, hhd]; first | (simp_all; done) | (rw [hh1]; simp_all; done) | (simp_all; omega))
     exact zav
    refine zg X X X<|zbJ X X<|zg X X X<|u_gtr X X X<|zg X X X<|zdS X X ?_
    refine zcP (d := 79) rfl (fun g83 => ?_) (fun g83 => ?_)
    ·
     refine zg X X X<|zD X zam X zbO X X<|zg X X X<|zl X X (fun _ hC => (ze (j := 3) hC.sub (hc30.up (le33.trans le64)) X X X zca))<|zg X X X<|zbJ X X<|zg X X X<|zig X X t_om X<|zg X X X ?_
     obtain ⟨h1, hh1⟩ : ∃ y_, (q.heads)[(k - 1)]? = some y_ := t_ge (by omega)
     obtain ⟨b84, o85, _, he87, hc86, hr_h1⟩ := Sl.elem (f21.up ((le28.trans le33).trans le64)) hh1
     obtain ⟨rfl, ls88, lu89⟩ := hr_h1
     simp only [big] at ls88
     refine zl rfl rfl (fun _ _ => (zao he87 rfl rfl (hk := (show _ = (((k - 1) : Nat) : Int) by omega)) (hu := zaE) (hz := zT))) ?_
     refine zg X X X<|zl X X (fun _ hC => (zZ hC.sub hc86 X zbl zT X))<|zg X X X<|zD X zam X zbO X X<|zg X X X<|zl X X (fun _ hC => (ze (j := 3) hC.sub (hc30.up (le33.trans le64)) X X X zca))<|zg X X X<|zbJ X X<|zg X X X<|zaG he75 X X (hk := X) (hu := zaE) (hz := zT) X<|zg X X X<|zl X X (fun _ hC => (zZ hC.sub hc74 X zbl zT X))<|zg X X X<|zbU X X (fun _ => zbc X Tryz.call148 X) (fun _ hC => Rets.quiet hC (c_postilref04_Less hC.sub (a := h1) zba t_u8 (b := hd) zba t_u8))<|zg X X X<|zhO X X<|zg X X X<|zcK (v := (.bool _)) X X X<|zcL (v := (.bool _)) X X X<|zaN ?_
     rintro w90 ⟨h91, s92⟩
     have st93 := st65.call0 s92
     refine ⟨rfl, h91, ⟨?_, trivial⟩, ?_, s92.le, st93⟩
     ·exact zw (by simp only [zcX, hhd]; first | (simp_all; done) | (rw [hh1]; simp_all; done) | (simp_all; omega))
     exact zav
    refine zb X X X X X<|zb X X X X X<|zb X X X X X<|zb X X X X X<|zb X X X X X<|zb X X X X X<|zb X X X X X<|zb X X X X X<|zb X X X X X<|zb X X X X X<|zb X X X X X<|zb X X X X X<|zb X X X X X<|zg X X X<|zcL (v := (.bool _)) X X X<|zcL (v := (.bool _)) X X X<|zaN ?_
    rintro w94 ⟨h95, s96⟩
    have st97 := st65.call0 s96
    refine ⟨rfl, h95, ⟨?_, trivial⟩, ?_, s96.le, st97⟩
    ·exact zw (by simp only [zcX, hhd]; first | (simp_all; done) | (rw [hh1]; simp_all; done) | (simp_all; omega))
    exact zav
   rintro h68 _ w71 ⟨le69, st70⟩
   refine O ?_
   refine zad rfl (fun c98 => ?_) (fun c98 => ?_)
   ·
    refine W.sr<|zJ X X<|Y<|zB<|zI<|zd<|zd<|zI<|zI<|zd<|zd<|zI<|zd<|zc zem ?_
    refine ⟨h68, _, rfl, st70.done, ?_⟩
    refine zw ?_
    exact (poll_q2 hq (k := k) (by simpa using c98)).symm
   refine zC<|zP<|O<|zo<|zk X X<|zaP X X t_om X<|zz X X<|Y ?_
   refine ⟨⟨k + 1, h68⟩, ⟨rfl, trivial⟩, ?_, ⟨(le64.trans le69), st70, ?_, ?_⟩, ?_⟩
   ·exact zav
   ·first | omega | (simp; omega)
   ·exact zdf hB (by simpa using c98)
   show q.heads.length - ((k + 1)) < q.heads.length - k
   omega
  refine zaC<|zh<|zh<|zah<|zP<|O<|zo<|zk X X<|zaP X X t_om X<|zz X X<|Y ?_
  have hqi : zeE p i = true := by simp only [zeE, hq, hq0.1, hq0.2.1, hq0.2.2, Bool.and_true, Bool.true_and]; exact zhk hB (by omega)
  have l99 := ((le11.trans le28).trans le33).trans le64
  refine ⟨⟨i + 1, h63⟩, ⟨rfl, trivial⟩, ?_, ⟨l99, st65.take 0, ?_, ?_⟩, ?_⟩
  ·exact zav
  ·first | omega | (simp; omega)
  ·exact zdf hA hqi
  show p.questions.length - ((i + 1)) < p.questions.length - i
  omega
 refine zaC<|zh<|zh<|zah<|O<|zj<|W.sr<|zz X X<|Y<|zF ?_
 refine zat ([2, 6, 7, 8, 9] ++ t_rg 95 67) (G := Nat × Heap) (fun ⟨i, h100⟩ => [(6, .int .i64 (i : Int))]) (fun ⟨i, h100⟩ w' => Le h10 h100 ∧ St h w h100 w' [] ∧ (i ≤ p.voters.length) ∧ (∀ j, j < i → zed p j = true)) (fun ⟨i, h100⟩ => p.voters.length - i) ⟨0, h10⟩ ⟨rfl, trivial⟩ ⟨Le.refl _, st12, zaM, zaM⟩ ?_
 rintro ⟨i, h100⟩ _ w103 ⟨le101, st102, hj, hV⟩
 refine zj<|W.sr<|zk X X<|U X zx X zbp X X<|E (j := 4) st102.sub (hc5.up (le11.trans le101)) X X X zbI X<|have l104:=l14.trans le101;zaJ (p_f4.up l104) X zaA X<|zaV X X X<|Y ?_
 refine zH rfl (fun c105 => ?_) (fun c105 => ?_)
 ·
  refine zC<|O<|zj<|zF<|W.sr<|U X zx X zbp X X<|E (j := 4) st102.sub (hc5.up (le11.trans le101)) X X X zbI X<|zk X X ?_
  obtain ⟨v, hv⟩ : ∃ y_, (p.voters)[i]? = some y_ := t_ge (by omega)
  obtain ⟨b106, o107, _, he109, hc108, hr_v⟩ := Sl.elem (p_f4.up l104) hv
  obtain ⟨v110, rfl, f111⟩ := hr_v
  have f111_b := f111.le
  refine zV he109 X X (hk := X) (hu := zaA) (hz := zbA) X<|zy st102.sub hc108 X Tryz.isAgg79 zbA X X<|zae st102 Tryz.zeroValue79 X X<|fun b112 w113 st114=>zM st114 (k := 0) X X X (za X (za X (za f111.one zap))) zbA X X X<|fun w115 st116=> ?_
  obtain ⟨h117, le118, hb119, st121⟩ := st116.freeze (k := 0) rfl
  have hc120 := Cells.of hb119
  refine Y<|zj<|zj ?_
  refine W.join (t_rg 107 19) (G := Heap) (fun h122 => [(125, .bool (!(voteB p v)))]) (fun h122 w' => Le h117 h122 ∧ St h w h122 w' [[]]) ?_ ?_
  ·
   refine zo<|U X zaU X zr X X<|E (j := 0) st121.sub hc120 X X X zN X<|zn st121 X X X Tryz.call57 X (zde st121.sub _ _ _)<|fun r126 w127 h128 le129 st130 q131=> ?_
   obtain rfl := q131
   refine zbQ X X<|zai X X ?_
   refine zaY (d := 111) rfl (fun g132 => ?_) (fun g132 => ?_)
   ·
    refine Z X X X X X<|Z X X X X X<|Z X X X X X<|Z X X X X X<|zaf (v := (.bool _)) X X X<|zai X X<|Z X X X X X<|Z X X X X X<|Z X X X X X<|Z X X X X X<|Z X X X X X<|Z X X X X X<|Z X X X X X<|zaf (v := (.bool _)) X X X<|zt ?_
    refine ⟨rfl, h128, ⟨?_, trivial⟩, ?_, le129, st130⟩
    ·exact zw (by simp only [voteB]; first | (simp_all; done) | (simp_all; omega))
    exact zav
   refine M X X X<|U X zaU X zr X X<|M X X X<|E (j := 1) st130.sub (hc120.up le129) X X X zN X<|M X X X<|zn st130 X X X Tryz.call57 X (zde st130.sub _ _ _)<|fun r133 w134 h135 le136 st137 q138=> ?_
   obtain rfl := q138
   refine M X X X<|zbQ X X<|zX (v := (.bool _)) X X X<|zai X X ?_
   refine zaY (d := 117) rfl (fun g139 => ?_) (fun g139 => ?_)
   ·
    refine Z X X X X X<|Z X X X X X<|Z X X X X X<|Z X X X X X<|Z X X X X X<|Z X X X X X<|Z X X X X X<|zaf (v := (.bool _)) X X X<|zt ?_
    refine ⟨rfl, h135, ⟨?_, trivial⟩, ?_, (le129.trans le136), st137⟩
    ·exact zw (by simp only [voteB]; first | (simp_all; done) | (simp_all; omega))
    exact zav
   refine M X X X<|U X zaU X zcy X X<|M X X X<|E (j := 2) st137.sub (hc120.up (le129.trans le136)) X X X zcU X<|M X X X<|zaJ (f111.up ((le118.trans le129).trans le136)) X zp X<|M X X X<|U X zx X zbd X X<|M X X X<|have l140:=(((le11.trans le101).trans le118).trans le129).trans le136;E (j := 3) st137.sub (hc5.up l140) X X X zbv X<|M X X X<|have l141:=((l104.trans le118).trans le129).trans le136;zaJ (p_f3.up l141) X zau X<|M X X X<|zcF X X X<|zX (v := (.bool _)) X X X<|zt ?_
   refine ⟨rfl, h135, ⟨?_, trivial⟩, ?_, (le129.trans le136), st137⟩
   ·exact zw (by simp only [voteB]; first | (simp_all; done) | (simp_all; omega))
   exact zav
  rintro h122 _ w125 ⟨le123, st124⟩
  refine O ?_
  refine zad rfl (fun c142 => ?_) (fun c142 => ?_)
  ·
   refine W.sr<|zJ X X<|Y<|zB<|zd<|zI<|zd<|zd<|zI<|zd<|zc zem ?_
   refine ⟨h122, _, rfl, st124.done, ?_⟩
   refine zw ?_
   exact (poll_v (vote_no hv (by simpa using c142))).symm
  refine zC<|O<|zj<|zj ?_
  have hv0 := vote_ok (p := p) (v := v) (by simpa using c142)
  refine zo<|zz X X<|Y<|zF ?_
  refine zat ([2, 8] ++ t_rg 126 14) (G := Nat × Heap) (fun ⟨k, h143⟩ => [(8, .int .i64 (k : Int))]) (fun ⟨k, h143⟩ w' => Le h122 h143 ∧ St h w h143 w' [[]] ∧ (k ≤ i) ∧ (((p.voters.take k).all fun u => decide (u.id ≠ v.id)) = true)) (fun ⟨k, h143⟩ => i - k) ⟨0, h122⟩ ⟨rfl, trivial⟩ ⟨Le.refl _, st124, zaM, zaM⟩ ?_
  rintro ⟨k, h143⟩ _ w146 ⟨le144, st145, hk, hI⟩
  refine zj<|W.sr<|zk X X<|zk X X<|zaV X X X<|Y ?_
  refine zH rfl (fun c147 => ?_) (fun c147 => ?_)
  ·
   refine zC<|O<|zj<|zF<|zj<|zbj Tryz.mixed t_kr (Cls h143 _) (Cls.drew st145)<|zD X zx X zbp X X<|have l148:=(((le11.trans le101).trans le118).trans le123).trans le144;zl X X (fun _ hC => (ze (j := 4) hC.sub (hc5.up l148) X X X zbI))<|zbJ X X ?_
   obtain ⟨u, hu⟩ : ∃ y_, (p.voters)[k]? = some y_ := t_ge (by omega)
   have l153 := ((l104.trans le118).trans le123).trans le144
   obtain ⟨b149, o150, _, he152, hc151, hr_u⟩ := Sl.elem (p_f4.up l153) hu
   obtain ⟨v154, rfl, f155⟩ := hr_u
   have f155_b := f155.le
   refine zaG he152 X X (hk := X) (hu := zaA) (hz := zbA) X<|zD X zaU X zr X X<|zl X X (fun _ hC => (ze (j := 0) hC.sub hc151 X X X zN))<|zD X zaU X zr X X<|zl X X (fun _ hC => (ze (j := 0) hC.sub (hc120.up (le123.trans le144)) X X X zN))<|u_eql X X X<|zaN ?_
   rintro w156 ⟨h157, s158⟩
   have st159 := st145.call0 s158
   refine O ?_
   refine zH rfl (fun c160 => ?_) (fun c160 => ?_)
   ·
    refine W.sr<|zJ X X<|Y<|zB<|zI<|zd<|zd<|zI<|zd<|zI<|zd<|zd<|zI<|zd<|zc zem ?_
    refine ⟨h157, _, rfl, st159.done, ?_⟩
    refine zw ?_
    (refine (poll_v3 hv hu ?_ ?_).symm <;> first | omega | assumption)
   refine zC<|zP<|O<|zo<|zk X X<|zaP X X t_om X<|zz X X<|Y ?_
   refine ⟨⟨k + 1, h157⟩, ⟨rfl, trivial⟩, ?_, ⟨(le144.trans s158.le), st159, ?_, ?_⟩, ?_⟩
   ·exact zav
   ·first | omega | (simp; omega)
   ·rw [all_snocB hu, hI]; simp_all
   show i - ((k + 1)) < i - k
   omega
  refine zaC<|zh<|zh<|zah<|O<|W.sr<|zz X X<|Y<|zF ?_
  refine zat ([2, 9] ++ t_rg 140 22) (G := Nat × Heap) (fun ⟨m, h161⟩ => [(9, .int .i64 (m : Int))]) (fun ⟨m, h161⟩ w' => Le h143 h161 ∧ St h w h161 w' [[]] ∧ (m ≤ v.votes.length) ∧ (∀ j, j < m → zgL p v j = true)) (fun ⟨m, h161⟩ => v.votes.length - m) ⟨0, h143⟩ ⟨rfl, trivial⟩ ⟨Le.refl _, st145, zaM, zaM⟩ ?_
  rintro ⟨m, h161⟩ _ w164 ⟨le162, st163, hm, hN⟩
  refine zj<|W.sr<|zk X X<|U X zaU X zcy X X<|E (j := 2) st163.sub (hc120.up ((le123.trans le144).trans le162)) X X X zcU X<|have l165:=((le118.trans le123).trans le144).trans le162;zaJ (f111.up l165) X zp X<|zaV X X X<|Y ?_
  refine zH rfl (fun c166 => ?_) (fun c166 => ?_)
  ·
   refine zC<|O<|zj<|zF<|zj<|zbj Tryz.mixed t_kr (Cls h161 _) (Cls.drew st163)<|zD X zaU X zcy X X<|zl X X (fun _ hC => (ze (j := 2) hC.sub (hc120.up ((le123.trans le144).trans le162)) X X X zcU))<|zbJ X X ?_
   obtain ⟨n, hn⟩ : ∃ y_, (v.votes)[m]? = some y_ := t_ge (by omega)
   obtain ⟨b167, o168, _, he170, hc169, hr_n⟩ := Sl.elem (f111.up l165) hn
   obtain rfl := hr_n
   refine zaG he170 X X (hk := X) (hu := zp) (hz := zr) X<|zl X X (fun _ hC => (ze (j := 0) hC.sub hc169 X X X zN))<|zD X zx X zbd X X<|have l171:=((((le11.trans le101).trans le118).trans le123).trans le144).trans le162;zl X X (fun _ hC => (ze (j := 3) hC.sub (hc5.up l171) X X X zbv))<|zbJ X X ?_
   obtain ⟨qk, hqk⟩ : ∃ y_, (p.questions)[m]? = some y_ := t_ge (by omega)
   have l176 := (((l104.trans le118).trans le123).trans le144).trans le162
   obtain ⟨b172, o173, _, he175, hc174, hr_qk⟩ := Sl.elem (p_f3.up l176) hqk
   obtain ⟨v177, rfl, f178⟩ := hr_qk
   have f178_b := f178.le
   refine zaG he175 X X (hk := X) (hu := zau) (hz := zbz) X<|zD X zam X zbO X X<|zl X X (fun _ hC => (ze (j := 3) hC.sub hc174 X X X zca))<|u_len f178 X zaE X<|zig X X t_om X<|zbU X X (fun _ => zbc X Tryz.call57 X) (fun _ hC => Rets.quiet hC (zde hC.sub _ _ _))<|zhO X X<|zaN ?_
   rintro w179 ⟨h180, s181⟩
   have st182 := st163.call0 s181
   refine O ?_
   refine zad rfl (fun c183 => ?_) (fun c183 => ?_)
   ·
    refine W.sr<|zJ X X<|Y<|zB<|zI<|zd<|zd<|zI<|zI<|zd<|zd<|zI<|zd<|zc zem ?_
    refine ⟨h180, _, rfl, st182.done, ?_⟩
    refine zw ?_
    (refine (poll_v2 hv (k := m) ?_).symm; simp only [zgL, hn, hqk]; simp_all)
   refine zC<|zP<|O<|zo<|zk X X<|zaP X X t_om X<|zz X X<|Y ?_
   refine ⟨⟨m + 1, h180⟩, ⟨rfl, trivial⟩, ?_, ⟨(le162.trans s181.le), st182, ?_, ?_⟩, ?_⟩
   ·exact zav
   ·first | omega | (simp; omega)
   ·exact zdf hN (by simp only [zgL, hn, hqk]; simp_all)
   show v.votes.length - ((m + 1)) < v.votes.length - m
   omega
  refine zaC<|zh<|zh<|zah<|zP<|O<|zo<|zk X X<|zaP X X t_om X<|zz X X<|Y ?_
  have hvi : zed p i = true := by simp only [zed, hv, ziv, hv0.1, hv0.2.1, decide_eq_true hv0.2.2, Bool.and_true, Bool.true_and, Bool.and_eq_true]; exact ⟨zhk hN (by omega), by rw [← hI]; congr 1; rw [show k = i by omega]⟩
  have l184 := (((le101.trans le118).trans le123).trans le144).trans le162
  refine ⟨⟨i + 1, h161⟩, ⟨rfl, trivial⟩, ?_, ⟨l184, st163.take 0, ?_, ?_⟩, ?_⟩
  ·exact zav
  ·first | omega | (simp; omega)
  ·exact zdf hV hvi
  show p.voters.length - ((i + 1)) < p.voters.length - i
  omega
 refine zaC<|zh<|zh<|zah<|O<|W.sr<|zJ X X<|Y<|zB<|zc zem ?_
 refine ⟨h100, _, rfl, st102.done, ?_⟩
 refine zw ?_
 (refine (poll_true ?_ ?_ hA ?_ hV ?_).symm <;> omega)
theorem c_postilref07_Check {h : Heap} {w : World} (hs : Sub h w) {p : Poll} {p_v0 : Value} (p_f0 : Sl LChapter h p_v0 p.text.chapters) {p_v1 : Value} (p_f1 : Sl LRule h p_v1 p.lexicon.rules) {p_v2 : Value} (p_f2 : Sl LDecision h p_v2 p.lexicon.decisions) {p_v3 : Value} (p_f3 : Sl LQuestion h p_v3 p.questions) {p_v4 : Value} (p_f4 : Sl LVoter h p_v4 p.voters) : Calls Tryz.prog 59 #[.agg #[p_v0, p_v1, p_v2, p_v3, p_v4]] w (Rets h w (fun _ _ res_ => res_ = .int .i64 (zev p))) := by
 refine zS (n := 15) Tryz.func59 X X X<|have st0:=t_s0 hs;have p_f0_b:=p_f0.le;have p_f1_b:=p_f1.le;have p_f2_b:=p_f2.le;have p_f3_b:=p_f3.le;have p_f4_b:=p_f4.le;W.sr<|zG st0 (cs := [p_v0, p_v1, p_v2, p_v3, p_v4]) X X X<|fun b1 w2 h3 le4 hc5 st6=>zz X X<|Y<|zj<|W.sr<|U X zx X zac X X<|zab (j := 0) st6.sub hc5 (us := [p_v0]) X X zaO zac X X X<|U X zx X zR X X<|zab (j := 1) st6.sub hc5 (us := [p_v1, p_v2]) X X zaK zR X X X<|zn st6 X X X Tryz.call104 X (zet st6.sub (t := p.text) (p_f0.up le4) (x := p.lexicon) (p_f1.up le4) (p_f2.up le4))<|fun r7 w8 h9 le10 st11 q12=> ?_
 obtain rfl := q12
 refine zz X X<|Y<|W.sr<|zk X X<|zcF X X X<|Y ?_
 refine zH rfl (fun c13 => ?_) (fun c13 => ?_)
 ·
  refine W.sr<|zk X X<|zz X X<|Y<|zB<|zd<|zc Tryz.results59 ?_
  refine ⟨h9, _, rfl, st11.done, ?_⟩
  refine zar ?_
  simp_all [zev]
 refine zC<|O<|zj<|W.sr<|zy st11.sub (hc5.up le10) X zbV zbm X X ?_
 have l14 := le4.trans le10
 refine zn st11 rfl rfl rfl Tryz.call105 rfl (c_postilref07_Poll st11.sub (p := p) (p_f0.up l14) (p_f1.up l14) (p_f2.up l14) (p_f3.up l14) (p_f4.up l14) (by exact zcx (by simpa using c13))) ?_
 intro r15 w16 h17 le18 st19 q20
 obtain rfl := q20
 refine zbQ X X<|Y ?_
 refine zad rfl (fun c21 => ?_) (fun c21 => ?_)
 ·
  refine W.sr<|zz X X<|Y<|zB<|zd<|zc Tryz.results59 ?_
  refine ⟨h17, _, rfl, st19.done, ?_⟩
  refine zar ?_
  simp_all [zev]
 refine zC<|O<|W.sr<|zz X X<|Y<|zB<|zc Tryz.results59 ?_
 refine ⟨h17, _, rfl, st19.done, ?_⟩
 refine zar ?_
 simp_all [zev]
theorem c_postilref07_wrongs {h : Heap} {w : World} (hs : Sub h w) {v : Voter} {v_v0 : Value} (v_f0 : Sl LInt h v_v0 v.votes) {xs_v : Value} {xs : (List Int)} (xs_f : Sl LInt h xs_v xs) (hl : xs.length ≤ v.votes.length) (hb : xs.length ≤ 100) : Calls Tryz.prog 58 #[.agg #[.int .i64 v.id, .int .i64 v.wrong, v_v0], xs_v] w (Rets h w (fun _ _ res_ => res_ = .int .i64 (((zcY v xs : Nat) : Int)))) := by
 refine zS (n := 34) Tryz.func58 X X X<|have st0:=t_s0 hs;have v_f0_b:=v_f0.le;have xs_f_b:=xs_f.le;W.sr<|zG st0 (cs := [.int .i64 (v.id), .int .i64 (v.wrong), v_v0]) X X X<|fun b1 w2 h3 le4 hc5 st6=>zz X X<|Y<|W.sr<|zz X X<|Y<|zj<|W.sr<|zz X X<|Y<|zF ?_
 refine zat (t_rg 5 28) (G := Nat × Heap) (fun ⟨k, h7⟩ => [(5, .int .i64 (wrongK v xs k : Int)), (6, .int .i64 (k : Int))]) (fun ⟨k, h7⟩ w' => Le h3 h7 ∧ St h w h7 w' [] ∧ (k ≤ xs.length)) (fun ⟨k, h7⟩ => xs.length - k) ⟨0, h3⟩ ⟨rfl, rfl, trivial⟩ ⟨Le.refl _, st6, zaM⟩ ?_
 rintro ⟨k, h7⟩ _ w10 ⟨le8, st9, hk⟩
 have hwk := wrongK_le v xs k
 refine zj<|W.sr<|zk X X<|zaa (v := xs_v) X X<|have l11:=le4.trans le8;zaJ (xs_f.up l11) X zp X<|zaV X X X<|Y ?_
 refine zH rfl (fun c12 => ?_) (fun c12 => ?_)
 ·
  refine zC<|O<|zj<|zF<|zj<|zbj Tryz.mixed t_kr (Cls h7 _) (Cls.drew st9)<|zD X zaU X zcy X X<|zl X X (fun _ hC => (ze (j := 2) hC.sub (hc5.up le8) X X X zcU))<|zbJ X X ?_
  obtain ⟨a, ha⟩ : ∃ y_, (v.votes)[k]? = some y_ := t_ge (by omega)
  obtain ⟨b13, o14, _, he16, hc15, hr_a⟩ := Sl.elem (v_f0.up l11) ha
  obtain rfl := hr_a
  refine zaG he16 X X (hk := X) (hu := zp) (hz := zr) X<|zl X X (fun _ hC => (ze (j := 0) hC.sub hc15 X X X zN))<|u_geq X X X<|zdS X X ?_
  refine zcP (d := 19) rfl (fun g17 => ?_) (fun g17 => ?_)
  ·
   refine zg X X X<|zD X zaU X zcy X X<|zg X X X<|zl X X (fun _ hC => (ze (j := 2) hC.sub (hc5.up le8) X X X zcU))<|zg X X X<|zbJ X X<|zg X X X<|zaG he16 X X (hk := X) (hu := zp) (hz := zr) X<|zg X X X<|zl X X (fun _ hC => (ze (j := 0) hC.sub hc15 X X X zN))<|zg X X X<|zdn (v := xs_v) X X<|zg X X X<|zbJ X X<|zg X X X ?_
   obtain ⟨c, hc⟩ : ∃ y_, (xs)[k]? = some y_ := t_ge (by omega)
   obtain ⟨b18, o19, _, he21, hc20, hr_c⟩ := Sl.elem (xs_f.up l11) hc
   obtain rfl := hr_c
   refine zaG he21 X X (hk := X) (hu := zp) (hz := zr) X<|zg X X X<|zl X X (fun _ hC => (ze (j := 0) hC.sub hc20 X X X zN))<|zg X X X<|u_neq X X X<|zcK (v := (.bool _)) X X X<|zaN ?_
   rintro w22 ⟨h23, s24⟩
   have st25 := st9.call0 s24
   refine O ?_
   refine zH rfl (fun c26 => ?_) (fun c26 => ?_)
   ·
    refine zo<|zk X X<|zaP X X t_om X<|zz X X<|zt<|zP<|O<|zo<|zk X X<|zaP X X t_om X<|zz X X<|Y ?_
    refine ⟨⟨k + 1, h23⟩, ⟨?_, rfl, trivial⟩, ?_, ⟨(le8.trans s24.le), st25, ?_⟩, ?_⟩
    ·exact zar (by rw [wrongK_succ]; first | (rw [wrongAt_neg ha ?_]; simp; omega) | (rw [zgz ha hc]; simp_all; done) | (rw [zgz ha hc]; simp_all; omega))
    ·exact zav
    ·first | omega | (simp; omega)
    show xs.length - ((k + 1)) < xs.length - k
    omega
   refine zC<|zP<|O<|zo<|zk X X<|zaP X X t_om X<|zz X X<|Y ?_
   refine ⟨⟨k + 1, h23⟩, ⟨?_, rfl, trivial⟩, ?_, ⟨(le8.trans s24.le), st25, ?_⟩, ?_⟩
   ·exact zar (by rw [wrongK_succ]; first | (rw [wrongAt_neg ha ?_]; simp; omega) | (rw [zgz ha hc]; simp_all; done) | (rw [zgz ha hc]; simp_all; omega))
   ·exact zav
   ·first | omega | (simp; omega)
   show xs.length - ((k + 1)) < xs.length - k
   omega
  refine zb X X X X X<|zb X X X X X<|zb X X X X X<|zb X X X X X<|zb X X X X X<|zb X X X X X<|zb X X X X X<|zb X X X X X<|zb X X X X X<|zb X X X X X<|zcL (v := (.bool _)) X X X<|zaN ?_
  rintro w27 ⟨h28, s29⟩
  have st30 := st9.call0 s29
  refine O ?_
  refine zad rfl (fun c31 => ?_) (fun c31 => ?_)
  ·
   cases c31
  refine zC<|zP<|O<|zo<|zk X X<|zaP X X t_om X<|zz X X<|Y ?_
  refine ⟨⟨k + 1, h28⟩, ⟨?_, rfl, trivial⟩, ?_, ⟨(le8.trans s29.le), st30, ?_⟩, ?_⟩
  ·exact zar (by rw [wrongK_succ]; first | (rw [wrongAt_neg ha ?_]; simp; omega) | (rw [zgz ha hc]; simp_all; done) | (rw [zgz ha hc]; simp_all; omega))
  ·exact zav
  ·first | omega | (simp; omega)
  show xs.length - ((k + 1)) < xs.length - k
  omega
 refine zaC<|zh<|zh<|zah<|O<|W.sr<|zk X X<|zz X X<|Y<|zB<|zc Tryz.results58 ?_
 refine ⟨h7, _, rfl, st9.done, ?_⟩
 refine zar ?_
 rw [zcY, show xs.length = k by omega]; rfl
set_option maxHeartbeats 4000000 in
theorem c_postilref07_True {h : Heap} {w : World} (hs : Sub h w) {p : Poll} {p_v0 : Value} (p_f0 : Sl LChapter h p_v0 p.text.chapters) {p_v1 : Value} (p_f1 : Sl LRule h p_v1 p.lexicon.rules) {p_v2 : Value} (p_f2 : Sl LDecision h p_v2 p.lexicon.decisions) {p_v3 : Value} (p_f3 : Sl LQuestion h p_v3 p.questions) {p_v4 : Value} (p_f4 : Sl LVoter h p_v4 p.voters) {xs_v : Value} {xs : (List Int)} (xs_f : Sl LInt h xs_v xs) (hp : zdh p = true) (hb : xs.length ≤ 100) : Calls Tryz.prog 44 #[.agg #[p_v0, p_v1, p_v2, p_v3, p_v4], xs_v] w (Rets h w (fun _ _ res_ => res_ = .bool (zef p xs))) := by
 refine zS (n := 54) Tryz.func44 X X X<|have st0:=t_s0 hs;have p_f0_b:=p_f0.le;have p_f1_b:=p_f1.le;have p_f2_b:=p_f2.le;have p_f3_b:=p_f3.le;have p_f4_b:=p_f4.le;have xs_f_b:=xs_f.le;have hpl:=zeh hp;W.sr<|zG st0 (cs := [p_v0, p_v1, p_v2, p_v3, p_v4]) X X X<|fun b1 w2 h3 le4 hc5 st6=>zJ X X<|Y<|zj<|W.sr<|zaa (v := xs_v) X X<|zaJ (xs_f.up le4) X zp X<|U X zx X zbd X X<|E (j := 3) st6.sub hc5 X X X zbv X<|zaJ (p_f3.up le4) X zau X<|zcF X X X<|Y ?_
 refine zH rfl (fun c7 => ?_) (fun c7 => ?_)
 ·
  refine W.sr<|zJ X X<|Y<|zB<|zd<|zc Tryz.results44 ?_
  refine ⟨h3, _, rfl, st6.done, ?_⟩
  refine zw ?_
  (simp [zef]; omega)
 refine zC<|O<|zj<|W.sr<|zz X X<|Y<|zF ?_
 refine zat ([4, 5] ++ t_rg 13 20) (G := Nat × Heap) (fun ⟨i, h8⟩ => [(5, .int .i64 (i : Int))]) (fun ⟨i, h8⟩ w' => Le h3 h8 ∧ St h w h8 w' [] ∧ (i ≤ xs.length) ∧ (∀ j, j < i → inAt p xs j = true)) (fun ⟨i, h8⟩ => xs.length - i) ⟨0, h3⟩ ⟨rfl, trivial⟩ ⟨Le.refl _, st6, zaM, zaM⟩ ?_
 rintro ⟨i, h8⟩ _ w11 ⟨le9, st10, hi, hA⟩
 refine zj<|W.sr<|zk X X<|zaa (v := xs_v) X X<|have l12:=le4.trans le9;zaJ (xs_f.up l12) X zp X<|zaV X X X<|Y ?_
 refine zH rfl (fun c13 => ?_) (fun c13 => ?_)
 ·
  refine zC<|O<|zj<|zF<|zj<|zbj Tryz.mixed t_kr (Cls h8 _) (Cls.drew st10)<|zdn (v := xs_v) X X<|zbJ X X ?_
  obtain ⟨a, ha⟩ : ∃ y_, (xs)[i]? = some y_ := t_ge (by omega)
  obtain ⟨b14, o15, _, he17, hc16, hr_a⟩ := Sl.elem (xs_f.up l12) ha
  obtain rfl := hr_a
  refine zaG he17 X X (hk := X) (hu := zp) (hz := zr) X<|zl X X (fun _ hC => (ze (j := 0) hC.sub hc16 X X X zN))<|zD X zx X zbd X X<|zl X X (fun _ hC => (ze (j := 3) hC.sub (hc5.up le9) X X X zbv))<|zbJ X X ?_
  obtain ⟨q, hq⟩ : ∃ y_, (p.questions)[i]? = some y_ := t_ge (by omega)
  obtain ⟨b18, o19, _, he21, hc20, hr_q⟩ := Sl.elem (p_f3.up l12) hq
  obtain ⟨v22, rfl, f23⟩ := hr_q
  have f23_b := f23.le
  refine zaG he21 X X (hk := X) (hu := zau) (hz := zbz) X<|zD X zam X zbO X X<|zl X X (fun _ hC => (ze (j := 3) hC.sub hc20 X X X zca))<|u_len f23 X zaE X<|zig X X t_om X<|zbU X X (fun _ => zbc X Tryz.call57 X) (fun _ hC => Rets.quiet hC (zde hC.sub _ _ _))<|zhO X X<|zaN ?_
  rintro w24 ⟨h25, s26⟩
  have st27 := st10.call0 s26
  refine O ?_
  refine zad rfl (fun c28 => ?_) (fun c28 => ?_)
  ·
   refine W.sr<|zJ X X<|Y<|zB<|zI<|zd<|zd<|zI<|zd<|zc Tryz.results44 ?_
   refine ⟨h25, _, rfl, st27.done, ?_⟩
   refine zw ?_
   (refine (true_no1 (k := i) ?_ ?_).symm; omega; simp only [inAt, ha, hq]; simp_all)
  refine zC<|zP<|O<|zo<|zk X X<|zaP X X t_om X<|zz X X<|Y ?_
  refine ⟨⟨i + 1, h25⟩, ⟨rfl, trivial⟩, ?_, ⟨(le9.trans s26.le), st27, ?_, ?_⟩, ?_⟩
  ·exact zav
  ·first | omega | (simp; omega)
  ·exact zdf hA (by simp only [inAt, ha, hq]; simp_all)
  show xs.length - ((i + 1)) < xs.length - i
  omega
 refine zaC<|zh<|zh<|zah<|O<|zj<|W.sr<|zz X X<|Y<|zF ?_
 refine zat ([4, 6] ++ t_rg 33 21) (G := Nat × Heap) (fun ⟨k, h29⟩ => [(6, .int .i64 (k : Int))]) (fun ⟨k, h29⟩ w' => Le h8 h29 ∧ St h w h29 w' [] ∧ (k ≤ p.voters.length) ∧ (∀ v ∈ p.voters.take k, (zcY v xs : Int) ≤ v.wrong)) (fun ⟨k, h29⟩ => p.voters.length - k) ⟨0, h8⟩ ⟨rfl, trivial⟩ ⟨Le.refl _, st10, zaM, zaM⟩ ?_
 rintro ⟨k, h29⟩ _ w32 ⟨le30, st31, hk, hV⟩
 refine zj<|W.sr<|zk X X<|U X zx X zbp X X<|E (j := 4) st31.sub (hc5.up (le9.trans le30)) X X X zbI X<|have l33:=l12.trans le30;zaJ (p_f4.up l33) X zaA X<|zaV X X X<|Y ?_
 refine zH rfl (fun c34 => ?_) (fun c34 => ?_)
 ·
  refine zC<|O<|zj<|zF<|zj<|zbj Tryz.mixed t_kr (Cls h29 _) (Cls.drew st31)<|zD X zx X zbp X X<|zl X X (fun _ hC => (ze (j := 4) hC.sub (hc5.up (le9.trans le30)) X X X zbI))<|zbJ X X ?_
  obtain ⟨v, hv⟩ : ∃ y_, (p.voters)[k]? = some y_ := t_ge (by omega)
  obtain ⟨b35, o36, _, he38, hc37, hr_v⟩ := Sl.elem (p_f4.up l33) hv
  obtain ⟨v39, rfl, f40⟩ := hr_v
  have f40_b := f40.le
  refine zaG he38 X X (hk := X) (hu := zaA) (hz := zbA) X<|zl X X (fun _ hC => (zZ hC.sub hc37 X Tryz.isAgg79 zbA X))<|zdn (v := xs_v) X X ?_
  have hvo := ziA hp (List.mem_of_getElem? hv)
  refine zbU rfl rfl (fun _ => zbc rfl Tryz.call58 rfl) (fun _ hC => Rets.quiet hC (c_postilref07_wrongs hC.sub (v := v) f40 (xs_f.up l33) (by omega) (by exact hb))) ?_
  refine zD X zx X zbp X X<|zl X X (fun _ hC => (ze (j := 4) hC.sub (hc5.up (le9.trans le30)) X X X zbI))<|zbJ X X<|zaG he38 X X (hk := X) (hu := zaA) (hz := zbA) X<|zD X zaU X zr X X<|zl X X (fun _ hC => (ze (j := 1) hC.sub hc37 X X X zN))<|u_gtr X X X<|zaN ?_
  rintro w41 ⟨h42, s43⟩
  have st44 := st31.call0 s43
  refine O ?_
  refine zH rfl (fun c45 => ?_) (fun c45 => ?_)
  ·
   refine W.sr<|zJ X X<|Y<|zB<|zI<|zd<|zd<|zI<|zd<|zc Tryz.results44 ?_
   refine ⟨h42, _, rfl, st44.done, ?_⟩
   refine zw ?_
   (refine (true_no2 (List.mem_of_getElem? hv) ?_).symm; omega)
  refine zC<|zP<|O<|zo<|zk X X<|zaP X X t_om X<|zz X X<|Y ?_
  refine ⟨⟨k + 1, h42⟩, ⟨rfl, trivial⟩, ?_, ⟨(le30.trans s43.le), st44, ?_, ?_⟩, ?_⟩
  ·exact zav
  ·first | omega | (simp; omega)
  ·exact all_snoc hV hv (by omega)
  show p.voters.length - ((k + 1)) < p.voters.length - k
  omega
 refine zaC<|zh<|zh<|zah<|O<|W.sr<|zJ X X<|Y<|zB<|zc Tryz.results44 ?_
 refine ⟨h29, _, rfl, st31.done, ?_⟩
 refine zw ?_
 (refine (true_yes ?_ hA ?_ hV ?_).symm <;> omega)
end Go.Pk

namespace Go.Pk
open Go Go.RowKit Go.Proofs
set_option maxHeartbeats 4000000 in
theorem c_postilref07_truths {h : Heap} {w : World} (hs : Sub h w) {p : Poll} {p_v0 : Value} (p_f0 : Sl LChapter h p_v0 p.text.chapters) {p_v1 : Value} (p_f1 : Sl LRule h p_v1 p.lexicon.rules) {p_v2 : Value} (p_f2 : Sl LDecision h p_v2 p.lexicon.decisions) {p_v3 : Value} (p_f3 : Sl LQuestion h p_v3 p.questions) {p_v4 : Value} (p_f4 : Sl LVoter h p_v4 p.voters) (hp : zdh p = true) : Calls Tryz.prog 103 #[.agg #[p_v0, p_v1, p_v2, p_v3, p_v4]] w (Rets h w (fun h' _ res_ => ∃ u0, res_ = u0 ∧ Sl (LSl LInt) h' u0 ((zas p)))) := by
 refine zS (n := 53) Tryz.func103 X X X ?_
 have st0 := t_s0 hs
 have p_f0_b := p_f0.le
 have p_f1_b := p_f1.le
 have p_f2_b := p_f2.le
 have p_f3_b := p_f3.le
 have p_f4_b := p_f4.le
 have hpl := zeh hp
 have hcl : (zda (zcg p)).length = zdT (zcg p) := zfX _
 have hpr := prod_le hp
 refine W.sr<|zG st0 (cs := [p_v0, p_v1, p_v2, p_v3, p_v4]) X X X<|fun b1 w2 h3 le4 hc5 st6=>zcz X X<|Y<|W.sr<|zcz X X<|Y<|W.sr<|U X zx X zbd X X<|E (j := 3) st6.sub hc5 X X X zbv X<|zaJ (p_f3.up le4) X zau X ?_
 refine OpsL.makeInts (m := p.questions.length) st6 rfl zp Tryz.info3 rfl rfl rfl rfl (by show 8 * (p.questions.length) ≤ 281474976710656; omega) (by omega) ?_
 intro v7 o8 w9 f10 st11
 refine zaj (v := v7) X X<|Y<|zF ?_
 have st15 := st11.snoc
 have f16 := OSl.nil (LSl LInt) 42 h3
 refine zat ([2, 3, 5] ++ t_rg 10 43) (G := Nat × List Int × Value × List (Nat × Obj) × List (Nat × Obj) × Heap) (fun ⟨j, xs, v_3, o_3, o_4, h12⟩ => [(3, v_3)]) (fun ⟨j, xs, v_3, o_3, o_4, h12⟩ w' => Le h3 h12 ∧ St h w h12 w' [o_4, o_3] ∧ (OSl (LSl LInt) 42 h12 v_3 ((((zda (zcg p)).take j).filter (zef p))) o_3) ∧ (OSl LInt 3 h12 v7 (xs) o_4) ∧ ((zda (zcg p))[j]? = some xs)) (fun ⟨j, xs, v_3, o_3, o_4, h12⟩ => (zda (zcg p)).length - j) ⟨0, (List.replicate p.questions.length 0), (.slice none 0 0), [], o8, h3⟩ ⟨rfl, trivial⟩ ⟨Le.refl _, st15, (OSl.to f16 (by rfl)), (OSl.to f10 (by rfl)), (by rw [cand_zero (sizes_pos hp), sizes_len])⟩ ?_
 rintro ⟨j, xs, v_3, o_3, o_4, h12⟩ _ w17 ⟨le13, st14, hO_3, hO_4, hx⟩
 have hxl := cand_xlen hx
 have hj := (List.getElem?_eq_some_iff.1 hx).1
 refine zF<|zj<|W.sr<|zy st14.sub (hc5.up le13) X zbV zbm X X<|zaa (v := v7) X X ?_
 have ha18 := zhm st14.sub
 have f19 := (OSl.whole (k := 0) st14 hO_4 rfl (by omega)).2
 have l20 := (le4.trans le13).trans ha18
 refine zn st14 rfl rfl rfl Tryz.call44 rfl (Rets.thaw st14.sub (c_postilref07_True (zfc _) (p := p) (p_f0.up l20) (p_f1.up l20) (p_f2.up l20) (p_f3.up l20) (p_f4.up l20) f19 (by exact hp) (by omega))) ?_
 intro r21 w22 h23 le24 st25 q26
 obtain rfl := q26
 refine Y ?_
 refine zad rfl (fun c27 => ?_) (fun c27 => ?_)
 ·
  have htr : zef p xs = true := c27
  refine zo<|zaa (v := v_3) X X<|zen (L := LInt) st25 X ⟨_, zr⟩ zp<|fun v28 o29 w30 f31 st32=>zaa (v := v7) X X ?_
  refine OpsL.appendOwnI (k := 2) (k2 := 0) (nb := 8) st32 f31 rfl (hO_4.up le24) rfl (by decide) rfl rfl rfl zp Tryz.info3 rfl rfl rfl rfl (by have hq1_ := List.length_filter_le (zef p) ((zda (zcg p)).take j); rw [List.length_take] at hq1_; (try simp only [List.length_append, List.length_cons, List.length_nil]); omega) (by have hq1_ := List.length_filter_le (zef p) ((zda (zcg p)).take j); rw [List.length_take] at hq1_; (try simp only [List.length_append, List.length_cons, List.length_nil]); omega) ?_
  intro v33 o34 w35 _ e36 f37 st38
  subst e36
  obtain ⟨h39, le40, f41, st42⟩ := OSl.freeze (k := 2) st38 f37 rfl (by first | omega | (have hq1_ := List.length_filter_le (zef p) ((zda (zcg p)).take j); rw [List.length_take] at hq1_; (try simp only [List.length_append, List.length_cons, List.length_nil]); omega))
  refine zaL (L := (LSl LInt)) (xs := [([] ++ xs)]) (cs := [v33]) st42 (Enc.cons (L := (LSl LInt)) (vs := [v33]) (x := ([] ++ xs)) (h := h39) (⟨_, rfl, f41⟩) Enc.nil) rfl rfl rfl zcm Tryz.info42 rfl rfl rfl (by obtain ⟨_, _, rfl⟩ := Sl.form f41; kernel_rfl) ?_
  intro v43 w44 h47 le48 f45 st46
  refine zaR (k := 1) (nb := 24) st46 (hO_3.up ((le24.trans le40).trans le48)) rfl f45 rfl rfl rfl zcm Tryz.info42 rfl rfl rfl (by decide) rfl (by have hq1_ := List.length_filter_le (zef p) ((zda (zcg p)).take j); rw [List.length_take] at hq1_; (try simp only [List.length_append, List.length_cons, List.length_nil]); omega) (by have hq1_ := List.length_filter_le (zef p) ((zda (zcg p)).take j); rw [List.length_take] at hq1_; (try simp only [List.length_append, List.length_cons, List.length_nil]); omega) ?_
  intro v49 o50 w51 _ e52 f53 st54
  subst e52
  refine zaj (v := v49) X X<|Y<|W.sr<|zaa (v := v7) X X<|zeu (hO_4.up ((le24.trans le40).trans le48)) X zp X<|zfu X X t_om X<|zz X X<|Y<|zj<|zF ?_
  refine zat ([5] ++ t_rg 22 22) (G := Nat × List (Nat × Obj) × Heap) (fun ⟨m, o_4, h55⟩ => [(5, .int .i64 ((m : Int) - 1))]) (fun ⟨m, o_4, h55⟩ w' => Le h47 h55 ∧ St h w h55 w' [o_4, o50, []] ∧ (OSl LInt 3 h55 v7 ((xs.take m ++ List.replicate (xs.length - m) 0)) o_4) ∧ (m ≤ xs.length) ∧ (∀ (k n : Nat) (x : Int), m ≤ k → (zcg p)[k]? = some n → xs[k]? = some x → x = (n : Int) - 1)) (fun ⟨m, o_4, h55⟩ => m) ⟨xs.length, o_4, h47⟩ ⟨rfl, trivial⟩ ⟨Le.refl _, st54, (OSl.to (hO_4.up ((le24.trans le40).trans le48)) (by simp)), zaM, (by intro k n x hk _ hx2; rw [List.getElem?_eq_none hk] at hx2; cases hx2)⟩ ?_
  rintro ⟨m, o_4, h55⟩ _ w58 ⟨le56, st57, hO_4, hm, hz⟩
  refine zj<|zj<|zbj Tryz.mixed t_kr (Cls h55 _) (Cls.drew st57)<|zbJ X X<|u_geq X X X<|zdS X X ?_
  refine zcP (d := 24) rfl (fun g59 => ?_) (fun g59 => ?_)
  ·
   refine zg X X X<|zdn (v := v7) X X<|zg X X X<|zbJ X X<|zg X X X ?_
   obtain ⟨a, ha⟩ : ∃ y_, ((xs.take m ++ List.replicate (xs.length - m) 0))[(m - 1)]? = some y_ := t_ge (by simp only [List.length_append, List.length_take, List.length_replicate]; omega)
   obtain ⟨b60, o61, cur62, _, e65, he63, hr_a, hc64⟩ := OSl.elem hO_4 ha
   subst e65
   obtain rfl := hr_a
   refine zl rfl rfl (fun _ _ => (zao he63 rfl rfl (hk := (show _ = (((m - 1) : Nat) : Int) by omega)) (hu := zp) (hz := zr))) ?_
   refine zg X X X<|zl X X (fun _ hC => (zct (j := 0) (hC.block (st57.get (k := 0) X)) hc64 X X X zN))<|zg X X X<|zD X zx X zbd X X<|zg X X X<|have l66:=(((le13.trans le24).trans le40).trans le48).trans le56;zl X X (fun _ hC => (ze (j := 3) hC.sub (hc5.up l66) X X X zbv))<|zg X X X<|zbJ X X<|zg X X X ?_
   obtain ⟨q, hq⟩ : ∃ y_, (p.questions)[(m - 1)]? = some y_ := t_ge (by omega)
   have l71 := ((((le4.trans le13).trans le24).trans le40).trans le48).trans le56
   obtain ⟨b67, o68, _, he70, hc69, hr_q⟩ := Sl.elem (p_f3.up l71) hq
   obtain ⟨v72, rfl, f73⟩ := hr_q
   have f73_b := f73.le
   refine zl rfl rfl (fun _ _ => (zao he70 rfl rfl (hk := (show _ = (((m - 1) : Nat) : Int) by omega)) (hu := zau) (hz := zbz))) ?_
   refine zg X X X<|zD X zam X zbO X X<|zg X X X<|zl X X (fun _ hC => (ze (j := 3) hC.sub hc69 X X X zca))<|zg X X X<|u_len f73 X zaE X<|zg X X X<|zig X X t_om X<|zg X X X<|u_eql X X X<|zcK (v := (.bool _)) X X X<|zaN ?_
   rintro w74 ⟨h75, s76⟩
   have st77 := st57.call0 s76
   refine O ?_
   refine zH rfl (fun c78 => ?_) (fun c78 => ?_)
   ·
    refine zC<|O<|zF<|W.sr<|zaa (v := v7) X X<|zk X X ?_
    obtain ⟨b79, o80, cur81, _, e84, he82, hr_a, hc83⟩ := OSl.elem (hO_4.up s76.le) ha
    obtain ⟨hb85, hc86⟩ : b60 = b79 ∧ cur62 = cur81 := by cases e84; exact ⟨rfl, rfl⟩
    subst hb85
    subst hc86
    obtain rfl := hr_a
    refine zq rfl rfl (zao he82 rfl rfl (hk := (show _ = (((m - 1) : Nat) : Int) by omega)) (hu := zp) (hz := zr)) ?_
    refine zdi (k := 0) st77 (hO_4.up s76.le) rfl (by simp only [List.length_append, List.length_take, List.length_replicate]; omega) he82 rfl rfl (rfl) zr ?_
    intro o87 w88 _ e89 f90 st91
    subst e89
    refine Y<|zo<|zk X X<|zfu X X t_om X<|zz X X<|zt<|zP<|O ?_
    have hm0 : 1 ≤ m := by omega
    have ha1 := odo_at ha hm0 hm
    refine ⟨⟨m - 1, o87, h75⟩, ⟨?_, trivial⟩, ?_, ⟨(le56.trans s76.le), st91, ?_, ?_, ?_⟩, ?_⟩
    ·exact zar (by omega)
    ·exact zav
    ·refine OSl.to f90 ?_
     exact odo_zero hm0 hm
    ·first | omega | (simp; omega)
    ·exact odo_max hz hm0 ha1 hq (by first | assumption | omega)
    show ((m - 1)) < m
    omega
   refine zaC<|zh<|zh<|zah<|O<|zj<|W.sr<|zk X X<|zaV X X X<|Y ?_
   refine zH rfl (fun c92 => ?_) (fun c92 => ?_)
   ·
    exfalso
    have sure_ : (decide (((m : Int) - 1) < 0)) = false := by exact decide_eq_false (by omega)
    exact t_of sure_ c92
   refine zC<|O<|zo<|zaa (v := v7) X X<|zk X X ?_
   obtain ⟨b93, o94, cur95, _, e98, he96, hr_a, hc97⟩ := OSl.elem (hO_4.up s76.le) ha
   obtain ⟨hb99, hc100⟩ : b60 = b93 ∧ cur62 = cur95 := by cases e98; exact ⟨rfl, rfl⟩
   subst hb99
   subst hc100
   obtain rfl := hr_a
   refine zq rfl rfl (zao he96 rfl rfl (hk := (show _ = (((m - 1) : Nat) : Int) by omega)) (hu := zp) (hz := zr)) ?_
   refine zq X X (zct (j := 0) (st77.get (k := 0) X) hc97 X X X zN) ?_
   refine zq rfl rfl (zij rfl rfl (by have q0 := cand_small hp hx (odo_at ha (by omega) hm); omega)) ?_
   obtain ⟨b101, o102, cur103, _, e106, he104, hr_a, hc105⟩ := OSl.elem (hO_4.up s76.le) ha
   obtain ⟨hb107, hc108⟩ : b60 = b101 ∧ cur62 = cur103 := by cases e106; exact ⟨rfl, rfl⟩
   subst hb107
   subst hc108
   obtain rfl := hr_a
   refine zq rfl rfl (zao he104 rfl rfl (hk := (show _ = (((m - 1) : Nat) : Int) by omega)) (hu := zp) (hz := zr)) ?_
   refine zdi (k := 0) st77 (hO_4.up s76.le) rfl (by simp only [List.length_append, List.length_take, List.length_replicate]; omega) he104 rfl rfl (rfl) zr ?_
   intro o109 w110 _ e111 f112 st113
   subst e111
   refine zt<|zP<|O ?_
   have hm0 : 1 ≤ m := by omega
   have ha1 := odo_at ha hm0 hm
   have hnx := odo_next hp hx hz hm0 ha1 hq (by first | assumption | omega)
   refine ⟨⟨j + 1, (xs.take (m - 1) ++ (a + 1) :: List.replicate (xs.length - m) 0), v49, o50, o109, h75⟩, ⟨rfl, trivial⟩, ?_, ⟨(l66.trans s76.le), st113.take 2, ?_, ?_, ?_⟩, ?_⟩
   ·exact zav
   ·refine OSl.to (f53.up (le56.trans s76.le)) ?_
    rw [zbb hx, List.filter_append, List.filter_cons, List.filter_nil]; simp [htr]
   ·refine OSl.to f112 ?_
    exact odo_set hm0 hm
   ·exact hnx
   show (zda (zcg p)).length - ((j + 1)) < (zda (zcg p)).length - j
   omega
  refine zb X X X X X<|zb X X X X X<|zb X X X X X<|zb X X X X X<|zb X X X X X<|zb X X X X X<|zb X X X X X<|zb X X X X X<|zb X X X X X<|zb X X X X X<|zb X X X X X<|zb X X X X X<|zb X X X X X<|zcL (v := (.bool _)) X X X<|zaN ?_
  rintro w114 ⟨h115, s116⟩
  have st117 := st57.call0 s116
  refine O ?_
  refine zad rfl (fun c118 => ?_) (fun c118 => ?_)
  ·
   cases c118
  refine zaC<|zh<|zh<|zah<|O<|zj<|W.sr<|zk X X<|zaV X X X<|Y ?_
  refine zH rfl (fun c119 => ?_) (fun c119 => ?_)
  ·
   refine W.sr<|zaa (v := v49) X X<|zaj (v := v49) X X<|Y<|zB<|zd<|zI<|zd<|zI<|zc Tryz.results103 ?_
   obtain ⟨h120, le121, f122, st123⟩ := OSl.freeze (k := 1) st117 (f53.up (le56.trans s116.le)) rfl (by first | omega | (have hq1_ := List.length_filter_le (zef p) ((zda (zcg p)).take j); rw [List.length_take] at hq1_; (try simp only [List.length_append, List.length_cons, List.length_nil]); omega))
   refine ⟨h120, _, rfl, st123.done, ?_⟩
   refine ⟨_, rfl, Sl.to f122 ?_⟩
   obtain rfl : m = 0 := (by omega)
   rw [truths_end hx hz]; simp [htr]
  exfalso
  have sure_ : (decide (((m : Int) - 1) < 0)) = true := by exact decide_eq_true (by omega)
  exact c119 (t_ot sure_)
 have htr : zef p xs = false := c27
 refine zC<|O<|W.sr<|zaa (v := v7) X X<|zeu (hO_4.up le24) X zp X<|zfu X X t_om X<|zz X X<|Y<|zj<|zF ?_
 refine zat ([5] ++ t_rg 22 22) (G := Nat × List (Nat × Obj) × Heap) (fun ⟨m, o_4, h124⟩ => [(5, .int .i64 ((m : Int) - 1))]) (fun ⟨m, o_4, h124⟩ w' => Le h23 h124 ∧ St h w h124 w' [o_4, o_3] ∧ (OSl LInt 3 h124 v7 ((xs.take m ++ List.replicate (xs.length - m) 0)) o_4) ∧ (m ≤ xs.length) ∧ (∀ (k n : Nat) (x : Int), m ≤ k → (zcg p)[k]? = some n → xs[k]? = some x → x = (n : Int) - 1)) (fun ⟨m, o_4, h124⟩ => m) ⟨xs.length, o_4, h23⟩ ⟨rfl, trivial⟩ ⟨Le.refl _, st25, (OSl.to (hO_4.up le24) (by simp)), zaM, (by intro k n x hk _ hx2; rw [List.getElem?_eq_none hk] at hx2; cases hx2)⟩ ?_
 rintro ⟨m, o_4, h124⟩ _ w127 ⟨le125, st126, hO_4, hm, hz⟩
 refine zj<|zj<|zbj Tryz.mixed t_kr (Cls h124 _) (Cls.drew st126)<|zbJ X X<|u_geq X X X<|zdS X X ?_
 refine zcP (d := 24) rfl (fun g128 => ?_) (fun g128 => ?_)
 ·
  refine zg X X X<|zdn (v := v7) X X<|zg X X X<|zbJ X X<|zg X X X ?_
  obtain ⟨a, ha⟩ : ∃ y_, ((xs.take m ++ List.replicate (xs.length - m) 0))[(m - 1)]? = some y_ := t_ge (by simp only [List.length_append, List.length_take, List.length_replicate]; omega)
  obtain ⟨b129, o130, cur131, _, e134, he132, hr_a, hc133⟩ := OSl.elem hO_4 ha
  subst e134
  obtain rfl := hr_a
  refine zl rfl rfl (fun _ _ => (zao he132 rfl rfl (hk := (show _ = (((m - 1) : Nat) : Int) by omega)) (hu := zp) (hz := zr))) ?_
  refine zg X X X<|zl X X (fun _ hC => (zct (j := 0) (hC.block (st126.get (k := 0) X)) hc133 X X X zN))<|zg X X X<|zD X zx X zbd X X<|zg X X X<|zl X X (fun _ hC => (ze (j := 3) hC.sub (hc5.up ((le13.trans le24).trans le125)) X X X zbv))<|zg X X X<|zbJ X X<|zg X X X ?_
  obtain ⟨q, hq⟩ : ∃ y_, (p.questions)[(m - 1)]? = some y_ := t_ge (by omega)
  have l139 := ((le4.trans le13).trans le24).trans le125
  obtain ⟨b135, o136, _, he138, hc137, hr_q⟩ := Sl.elem (p_f3.up l139) hq
  obtain ⟨v140, rfl, f141⟩ := hr_q
  have f141_b := f141.le
  refine zl rfl rfl (fun _ _ => (zao he138 rfl rfl (hk := (show _ = (((m - 1) : Nat) : Int) by omega)) (hu := zau) (hz := zbz))) ?_
  refine zg X X X<|zD X zam X zbO X X<|zg X X X<|zl X X (fun _ hC => (ze (j := 3) hC.sub hc137 X X X zca))<|zg X X X<|u_len f141 X zaE X<|zg X X X<|zig X X t_om X<|zg X X X<|u_eql X X X<|zcK (v := (.bool _)) X X X<|zaN ?_
  rintro w142 ⟨h143, s144⟩
  have st145 := st126.call0 s144
  refine O ?_
  refine zH rfl (fun c146 => ?_) (fun c146 => ?_)
  ·
   refine zC<|O<|zF<|W.sr<|zaa (v := v7) X X<|zk X X ?_
   obtain ⟨b147, o148, cur149, _, e152, he150, hr_a, hc151⟩ := OSl.elem (hO_4.up s144.le) ha
   obtain ⟨hb153, hc154⟩ : b129 = b147 ∧ cur131 = cur149 := by cases e152; exact ⟨rfl, rfl⟩
   subst hb153
   subst hc154
   obtain rfl := hr_a
   refine zq rfl rfl (zao he150 rfl rfl (hk := (show _ = (((m - 1) : Nat) : Int) by omega)) (hu := zp) (hz := zr)) ?_
   refine zdi (k := 0) st145 (hO_4.up s144.le) rfl (by simp only [List.length_append, List.length_take, List.length_replicate]; omega) he150 rfl rfl (rfl) zr ?_
   intro o155 w156 _ e157 f158 st159
   subst e157
   refine Y<|zo<|zk X X<|zfu X X t_om X<|zz X X<|zt<|zP<|O ?_
   have hm0 : 1 ≤ m := by omega
   have ha1 := odo_at ha hm0 hm
   refine ⟨⟨m - 1, o155, h143⟩, ⟨?_, trivial⟩, ?_, ⟨(le125.trans s144.le), st159, ?_, ?_, ?_⟩, ?_⟩
   ·exact zar (by omega)
   ·exact zav
   ·refine OSl.to f158 ?_
    exact odo_zero hm0 hm
   ·first | omega | (simp; omega)
   ·exact odo_max hz hm0 ha1 hq (by first | assumption | omega)
   show ((m - 1)) < m
   omega
  refine zaC<|zh<|zh<|zah<|O<|zj<|W.sr<|zk X X<|zaV X X X<|Y ?_
  refine zH rfl (fun c160 => ?_) (fun c160 => ?_)
  ·
   exfalso
   have sure_ : (decide (((m : Int) - 1) < 0)) = false := by exact decide_eq_false (by omega)
   exact t_of sure_ c160
  refine zC<|O<|zo<|zaa (v := v7) X X<|zk X X ?_
  obtain ⟨b161, o162, cur163, _, e166, he164, hr_a, hc165⟩ := OSl.elem (hO_4.up s144.le) ha
  obtain ⟨hb167, hc168⟩ : b129 = b161 ∧ cur131 = cur163 := by cases e166; exact ⟨rfl, rfl⟩
  subst hb167
  subst hc168
  obtain rfl := hr_a
  refine zq rfl rfl (zao he164 rfl rfl (hk := (show _ = (((m - 1) : Nat) : Int) by omega)) (hu := zp) (hz := zr)) ?_
  refine zq X X (zct (j := 0) (st145.get (k := 0) X) hc165 X X X zN) ?_
  refine zq rfl rfl (zij rfl rfl (by have q0 := cand_small hp hx (odo_at ha (by omega) hm); omega)) ?_
  obtain ⟨b169, o170, cur171, _, e174, he172, hr_a, hc173⟩ := OSl.elem (hO_4.up s144.le) ha
  obtain ⟨hb175, hc176⟩ : b129 = b169 ∧ cur131 = cur171 := by cases e174; exact ⟨rfl, rfl⟩
  subst hb175
  subst hc176
  obtain rfl := hr_a
  refine zq rfl rfl (zao he172 rfl rfl (hk := (show _ = (((m - 1) : Nat) : Int) by omega)) (hu := zp) (hz := zr)) ?_
  refine zdi (k := 0) st145 (hO_4.up s144.le) rfl (by simp only [List.length_append, List.length_take, List.length_replicate]; omega) he172 rfl rfl (rfl) zr ?_
  intro o177 w178 _ e179 f180 st181
  subst e179
  refine zt<|zP<|O ?_
  have hm0 : 1 ≤ m := by omega
  have ha1 := odo_at ha hm0 hm
  have hnx := odo_next hp hx hz hm0 ha1 hq (by first | assumption | omega)
  have l182 := ((le13.trans le24).trans le125).trans s144.le
  refine ⟨⟨j + 1, (xs.take (m - 1) ++ (a + 1) :: List.replicate (xs.length - m) 0), v_3, o_3, o177, h143⟩, ⟨rfl, trivial⟩, ?_, ⟨l182, st181, ?_, ?_, ?_⟩, ?_⟩
  ·exact zav
  ·refine OSl.to (hO_3.up ((le24.trans le125).trans s144.le)) ?_
   rw [zbb hx, List.filter_append, List.filter_cons, List.filter_nil]; simp [htr]
  ·refine OSl.to f180 ?_
   exact odo_set hm0 hm
  ·exact hnx
  show (zda (zcg p)).length - ((j + 1)) < (zda (zcg p)).length - j
  omega
 refine zb X X X X X<|zb X X X X X<|zb X X X X X<|zb X X X X X<|zb X X X X X<|zb X X X X X<|zb X X X X X<|zb X X X X X<|zb X X X X X<|zb X X X X X<|zb X X X X X<|zb X X X X X<|zb X X X X X<|zcL (v := (.bool _)) X X X<|zaN ?_
 rintro w183 ⟨h184, s185⟩
 have st186 := st126.call0 s185
 refine O ?_
 refine zad rfl (fun c187 => ?_) (fun c187 => ?_)
 ·
  cases c187
 refine zaC<|zh<|zh<|zah<|O<|zj<|W.sr<|zk X X<|zaV X X X<|Y ?_
 refine zH rfl (fun c188 => ?_) (fun c188 => ?_)
 ·
  refine W.sr<|zaa (v := v_3) X X<|zaj (v := v_3) X X<|Y<|zB<|zd<|zI<|zd<|zI<|zc Tryz.results103 ?_
  obtain ⟨h189, le190, f191, st192⟩ := OSl.freeze (k := 1) st186 (hO_3.up ((le24.trans le125).trans s185.le)) rfl (by first | omega | (have hq1_ := List.length_filter_le (zef p) ((zda (zcg p)).take j); rw [List.length_take] at hq1_; (try simp only [List.length_append, List.length_cons, List.length_nil]); omega))
  refine ⟨h189, _, rfl, st192.done, ?_⟩
  refine ⟨_, rfl, Sl.to f191 ?_⟩
  obtain rfl : m = 0 := (by omega)
  rw [truths_end hx hz]; simp [htr]
 exfalso
 have sure_ : (decide (((m : Int) - 1) < 0)) = true := by exact decide_eq_true (by omega)
 exact c188 (t_ot sure_)
theorem zhD {h : Heap} {w : World} (hs : Sub h w) {p : Poll} {p_v0 : Value} (p_f0 : Sl LChapter h p_v0 p.text.chapters) {p_v1 : Value} (p_f1 : Sl LRule h p_v1 p.lexicon.rules) {p_v2 : Value} (p_f2 : Sl LDecision h p_v2 p.lexicon.decisions) {p_v3 : Value} (p_f3 : Sl LQuestion h p_v3 p.questions) {p_v4 : Value} (p_f4 : Sl LVoter h p_v4 p.voters) (right : Bool) : Calls Tryz.prog 56 #[.agg #[p_v0, p_v1, p_v2, p_v3, p_v4], .bool right] w (Rets h w (fun h' _ res_ => ∃ u0, res_ = .tuple #[u0, .int .i64 (allE p right)] ∧ Sl (LSl LInt) h' u0 ((allL p right)))) := by
 refine zS (n := 21) Tryz.func56 X X X<|have st0:=t_s0 hs;have p_f0_b:=p_f0.le;have p_f1_b:=p_f1.le;have p_f2_b:=p_f2.le;have p_f3_b:=p_f3.le;have p_f4_b:=p_f4.le;W.sr<|zG st0 (cs := [p_v0, p_v1, p_v2, p_v3, p_v4]) X X X<|fun b1 w2 h3 le4 hc5 st6=>zcz X X<|zz X X<|Y<|zj<|W.sr<|zy st6.sub hc5 X zbV zbm X X<|zn st6 X X X Tryz.call59 X (c_postilref07_Check st6.sub (p := p) (p_f0.up le4) (p_f1.up le4) (p_f2.up le4) (p_f3.up le4) (p_f4.up le4))<|fun r7 w8 h9 le10 st11 q12=> ?_
 obtain rfl := q12
 refine zz X X<|Y<|W.sr<|zk X X<|zcF X X X<|Y ?_
 refine zH rfl (fun c13 => ?_) (fun c13 => ?_)
 ·
  refine W.sr<|zk X X<|zcz X X<|zz X X<|Y<|zB<|zd<|zbs Tryz.results56 ?_
  refine ⟨h9, _, rfl, st11.done, ?_⟩
  refine ⟨_, tup2 rfl (zar ?_), Sl.to (Sl.nil _ _) ?_⟩
  all_goals simp_all [allL, allE]
 refine zC<|O<|zj<|W.sr<|zai X X<|zbQ X X<|Y ?_
 refine zad rfl (fun c14 => ?_) (fun c14 => ?_)
 ·
  refine W.sr<|zcz X X<|zz X X<|Y<|zB<|zd<|zbs Tryz.results56 ?_
  refine ⟨h9, _, rfl, st11.done, ?_⟩
  refine ⟨_, tup2 rfl (zar ?_), Sl.to (Sl.nil _ _) ?_⟩
  all_goals simp_all [allL, allE]
 refine zC<|O<|W.sr<|zy st11.sub (hc5.up le10) X zbV zbm X X ?_
 have l15 := le4.trans le10
 refine zn st11 rfl rfl rfl Tryz.call103 rfl (c_postilref07_truths st11.sub (p := p) (p_f0.up l15) (p_f1.up l15) (p_f2.up l15) (p_f3.up l15) (p_f4.up l15) (by exact (zdj (by simpa using c13)).2)) ?_
 intro r16 w17 h18 le19 st20 q21
 obtain ⟨v22, e24, f23⟩ := q21
 rw [← e24] at f23
 have f23_b := f23.le
 refine zaj (v := r16) X X<|Y<|zj<|W.sr<|zaa (v := r16) X X<|zaJ f23 X zcm X<|zee X X X<|Y ?_
 refine zH rfl (fun c25 => ?_) (fun c25 => ?_)
 ·
  refine W.sr<|zcz X X<|zz X X<|Y<|zB<|zd<|zbs Tryz.results56 ?_
  refine ⟨h18, _, rfl, st20.done, ?_⟩
  refine ⟨_, tup2 rfl (zar ?_), Sl.to (Sl.nil _ _) ?_⟩
  all_goals simp_all [allL, allE]
 refine zC<|O<|W.sr<|zaa (v := r16) X X<|zaj (v := r16) X X<|zz X X<|Y<|zB<|zbs Tryz.results56 ?_
 refine ⟨h18, _, rfl, st20.done, ?_⟩
 refine ⟨_, tup2 rfl (zar ?_), Sl.to f23 ?_⟩
 all_goals simp_all [allL, allE]
end Go.Pk

namespace Go.Pk
open Go Go.RowKit Go.Proofs
end Go.Pk

namespace Go.Pk
open Go Go.RowKit Go.Proofs
end Go.Pk

namespace Go.Pk
open Go Go.RowKit Go.Proofs
theorem zgw {h : Heap} {w : World} (hs : Sub h w) {p : Poll} {p_v0 : Value} (p_f0 : Sl LChapter h p_v0 p.text.chapters) {p_v1 : Value} (p_f1 : Sl LRule h p_v1 p.lexicon.rules) {p_v2 : Value} (p_f2 : Sl LDecision h p_v2 p.lexicon.decisions) {p_v3 : Value} (p_f3 : Sl LQuestion h p_v3 p.questions) {p_v4 : Value} (p_f4 : Sl LVoter h p_v4 p.voters) {ts_v : Value} {ts : (List (List Int))} (ts_f : Sl (LSl LInt) h ts_v ts) (hn : 0 < ts.length) (hl : ∀ t ∈ ts, t.length = p.questions.length) (hq : p.questions.length ≤ 6) : Calls Tryz.prog 81 #[.agg #[p_v0, p_v1, p_v2, p_v3, p_v4], ts_v] w (Rets h w (fun h' _ res_ => ∃ u0, res_ = u0 ∧ Sl LInt h' u0 ((zbK ts)))) := by
 refine zS (n := 43) Tryz.func81 X X X<|have st0:=t_s0 hs;have p_f0_b:=p_f0.le;have p_f1_b:=p_f1.le;have p_f2_b:=p_f2.le;have p_f3_b:=p_f3.le;have p_f4_b:=p_f4.le;have ts_f_b:=ts_f.le;W.sr<|zG st0 (cs := [p_v0, p_v1, p_v2, p_v3, p_v4]) X X X<|fun b1 w2 h3 le4 hc5 st6=>zcz X X<|Y<|zj ?_
 obtain ⟨a0, ha0⟩ : ∃ y, (ts)[0]? = some y := ⟨_, List.getElem?_eq_getElem (by omega)⟩
 refine zo<|have hla0:=hl a0 (List.mem_of_getElem? ha0);zen (L := LInt) st6 X ⟨_, zr⟩ zp<|fun v7 o8 w9 f10 st11=>zaa (v := ts_v) X X ?_
 obtain ⟨b12, o13, _, he15, hc14, hr_a0⟩ := Sl.elem (ts_f.up le4) ha0
 obtain ⟨v16, rfl, f17⟩ := hr_a0
 have f17_b := f17.le
 refine zV he15 X X (hk := X) (hu := zcm) (hz := zcy) X<|E (j := 0) st11.sub hc14 X X X zcU X ?_
 refine zaR (k := 0) (nb := 8) st11 f10 rfl f17 rfl rfl rfl zp Tryz.info3 rfl rfl rfl (by decide) rfl (by first | omega | (simp only [zeg]; omega) | (simp only [List.length_append, List.length_nil]; omega)) (by first | omega | (simp only [zeg]; omega) | (simp only [List.length_append, List.length_nil]; omega)) ?_
 intro v18 o19 w20 _ e21 f22 st23
 subst e21
 refine zaj (v := v18) X X<|Y<|zj<|W.sr<|zz X X<|Y<|zF ?_
 refine zat ([6, 7] ++ t_rg 13 29) (G := Nat × List (Nat × Obj) × Heap) (fun ⟨i, o_5, h24⟩ => [(6, .int .i64 (i : Int))]) (fun ⟨i, o_5, h24⟩ w' => Le h3 h24 ∧ St h w h24 w' [o_5] ∧ (OSl LInt 3 h24 v18 ((setK (ts.take i) a0)) o_5) ∧ (1 ≤ i ∧ i ≤ ts.length)) (fun ⟨i, o_5, h24⟩ => ts.length - i) ⟨1, o19, h3⟩ ⟨rfl, trivial⟩ ⟨Le.refl _, st23, (OSl.to f22 (by rw [setK_one ha0]; rfl)), (by exact ⟨Nat.le_refl _, hn⟩)⟩ ?_
 rintro ⟨i, o_5, h24⟩ _ w27 ⟨le25, st26, hO_5, hi⟩
 refine zj<|W.sr<|zk X X<|zaa (v := ts_v) X X<|have l28:=le4.trans le25;zaJ (ts_f.up l28) X zcm X<|zaV X X X<|Y ?_
 refine zH rfl (fun c29 => ?_) (fun c29 => ?_)
 ·
  refine zC<|O<|zj<|zF<|W.sr<|zz X X<|Y<|zF ?_
  refine zat ([7] ++ t_rg 19 23) (G := Nat × List (Nat × Obj) × Heap) (fun ⟨k, o_5, h30⟩ => [(7, .int .i64 (k : Int))]) (fun ⟨k, o_5, h30⟩ w' => Le h24 h30 ∧ St h w h30 w' [o_5] ∧ (OSl LInt 3 h30 v18 ((setM ts a0 i k)) o_5) ∧ (k ≤ a0.length)) (fun ⟨k, o_5, h30⟩ => a0.length - k) ⟨0, o_5, h24⟩ ⟨rfl, trivial⟩ ⟨Le.refl _, st26, (OSl.to hO_5 (by exact (setM_zero _ _ _).symm)), zaM⟩ ?_
  rintro ⟨k, o_5, h30⟩ _ w33 ⟨le31, st32, hO_5, hk⟩
  have hml := setM_len ts a0 i k
  refine zj<|W.sr<|zk X X<|zaa (v := v18) X X<|zeu hO_5 X zp X<|zaV X X X<|Y ?_
  refine zH rfl (fun c34 => ?_) (fun c34 => ?_)
  ·
   refine zC<|O<|zj<|zF<|zj<|zbj Tryz.mixed t_kr (Cls h30 _) (Cls.drew st32)<|zdn (v := ts_v) X X<|zbJ X X ?_
   obtain ⟨t, ht⟩ : ∃ y_, (ts)[i]? = some y_ := t_ge (by omega)
   have l39 := l28.trans le31
   obtain ⟨b35, o36, _, he38, hc37, hr_t⟩ := Sl.elem (ts_f.up l39) ht
   obtain ⟨v40, rfl, f41⟩ := hr_t
   have f41_b := f41.le
   refine zaG he38 X X (hk := X) (hu := zcm) (hz := zcy) X<|zl X X (fun _ hC => (ze (j := 0) hC.sub hc37 X X X zcU))<|zbJ X X ?_
   obtain ⟨x, hx⟩ : ∃ y_, (t)[k]? = some y_ := t_ge (by have q1 := hl t (List.mem_of_getElem? ht); have q2 := hl a0 (List.mem_of_getElem? ha0); omega)
   obtain ⟨b42, o43, _, he45, hc44, hr_x⟩ := Sl.elem f41 hx
   obtain rfl := hr_x
   refine zaG he45 X X (hk := X) (hu := zp) (hz := zr) X<|zl X X (fun _ hC => (ze (j := 0) hC.sub hc44 X X X zN))<|zdn (v := ts_v) X X<|zaG he15 X X (hk := X) (hu := zcm) (hz := zcy) X<|zl X X (fun _ hC => (ze (j := 0) hC.sub (hc14.up (le25.trans le31)) X X X zcU))<|zbJ X X ?_
   obtain ⟨y, hy⟩ : ∃ y_, (a0)[k]? = some y_ := t_ge (by omega)
   obtain ⟨b46, o47, _, he49, hc48, hr_y⟩ := Sl.elem (f17.up (le25.trans le31)) hy
   obtain rfl := hr_y
   refine zaG he49 X X (hk := X) (hu := zp) (hz := zr) X<|zl X X (fun _ hC => (ze (j := 0) hC.sub hc48 X X X zN))<|u_neq X X X<|zaN ?_
   rintro w50 ⟨h51, s52⟩
   have st53 := st32.call0 s52
   refine O ?_
   refine zH rfl (fun c54 => ?_) (fun c54 => ?_)
   ·
    refine zo<|zaa (v := v18) X X<|zk X X ?_
    obtain ⟨y55, hy55⟩ : ∃ y_, ((setM ts a0 i k))[k]? = some y_ := t_ge (by omega)
    obtain ⟨b56, o57, cur58, _, e61, he59, hr_y55, hc60⟩ := OSl.elem (hO_5.up s52.le) hy55
    subst e61
    obtain rfl := hr_y55
    refine zV he59 X X (hk := X) (hu := zp) (hz := zr) X ?_
    refine zdi (k := 0) st53 (hO_5.up s52.le) rfl (by omega) he59 rfl rfl (rfl) zr ?_
    intro o62 w63 _ e64 f65 st66
    subst e64
    refine zt<|zP<|O<|zo<|zk X X<|zaP X X t_om X<|zz X X<|Y ?_
    refine ⟨⟨k + 1, o62, h51⟩, ⟨rfl, trivial⟩, ?_, ⟨(le31.trans s52.le), st66, ?_, ?_⟩, ?_⟩
    ·exact zav
    ·refine OSl.to f65 ?_
     exact (setM_else ht hy hx c54).symm
    ·first | omega | (simp; omega)
    show a0.length - ((k + 1)) < a0.length - k
    omega
   refine zC<|zP<|O<|zo<|zk X X<|zaP X X t_om X<|zz X X<|Y ?_
   refine ⟨⟨k + 1, o_5, h51⟩, ⟨rfl, trivial⟩, ?_, ⟨(le31.trans s52.le), st53, ?_, ?_⟩, ?_⟩
   ·exact zav
   ·refine OSl.to (hO_5.up s52.le) ?_
    exact (setM_same ht hy hx (by simpa using c54)).symm
   ·first | omega | (simp; omega)
   show a0.length - ((k + 1)) < a0.length - k
   omega
  refine zaC<|zh<|zh<|zah<|zP<|O<|zo<|zk X X<|zaP X X t_om X<|zz X X<|Y ?_
  refine ⟨⟨i + 1, o_5, h30⟩, ⟨rfl, trivial⟩, ?_, ⟨(le25.trans le31), st32, ?_, ?_⟩, ?_⟩
  ·exact zav
  ·refine OSl.to hO_5 ?_
   exact setM_end (by omega)
  ·exact ⟨by omega, by omega⟩
  show ts.length - ((i + 1)) < ts.length - i
  omega
 refine zaC<|zh<|zh<|zah<|O<|W.sr<|zaa (v := v18) X X<|zaj (v := v18) X X<|Y<|zB<|zc Tryz.results81 ?_
 obtain ⟨h67, le68, f69, st70⟩ := OSl.freeze (k := 0) st26 hO_5 rfl (by rw [zeg]; omega)
 refine ⟨h67, _, rfl, st70.done, ?_⟩
 refine ⟨_, rfl, Sl.to f69 ?_⟩
 rw [zbK, ha0, List.take_of_length_le (by omega)]
end Go.Pk

namespace Go.Pk
open Go Go.RowKit Go.Proofs
theorem c_vote_in_1 {h : Heap} {w : World} (hs : Sub h w) (n : Int) {lo_b : Nat} {lo : Int} (lo_c : Cells h lo_b 0 [.int .i64 lo]) {hi_b : Nat} {hi : Int} (hi_c : Cells h hi_b 0 [.int .i64 hi]) : Calls Tryz.prog 102 #[.int .i64 n, .pointer (some ⟨lo_b, 0, none⟩), .pointer (some ⟨hi_b, 0, none⟩)] w (Rets h w (fun _ _ res_ => res_ = .bool ((decide (n < lo) || decide (hi < n))))) := by
 refine zS (n := 13) Tryz.func102 X X X<|have st0:=t_s0 hs;W.sr<|zJ X X<|Y<|W.sr<|zk X X<|E (j := 0) st0.sub lo_c X X X zN X<|zaV X X X<|zai X X ?_
 refine zaB (d := 8) rfl (fun g1 => ?_) (fun g1 => ?_)
 ·
  refine Z X X X X X<|Z X X X X X<|Z X X X X X<|zaf (v := (.bool _)) X X X<|zJ X X<|Y<|zB<|zc Tryz.results102 ?_
  refine ⟨h, _, rfl, st0.done, ?_⟩
  refine zw ?_
  first | (simp_all; done) | (simp_all; omega)
 refine M X X X<|zk X X<|M X X X<|E (j := 0) st0.sub hi_c X X X zN X<|M X X X<|zdr X X X<|zX (v := (.bool _)) X X X<|zJ X X<|Y<|zB<|zc Tryz.results102 ?_
 refine ⟨h, _, rfl, st0.done, ?_⟩
 refine zw ?_
 first | (simp_all; done) | (simp_all; omega)
theorem zfY {h : Heap} {w : World} (hs : Sub h w) (lo : Int) (hi : Int) {all__v : Value} {all_ : (List Int)} (all__f : Sl LInt h all__v all_) : Calls Tryz.prog 55 #[.int .i64 lo, .int .i64 hi, all__v] w (Rets h w (fun _ _ res_ => res_ = .bool (zcJ all_ lo hi))) := by
 refine zS (n := 11) Tryz.func55 X X X<|have st0:=t_s0 hs;have all__f_b:=all__f.le;W.sr<|zG st0 (cs := [.int .i64 lo]) X X X<|fun b1 w2 h3 le4 hc5 st6=>zG st6 (cs := [.int .i64 hi]) X X X<|fun b7 w8 h9 le10 hc11 st12=>zJ X X<|Y<|W.sr<|zaa (v := all__v) X X<|zdl X X X ?_
 have l13 := le4.trans le10
 refine zn st12 rfl rfl rfl Tryz.call101 rfl (zdq st12.sub (all__f.up l13) (fun x_ => (decide ((x_) < (lo)) || decide ((hi) < (x_)))) Tryz.call102 (fun x_ h_ w_ vs_ le_ hs_ hx_ hr_ u_ hu_ => by cases hu_; cases hr_; exact c_vote_in_1 hs_ _ (lo := lo) ((hc5.up le10).up le_) (hi := hi) (hc11.up le_))) ?_
 intro r14 w15 h16 le17 st18 q19
 obtain rfl := q19
 refine zbQ X X<|zJ X X<|Y<|zB<|zc Tryz.results55 ?_
 refine ⟨h16, _, rfl, st18.done, ?_⟩
 refine zw ?_
 exact inAll_eq all_ lo hi
theorem zhV {h : Heap} {w : World} (hs : Sub h w) (x : Int) (x_l : 0 ≤ x ∧ x ≤ 255) : Calls Tryz.prog 189 #[.int .u8 x] w (Rets h w (fun _ _ res_ => res_ = .bool (false))) := by
 refine zS (n := 6) Tryz.func189 X X X<|have st0:=t_s0 hs;W.sr<|zJ X X<|Y<|W.sr<|zk X X<|zk X X<|zcF X X X<|zJ X X<|Y<|zB<|zc Tryz.results189 ?_
 refine ⟨h, _, rfl, st0.done, ?_⟩
 refine zw ?_
 simp
theorem zhH {h : Heap} {w : World} (hs : Sub h w) (x : Str) (x_le : x.length ≤ 281474976710656) : Calls Tryz.prog 188 #[strV x] w (Rets h w (fun _ _ res_ => res_ = .bool (false))) := by
 refine zS (n := 6) Tryz.func188 X X X<|have st0:=t_s0 hs;W.sr<|zJ X X<|Y<|W.sr<|zbX X X<|zbX X X<|zq X X (r_sneq X X)<|zJ X X<|Y<|zB<|zc Tryz.results188 ?_
 refine ⟨h, _, rfl, st0.done, ?_⟩
 refine zw ?_
 simp
theorem c_cmp_Compare_uint8 {h : Heap} {w : World} (hs : Sub h w) (a : Int) (a_l : 0 ≤ a ∧ a ≤ 255) (b : Int) (b_l : 0 ≤ b ∧ b ≤ 255) : Calls Tryz.prog 142 #[.int .u8 a, .int .u8 b] w (Rets h w (fun _ _ res_ => res_ = .int .i64 (cmpI a b))) := by
 refine zS (n := 20) Tryz.func142 X X X<|have st0:=t_s0 hs;W.sr<|zz X X<|Y<|W.sr<|zk X X ?_
 refine zn st0 rfl rfl rfl Tryz.call189 rfl (zhV st0.sub _ (by omega)) ?_
 intro r1 w2 h3 le4 st5 q6
 obtain rfl := q6
 refine zJ X X<|Y<|W.sr<|zk X X ?_
 refine zn st5 rfl rfl rfl Tryz.call189 rfl (zhV st5.sub _ (by omega)) ?_
 intro r7 w8 h9 le10 st11 q12
 obtain rfl := q12
 refine zJ X X<|Y<|zj<|W.sr<|zai X X<|Y ?_
 refine zad rfl (fun c13 => ?_) (fun c13 => ?_)
 ·
  refine zj<|W.sr<|zai X X<|Y ?_
  refine zad rfl (fun c14 => ?_) (fun c14 => ?_)
  ·
   refine W.sr<|zz X X<|Y<|zB<|zd<|zd<|zc zfo ?_
   refine ⟨h9, _, rfl, st11.done, ?_⟩
   refine zar ?_
   all_goals (unfold cmpI; repeat' split)
   all_goals (first | omega | simp_all | rfl)
  refine zC<|O<|W.sr<|zz X X<|Y<|zB<|zd<|zc zfo ?_
  refine ⟨h9, _, rfl, st11.done, ?_⟩
  refine zar ?_
  all_goals (unfold cmpI; repeat' split)
  all_goals (first | omega | simp_all | rfl)
 refine zC<|O<|zj<|W.sr<|zai X X<|Y ?_
 refine zad rfl (fun c15 => ?_) (fun c15 => ?_)
 ·
  refine W.sr<|zz X X<|Y<|zB<|zd<|zc zfo ?_
  refine ⟨h9, _, rfl, st11.done, ?_⟩
  refine zar ?_
  all_goals (unfold cmpI; repeat' split)
  all_goals (first | omega | simp_all | rfl)
 refine zC<|O<|zj<|W.sr<|zk X X<|zk X X<|zaV X X X<|Y ?_
 refine zH rfl (fun c16 => ?_) (fun c16 => ?_)
 ·
  refine W.sr<|zz X X<|Y<|zB<|zd<|zc zfo ?_
  refine ⟨h9, _, rfl, st11.done, ?_⟩
  refine zar ?_
  all_goals (unfold cmpI; repeat' split)
  all_goals (first | omega | simp_all | rfl)
 refine zC<|O<|zj<|W.sr<|zk X X<|zk X X<|zdr X X X<|Y ?_
 refine zH rfl (fun c17 => ?_) (fun c17 => ?_)
 ·
  refine W.sr<|zz X X<|Y<|zB<|zd<|zc zfo ?_
  refine ⟨h9, _, rfl, st11.done, ?_⟩
  refine zar ?_
  all_goals (unfold cmpI; repeat' split)
  all_goals (first | omega | simp_all | rfl)
 refine zC<|O<|W.sr<|zz X X<|Y<|zB<|zc zfo ?_
 refine ⟨h9, _, rfl, st11.done, ?_⟩
 refine zar ?_
 all_goals (unfold cmpI; repeat' split)
 all_goals (first | omega | simp_all | rfl)
theorem c_cmp_Compare_string {h : Heap} {w : World} (hs : Sub h w) (a : Str) (a_le : a.length ≤ 281474976710656) (b : Str) (b_le : b.length ≤ 281474976710656) : Calls Tryz.prog 141 #[strV a, strV b] w (Rets h w (fun _ _ res_ => res_ = .int .i64 (cmpT a b))) := by
 refine zS (n := 20) Tryz.func141 X X X<|have st0:=t_s0 hs;W.sr<|zz X X<|Y<|W.sr<|zbX X X<|zn st0 X X X Tryz.call188 X (zhH st0.sub _ zba)<|fun r1 w2 h3 le4 st5 q6=> ?_
 obtain rfl := q6
 refine zJ X X<|Y<|W.sr<|zbX X X<|zn st5 X X X Tryz.call188 X (zhH st5.sub _ zba)<|fun r7 w8 h9 le10 st11 q12=> ?_
 obtain rfl := q12
 refine zJ X X<|Y<|zj<|W.sr<|zai X X<|Y ?_
 refine zad rfl (fun c13 => ?_) (fun c13 => ?_)
 ·
  refine zj<|W.sr<|zai X X<|Y ?_
  refine zad rfl (fun c14 => ?_) (fun c14 => ?_)
  ·
   refine W.sr<|zz X X<|Y<|zB<|zd<|zd<|zc zfp ?_
   refine ⟨h9, _, rfl, st11.done, ?_⟩
   refine zar ?_
   all_goals simp_all [cmpT, sLt]
  refine zC<|O<|W.sr<|zz X X<|Y<|zB<|zd<|zc zfp ?_
  refine ⟨h9, _, rfl, st11.done, ?_⟩
  refine zar ?_
  all_goals simp_all [cmpT, sLt]
 refine zC<|O<|zj<|W.sr<|zai X X<|Y ?_
 refine zad rfl (fun c15 => ?_) (fun c15 => ?_)
 ·
  refine W.sr<|zz X X<|Y<|zB<|zd<|zc zfp ?_
  refine ⟨h9, _, rfl, st11.done, ?_⟩
  refine zar ?_
  all_goals simp_all [cmpT, sLt]
 refine zC<|O<|zj<|W.sr<|zbX X X<|zbX X X<|zq X X (r_slss X X)<|Y ?_
 refine zad rfl (fun c16 => ?_) (fun c16 => ?_)
 ·
  refine W.sr<|zz X X<|Y<|zB<|zd<|zc zfp ?_
  refine ⟨h9, _, rfl, st11.done, ?_⟩
  refine zar ?_
  all_goals simp_all [cmpT, sLt]
 refine zC<|O<|zj<|W.sr<|zbX X X<|zbX X X<|zq X X (r_sgtr X X)<|Y ?_
 refine zad rfl (fun c17 => ?_) (fun c17 => ?_)
 ·
  refine W.sr<|zz X X<|Y<|zB<|zd<|zc zfp ?_
  refine ⟨h9, _, rfl, st11.done, ?_⟩
  refine zar ?_
  all_goals simp_all [cmpT, sLt]
 refine zC<|O<|W.sr<|zz X X<|Y<|zB<|zc zfp ?_
 refine ⟨h9, _, rfl, st11.done, ?_⟩
 refine zar ?_
 all_goals simp_all [cmpT, sLt]
theorem c_cmp_Or_int {h : Heap} {w : World} (hs : Sub h w) {l_v : Value} {l : (List Int)} (l_f : Sl LInt h l_v l) : Calls Tryz.prog 65 #[l_v] w (Rets h w (fun _ _ res_ => res_ = .int .i64 ((orL l)))) := by
 refine zS (n := 18) Tryz.func65 X X X<|have st0:=t_s0 hs;have l_f_b:=l_f.le;W.sr<|zz X X<|Y<|W.sr<|zz X X<|Y<|zj<|W.sr<|zaa (v := l_v) X X<|zaJ l_f X zp X<|zk X X<|Y<|zF ?_
 refine zat ([2, 5] ++ t_rg 8 9) (G := Nat × Heap) (fun ⟨k, h1⟩ => [(8, .int .i64 (k : Int))]) (fun ⟨k, h1⟩ w' => Le h h1 ∧ St h w h1 w' [] ∧ (k ≤ l.length) ∧ (orL l = orL (l.drop k))) (fun ⟨k, h1⟩ => l.length - k) ⟨0, h⟩ ⟨rfl, trivial⟩ ⟨Le.refl _, st0, zaM, (by rfl)⟩ ?_
 rintro ⟨k, h1⟩ _ w4 ⟨le2, st3, hk, he⟩
 refine W.sr<|zaV X X X<|Y<|zj ?_
 refine zH rfl (fun c5 => ?_) (fun c5 => ?_)
 ·
  refine zC<|O<|zj<|zF<|W.sr ?_
  obtain ⟨a, ha⟩ : ∃ y_, (l)[k]? = some y_ := t_ge (by omega)
  obtain ⟨b6, o7, _, he9, hc8, hr_a⟩ := Sl.elem (l_f.up le2) ha
  obtain rfl := hr_a
  refine zV he9 X X (hk := X) (hu := zp) (hz := zr) X<|E (j := 0) st3.sub hc8 X X X zN X<|zz X X<|Y<|W.sr<|zk X X<|zk X X<|zcF X X X<|Y ?_
  refine zH rfl (fun c10 => ?_) (fun c10 => ?_)
  ·
   refine W.sr<|zk X X<|zz X X<|Y<|zB<|zI<|zd<|zd<|zI<|zd<|zc Tryz.results65 ?_
   refine ⟨h1, _, rfl, st3.done, ?_⟩
   refine zar ?_
   rw [he, orL_drop ha, if_pos (by simpa using c10)]
  refine zC<|zP<|O<|zo<|zaP X X t_om X<|zk X X<|Y ?_
  refine ⟨⟨k + 1, h1⟩, ⟨rfl, trivial⟩, ?_, ⟨le2, st3, ?_, ?_⟩, ?_⟩
  ·exact zav
  ·first | omega | (simp; omega)
  ·rw [he, orL_drop ha, if_neg (by simpa using c10)]
  show l.length - ((k + 1)) < l.length - k
  omega
 refine zaC<|zh<|zh<|zah<|O<|W.sr<|zk X X<|zz X X<|Y<|zB<|zc Tryz.results65 ?_
 refine ⟨h1, _, rfl, st3.done, ?_⟩
 refine zar ?_
 rw [he, List.drop_eq_nil_of_le (by omega)]; rfl
theorem c_vote_places {h : Heap} {w : World} (hs : Sub h w) {a : Place} {b : Place} : Calls Tryz.prog 97 #[.agg #[.int .i64 a.chapter, .int .i64 a.line, .int .i64 a.word], .agg #[.int .i64 b.chapter, .int .i64 b.line, .int .i64 b.word]] w (Rets h w (fun _ _ res_ => res_ = .int .i64 ((orL [cmpI a.chapter b.chapter, cmpI a.line b.line, cmpI a.word b.word])))) := by
 refine zS (n := 22) Tryz.func97 X X X<|have st0:=t_s0 hs;W.sr<|zG st0 (cs := [.int .i64 (a.chapter), .int .i64 (a.line), .int .i64 (a.word)]) X X X<|fun b1 w2 h3 le4 hc5 st6=>zG st6 (cs := [.int .i64 (b.chapter), .int .i64 (b.line), .int .i64 (b.word)]) X X X<|fun b7 w8 h9 le10 hc11 st12=>zz X X<|Y<|zj<|zbh (er := ([], [], [], [], 0)) (dsts := [5, 6, 7, 8, 9, 10, 11, 12, 13, 14, 15, 16, 17, 18, 19, 20, 21, 4]) st12 Tryz.mixed<|zf 0 [] X t_kr t_kr X X (fun hD wD τD hL hS hO  => (zL X zan X zr X))<|zf 1 [0] X t_kr t_kr X X (fun hD wD τD hL hS hO _ _ => (ze (j := 0) (hL.sub hS) (hc5.up le10) X X X zN))<|zf 2 [] X t_kr t_kr X X (fun hD wD τD hL hS hO  => (zL X zan X zr X))<|zf 3 [0] X t_kr t_kr X X (fun hD wD τD hL hS hO _ _ => (ze (j := 0) (hL.sub hS) hc11 X X X zN)) ?_
 refine zax 4 (.det (.int .i64 (cmpI ((a.chapter)) ((b.chapter))))) [2, 0] rfl t_kr t_kr ?_ ?_
 ·
  intro hD wD τD hL hS hO _ _ _ _
  have st13 := St.start hS
  refine zn st13 X X X Tryz.call106 X (zeW st13.sub _ _)<|fun r14 w15 h16 le17 st18 q19=> ?_
  obtain rfl := q19
  exact zt ⟨_, _, rfl, st18, (), rfl, trivial⟩
 refine zf 5 [] X t_kr t_kr X X (fun hD wD τD hL hS hO  => (zL X zan X zr X))<|zf 6 [0] X t_kr t_kr X X (fun hD wD τD hL hS hO _ _ => (ze (j := 1) (hL.sub hS) (hc5.up le10) X X X zN))<|zf 7 [] X t_kr t_kr X X (fun hD wD τD hL hS hO  => (zL X zan X zr X))<|zf 8 [0] X t_kr t_kr X X (fun hD wD τD hL hS hO _ _ => (ze (j := 1) (hL.sub hS) hc11 X X X zN)) ?_
 refine zax 9 (.det (.int .i64 (cmpI ((a.line)) ((b.line))))) [2, 0, 4] rfl t_kr t_kr ?_ ?_
 ·
  intro hD wD τD hL hS hO _ _ _ _ _ _
  have st20 := St.start hS
  refine zn st20 X X X Tryz.call106 X (zeW st20.sub _ _)<|fun r21 w22 h23 le24 st25 q26=> ?_
  obtain rfl := q26
  exact zt ⟨_, _, rfl, st25, (), rfl, trivial⟩
 refine zf 10 [] X t_kr t_kr X X (fun hD wD τD hL hS hO  => (zL X zan X zr X))<|zf 11 [0] X t_kr t_kr X X (fun hD wD τD hL hS hO _ _ => (ze (j := 2) (hL.sub hS) (hc5.up le10) X X X zN))<|zf 12 [] X t_kr t_kr X X (fun hD wD τD hL hS hO  => (zL X zan X zr X))<|zf 13 [0] X t_kr t_kr X X (fun hD wD τD hL hS hO _ _ => (ze (j := 2) (hL.sub hS) hc11 X X X zN)) ?_
 refine zax 14 (.det (.int .i64 (cmpI ((a.word)) ((b.word))))) [2, 0, 4] rfl t_kr t_kr ?_ ?_
 ·
  intro hD wD τD hL hS hO _ _ _ _ _ _
  have st27 := St.start hS
  refine zn st27 X X X Tryz.call106 X (zeW st27.sub _ _)<|fun r28 w29 h30 le31 st32 q33=> ?_
  obtain rfl := q33
  exact zt ⟨_, _, rfl, st32, (), rfl, trivial⟩
 refine zax 15 (.res (fun h' res_ => Sl LInt h' res_ ([(cmpI ((a.chapter)) ((b.chapter))), (cmpI ((a.line)) ((b.line))), (cmpI ((a.word)) ((b.word)))])) (fun _ _ _ hl f => f.up hl)) [10, 5, 0] rfl t_kr t_kr ?_ ?_
 ·
  intro hD wD τD hL hS hO _ _ _ _ _ _
  have st34 := St.start hS
  refine zaL (L := LInt) (xs := [(cmpI ((a.chapter)) ((b.chapter))), (cmpI ((a.line)) ((b.line))), (cmpI ((a.word)) ((b.word)))]) (cs := [.int .i64 (cmpI ((a.chapter)) ((b.chapter))), .int .i64 (cmpI ((a.line)) ((b.line))), .int .i64 (cmpI ((a.word)) ((b.word)))]) st34 (Enc.cons (L := LInt) (vs := [.int .i64 (cmpI ((a.chapter)) ((b.chapter)))]) (x := (cmpI ((a.chapter)) ((b.chapter)))) (h := hD) (X) (Enc.cons (L := LInt) (vs := [.int .i64 (cmpI ((a.line)) ((b.line)))]) (x := (cmpI ((a.line)) ((b.line)))) (h := hD) (X) (Enc.cons (L := LInt) (vs := [.int .i64 (cmpI ((a.word)) ((b.word)))]) (x := (cmpI ((a.word)) ((b.word)))) (h := hD) (X) Enc.nil))) X X X zp Tryz.info3 X X X t_kr<|fun v35 w36 h39 le40 f37 st38=> ?_
  exact zt ⟨_, _, rfl, st38, _, rfl, f37⟩
 refine zax 16 (.det (.int .i64 ((orL (([(cmpI ((a.chapter)) ((b.chapter))), (cmpI ((a.line)) ((b.line))), (cmpI ((a.word)) ((b.word)))])))))) [0, 1] rfl t_kr t_kr ?_ ?_
 ·
  intro hD wD τD hL hS hO gv15_0 gf15_0 _ _
  have st41 := St.start hS
  refine zn st41 X X X Tryz.call65 X (c_cmp_Or_int st41.sub gf15_0)<|fun r42 w43 h44 le45 st46 q47=> ?_
  obtain rfl := q47
  exact zt ⟨_, _, rfl, st46, (), rfl, trivial⟩
 refine zf 17 [16, 15, 14, 13, 12, 11, 10, 9, 8, 7, 6, 5, 4, 3, 2, 1, 0] X t_kr t_kr X X (fun hD wD τD hL hS hO _ _ _ _ _ _ _ _ _ _ _ _ _ _ _ _ _ _ _ _ _ _ _ _ _ _ _ _ _ _ gv15_0 gf15_0 _ _ => (r_asI X))<|zbN X X X X X X ⟨t_kr, X, t_kr, X, t_kr, X, X, t_kr, zcl⟩<|fun hE48 w49 _ le50 st51 _ _ _ _ _ _ _ _ _ _ _ _ _ _ _ _ _ _ _ _ _ _ _ _ _ _ _ _ _ _ gv15_0x52 gf15_0x52 _ _ _ _=>AllDeps.fin X<|O<|zB<|zc Tryz.results97 ?_
 refine ⟨hE48, _, rfl, st51.done, ?_⟩
 refine zar ?_
 rfl
theorem c_vote_heads {h : Heap} {w : World} (hs : Sub h w) {a : Head} (a_l1 : a.stem.length ≤ 281474976710656) (a_l2 : 0 ≤ a.mark ∧ a.mark ≤ 255) {b : Head} (b_l1 : b.stem.length ≤ 281474976710656) (b_l2 : 0 ≤ b.mark ∧ b.mark ≤ 255) : Calls Tryz.prog 99 #[.agg #[strV a.stem, .int .u8 a.mark], .agg #[strV b.stem, .int .u8 b.mark]] w (Rets h w (fun _ _ res_ => res_ = .int .i64 ((orL [cmpT a.stem b.stem, cmpI a.mark b.mark])))) := by
 refine zS (n := 17) Tryz.func99 X X X<|have st0:=t_s0 hs;W.sr<|zG st0 (cs := [strV (a.stem), .int .u8 (a.mark)]) X X X<|fun b1 w2 h3 le4 hc5 st6=>zG st6 (cs := [strV (b.stem), .int .u8 (b.mark)]) X X X<|fun b7 w8 h9 le10 hc11 st12=>zz X X<|Y<|zj<|zbh (er := ([], [], [], [], 0)) (dsts := [5, 6, 7, 8, 9, 10, 11, 12, 13, 14, 15, 16, 4]) st12 Tryz.mixed<|zf 0 [] X t_kr t_kr X X (fun hD wD τD hL hS hO  => (zL X zbw X zW X))<|zf 1 [0] X t_kr t_kr X X (fun hD wD τD hL hS hO _ _ => (ze (j := 0) (hL.sub hS) (hc5.up le10) X X X zaw))<|zf 2 [] X t_kr t_kr X X (fun hD wD τD hL hS hO  => (zL X zbw X zW X))<|zf 3 [0] X t_kr t_kr X X (fun hD wD τD hL hS hO _ _ => (ze (j := 0) (hL.sub hS) hc11 X X X zaw)) ?_
 refine zax 4 (.det (.int .i64 (cmpT ((a.stem)) ((b.stem))))) [2, 0] rfl t_kr t_kr ?_ ?_
 ·
  intro hD wD τD hL hS hO _ _ _ _
  have st13 := St.start hS
  refine zn st13 X X X Tryz.call141 X (c_cmp_Compare_string st13.sub _ zba _ zba)<|fun r14 w15 h16 le17 st18 q19=> ?_
  obtain rfl := q19
  exact zt ⟨_, _, rfl, st18, (), rfl, trivial⟩
 refine zf 5 [] X t_kr t_kr X X (fun hD wD τD hL hS hO  => (zL X zbw X zbn X))<|zf 6 [0] X t_kr t_kr X X (fun hD wD τD hL hS hO _ _ => (ze (j := 1) (hL.sub hS) (hc5.up le10) X X X zbG))<|zf 7 [] X t_kr t_kr X X (fun hD wD τD hL hS hO  => (zL X zbw X zbn X))<|zf 8 [0] X t_kr t_kr X X (fun hD wD τD hL hS hO _ _ => (ze (j := 1) (hL.sub hS) hc11 X X X zbG)) ?_
 refine zax 9 (.det (.int .i64 (cmpI ((a.mark)) ((b.mark))))) [2, 0, 4] rfl t_kr t_kr ?_ ?_
 ·
  intro hD wD τD hL hS hO _ _ _ _ _ _
  have st20 := St.start hS
  refine zn st20 rfl rfl rfl Tryz.call142 rfl (c_cmp_Compare_uint8 st20.sub _ (by omega) _ (by omega)) ?_
  intro r21 w22 h23 le24 st25 q26
  obtain rfl := q26
  exact zt ⟨_, _, rfl, st25, (), rfl, trivial⟩
 refine zax 10 (.res (fun h' res_ => Sl LInt h' res_ ([(cmpT ((a.stem)) ((b.stem))), (cmpI ((a.mark)) ((b.mark)))])) (fun _ _ _ hl f => f.up hl)) [5, 0] rfl t_kr t_kr ?_ ?_
 ·
  intro hD wD τD hL hS hO _ _ _ _
  have st27 := St.start hS
  refine zaL (L := LInt) (xs := [(cmpT ((a.stem)) ((b.stem))), (cmpI ((a.mark)) ((b.mark)))]) (cs := [.int .i64 (cmpT ((a.stem)) ((b.stem))), .int .i64 (cmpI ((a.mark)) ((b.mark)))]) st27 (Enc.cons (L := LInt) (vs := [.int .i64 (cmpT ((a.stem)) ((b.stem)))]) (x := (cmpT ((a.stem)) ((b.stem)))) (h := hD) (X) (Enc.cons (L := LInt) (vs := [.int .i64 (cmpI ((a.mark)) ((b.mark)))]) (x := (cmpI ((a.mark)) ((b.mark)))) (h := hD) (X) Enc.nil)) X X X zp Tryz.info3 X X X t_kr<|fun v28 w29 h32 le33 f30 st31=> ?_
  exact zt ⟨_, _, rfl, st31, _, rfl, f30⟩
 refine zax 11 (.det (.int .i64 ((orL (([(cmpT ((a.stem)) ((b.stem))), (cmpI ((a.mark)) ((b.mark)))])))))) [0, 1] rfl t_kr t_kr ?_ ?_
 ·
  intro hD wD τD hL hS hO gv10_0 gf10_0 _ _
  have st34 := St.start hS
  refine zn st34 X X X Tryz.call65 X (c_cmp_Or_int st34.sub gf10_0)<|fun r35 w36 h37 le38 st39 q40=> ?_
  obtain rfl := q40
  exact zt ⟨_, _, rfl, st39, (), rfl, trivial⟩
 refine zf 12 [11, 10, 9, 8, 7, 6, 5, 4, 3, 2, 1, 0] X t_kr t_kr X X (fun hD wD τD hL hS hO _ _ _ _ _ _ _ _ _ _ _ _ _ _ _ _ _ _ _ _ gv10_0 gf10_0 _ _ => (r_asI X))<|zbN X X X X X X ⟨t_kr, X, t_kr, X, t_kr, X, X, t_kr, zcl⟩<|fun hE41 w42 _ le43 st44 _ _ _ _ _ _ _ _ _ _ _ _ _ _ _ _ _ _ _ _ gv10_0x45 gf10_0x45 _ _ _ _=>AllDeps.fin X<|O<|zB<|zc Tryz.results99 ?_
 refine ⟨hE41, _, rfl, st44.done, ?_⟩
 refine zar ?_
 rfl
theorem c_vote_head_1 {h : Heap} {w : World} (hs : Sub h w) (b : Int) (b_l : 0 ≤ b ∧ b ≤ 255) : Calls Tryz.prog 140 #[.int .u8 b] w (Rets h w (fun _ _ res_ => res_ = .bool ((decide (b < 97) || decide (122 < b))))) := by
 refine zS (n := 9) Tryz.func140 X X X<|have st0:=t_s0 hs;W.sr<|zJ X X<|Y<|W.sr<|zk X X<|zaV X X X<|zai X X ?_
 refine zaB (d := 5) rfl (fun g1 => ?_) (fun g1 => ?_)
 ·
  refine Z X X X X X<|Z X X X X X<|zaf (v := (.bool _)) X X X<|zJ X X<|Y<|zB<|zc Tryz.results140 ?_
  refine ⟨h, _, rfl, st0.done, ?_⟩
  refine zw ?_
  first | (simp_all; done) | (simp_all; omega)
 refine M X X X<|zk X X<|M X X X<|zdr X X X<|zX (v := (.bool _)) X X X<|zJ X X<|Y<|zB<|zc Tryz.results140 ?_
 refine ⟨h, _, rfl, st0.done, ?_⟩
 refine zw ?_
 first | (simp_all; done) | (simp_all; omega)
theorem c_vote_head {h : Heap} {w : World} (hs : Sub h w) {hd : Head} (hd_l1 : hd.stem.length ≤ 281474976710656) (hd_l2 : 0 ≤ hd.mark ∧ hd.mark ≤ 255) : Calls Tryz.prog 98 #[.agg #[strV hd.stem, .int .u8 hd.mark]] w (Rets h w (fun _ _ res_ => res_ = .bool (zdV hd))) := by
 refine zS (n := 22) Tryz.func98 X X X<|have st0:=t_s0 hs;W.sr<|zG st0 (cs := [strV (hd.stem), .int .u8 (hd.mark)]) X X X<|fun b1 w2 h3 le4 hc5 st6=>zJ X X<|Y<|W.sr<|U X zbw X zW X X<|E (j := 0) st6.sub hc5 X X X zaw X<|zco X zaz X<|zaL (L := LInt) (xs := [((hd.stem).length : Int)]) (cs := [.int .i64 ((hd.stem).length : Int)]) st6 (Enc.cons (L := LInt) (vs := [.int .i64 ((hd.stem).length : Int)]) (x := ((hd.stem).length : Int)) (h := h3) (X) Enc.nil) X X X zp Tryz.info3 X X X t_kr<|fun v7 w8 h11 le12 f9 st10=>zn st10 X X X zgY X (zfY st10.sub _ _ f9)<|fun r13 w14 h15 le16 st17 q18=> ?_
 obtain rfl := q18
 refine zai X X ?_
 refine zaY (d := 8) rfl (fun g19 => ?_) (fun g19 => ?_)
 ·
  refine M X X X<|U X zbw X zbn X X<|M X X X<|E (j := 1) st17.sub (hc5.up (le12.trans le16)) X X X zbG X<|M X X X ?_
  refine zq rfl rfl (zhv rfl rfl zcE (IntWalk.i64_in _ (by omega))) ?_
  refine M X X X<|zaL (L := LInt) (xs := [(hd.mark)]) (cs := [.int .i64 (hd.mark)]) st17 (Enc.cons (L := LInt) (vs := [.int .i64 (hd.mark)]) (x := (hd.mark)) (h := h15) (X) Enc.nil) X X X zp Tryz.info3 X X X t_kr<|fun v20 w21 h24 le25 f22 st23=>M X X X<|zn st23 X X X zgY X (zfY st23.sub _ _ f22)<|fun r26 w27 h28 le29 st30 q31=> ?_
  obtain rfl := q31
  refine zaf (v := (.bool _)) X X X<|zai X X ?_
  refine zaY (d := 15) rfl (fun g32 => ?_) (fun g32 => ?_)
  ·
   refine M X X X<|U X zbw X zW X X<|M X X X<|have l33:=((le12.trans le16).trans le25).trans le29;E (j := 0) st30.sub (hc5.up l33) X X X zaw X<|M X X X ?_
   refine OpsL.strBytes st30 (s := (hd.stem)) rfl (by first | assumption | omega | (simp; omega)) rfl zaz Tryz.underlying215 Tryz.underlying5 zbn ?_
   intro v34 w35 h36 le37 f38 st39
   refine M X X X ?_
   refine zn st39 rfl rfl rfl Tryz.call139 rfl (zek st39.sub f38 (fun x_ => (decide ((x_) < 97) || decide (122 < (x_)))) Tryz.call140 (fun x_ h_ w_ vs_ le_ hs_ hx_ hr_ u_ hu_ => by cases hu_; obtain ⟨hr1_, hr2_⟩ := hr_; cases hr1_; exact c_vote_head_1 hs_ _ hr2_)) ?_
   intro r40 w41 h42 le43 st44 q45
   obtain rfl := q45
   refine M X X X<|zbQ X X<|zaf (v := (.bool _)) X X X<|zJ X X<|Y<|zB<|zc Tryz.results98 ?_
   refine ⟨h42, _, rfl, st44.done, ?_⟩
   refine zw ?_
   simp_all [zdV, wordB_eq, inAll_one]
  refine Z X X X X X<|Z X X X X X<|Z X X X X X<|Z X X X X X<|Z X X X X X<|zX (v := (.bool _)) X X X<|zJ X X<|Y<|zB<|zc Tryz.results98 ?_
  refine ⟨h28, _, rfl, st30.done, ?_⟩
  refine zw ?_
  simp_all [zdV, wordB_eq, inAll_one]
 refine Z X X X X X<|Z X X X X X<|Z X X X X X<|Z X X X X X<|Z X X X X X<|zX (v := (.bool _)) X X X<|zai X X<|Z X X X X X<|Z X X X X X<|Z X X X X X<|Z X X X X X<|Z X X X X X<|zX (v := (.bool _)) X X X<|zJ X X<|Y<|zB<|zc Tryz.results98 ?_
 refine ⟨h15, _, rfl, st17.done, ?_⟩
 refine zw ?_
 simp_all [zdV, wordB_eq, inAll_one]
theorem c_vote_asked_1 {h : Heap} {w : World} (hs : Sub h w) {p : Poll} {p_v0 : Value} (p_f0 : Sl LChapter h p_v0 p.text.chapters) {p_v1 : Value} (p_f1 : Sl LRule h p_v1 p.lexicon.rules) {p_v2 : Value} (p_f2 : Sl LDecision h p_v2 p.lexicon.decisions) {p_v3 : Value} (p_f3 : Sl LQuestion h p_v3 p.questions) {p_v4 : Value} (p_f4 : Sl LVoter h p_v4 p.voters) (i : Int) (hi : 0 ≤ i ∧ i < (p.voters.length : Int)) : Calls Tryz.prog 261 #[.agg #[p_v0, p_v1, p_v2, p_v3, p_v4], .int .i64 i] w (Rets h w (fun _ _ res_ => res_ = .bool ((match p.voters[i.toNat]? with | some v => inB v.id 0 9999 | none => true)))) := by
 refine zS (n := 13) Tryz.func261 X X X ?_
 have st0 := t_s0 hs
 have p_f0_b := p_f0.le
 have p_f1_b := p_f1.le
 have p_f2_b := p_f2.le
 have p_f3_b := p_f3.le
 have p_f4_b := p_f4.le
 obtain ⟨v, hv⟩ : ∃ v, p.voters[i.toNat]? = some v := ⟨_, List.getElem?_eq_getElem (by omega)⟩
 refine W.sr<|zG st0 (cs := [p_v0, p_v1, p_v2, p_v3, p_v4]) X X X<|fun b1 w2 h3 le4 hc5 st6=>zJ X X<|Y<|W.sr<|U X zx X zbp X X<|E (j := 4) st6.sub hc5 X X X zbI X<|zk X X ?_
 obtain ⟨b7, o8, _, he10, hc9, hr_v⟩ := Sl.elem (p_f4.up le4) hv
 obtain ⟨v11, rfl, f12⟩ := hr_v
 have f12_b := f12.le
 refine zq rfl rfl (zao he10 rfl rfl (hk := (show _ = ((i.toNat : Nat) : Int) by omega)) (hu := zaA) (hz := zbA)) ?_
 refine U X zaU X zr X X<|E (j := 0) st6.sub hc9 X X X zN X<|zaL (L := LInt) (xs := [(v.id)]) (cs := [.int .i64 (v.id)]) st6 (Enc.cons (L := LInt) (vs := [.int .i64 (v.id)]) (x := (v.id)) (h := h3) (X) Enc.nil) X X X zp Tryz.info3 X X X t_kr<|fun v13 w14 h17 le18 f15 st16=>zn st16 X X X zgY X (zfY st16.sub _ _ f15)<|fun r19 w20 h21 le22 st23 q24=> ?_
 obtain rfl := q24
 refine zJ X X<|Y<|zB<|zc Tryz.results261 ?_
 refine ⟨h21, _, rfl, st23.done, ?_⟩
 refine zw ?_
 simp [hv, inAll_one]
theorem c_vote_asked_2 {h : Heap} {w : World} (hs : Sub h w) {p : Poll} {p_v0 : Value} (p_f0 : Sl LChapter h p_v0 p.text.chapters) {p_v1 : Value} (p_f1 : Sl LRule h p_v1 p.lexicon.rules) {p_v2 : Value} (p_f2 : Sl LDecision h p_v2 p.lexicon.decisions) {p_v3 : Value} (p_f3 : Sl LQuestion h p_v3 p.questions) {p_v4 : Value} (p_f4 : Sl LVoter h p_v4 p.voters) (i : Int) (hi : 0 ≤ i ∧ i < (p.voters.length : Int)) : Calls Tryz.prog 262 #[.agg #[p_v0, p_v1, p_v2, p_v3, p_v4], .int .i64 i] w (Rets h w (fun _ _ res_ => res_ = .bool ((match p.voters[i.toNat]? with | some v => inB v.wrong 0 6 | none => true)))) := by
 refine zS (n := 13) Tryz.func262 X X X ?_
 have st0 := t_s0 hs
 have p_f0_b := p_f0.le
 have p_f1_b := p_f1.le
 have p_f2_b := p_f2.le
 have p_f3_b := p_f3.le
 have p_f4_b := p_f4.le
 obtain ⟨v, hv⟩ : ∃ v, p.voters[i.toNat]? = some v := ⟨_, List.getElem?_eq_getElem (by omega)⟩
 refine W.sr<|zG st0 (cs := [p_v0, p_v1, p_v2, p_v3, p_v4]) X X X<|fun b1 w2 h3 le4 hc5 st6=>zJ X X<|Y<|W.sr<|U X zx X zbp X X<|E (j := 4) st6.sub hc5 X X X zbI X<|zk X X ?_
 obtain ⟨b7, o8, _, he10, hc9, hr_v⟩ := Sl.elem (p_f4.up le4) hv
 obtain ⟨v11, rfl, f12⟩ := hr_v
 have f12_b := f12.le
 refine zq rfl rfl (zao he10 rfl rfl (hk := (show _ = ((i.toNat : Nat) : Int) by omega)) (hu := zaA) (hz := zbA)) ?_
 refine U X zaU X zr X X<|E (j := 1) st6.sub hc9 X X X zN X<|zaL (L := LInt) (xs := [(v.wrong)]) (cs := [.int .i64 (v.wrong)]) st6 (Enc.cons (L := LInt) (vs := [.int .i64 (v.wrong)]) (x := (v.wrong)) (h := h3) (X) Enc.nil) X X X zp Tryz.info3 X X X t_kr<|fun v13 w14 h17 le18 f15 st16=>zn st16 X X X zgY X (zfY st16.sub _ _ f15)<|fun r19 w20 h21 le22 st23 q24=> ?_
 obtain rfl := q24
 refine zJ X X<|Y<|zB<|zc Tryz.results262 ?_
 refine ⟨h21, _, rfl, st23.done, ?_⟩
 refine zw ?_
 simp [hv, inAll_one]
theorem c_vote_asked_3 {h : Heap} {w : World} (hs : Sub h w) {p : Poll} {p_v0 : Value} (p_f0 : Sl LChapter h p_v0 p.text.chapters) {p_v1 : Value} (p_f1 : Sl LRule h p_v1 p.lexicon.rules) {p_v2 : Value} (p_f2 : Sl LDecision h p_v2 p.lexicon.decisions) {p_v3 : Value} (p_f3 : Sl LQuestion h p_v3 p.questions) {p_v4 : Value} (p_f4 : Sl LVoter h p_v4 p.voters) (i : Int) (hi : 0 ≤ i ∧ i < (p.voters.length : Int)) : Calls Tryz.prog 263 #[.agg #[p_v0, p_v1, p_v2, p_v3, p_v4], .int .i64 i] w (Rets h w (fun _ _ res_ => res_ = .bool ((match p.voters[i.toNat]? with | some v => decide (v.votes.length = p.questions.length) | none => true)))) := by
 refine zS (n := 16) Tryz.func263 X X X ?_
 have st0 := t_s0 hs
 have p_f0_b := p_f0.le
 have p_f1_b := p_f1.le
 have p_f2_b := p_f2.le
 have p_f3_b := p_f3.le
 have p_f4_b := p_f4.le
 obtain ⟨v, hv⟩ : ∃ v, p.voters[i.toNat]? = some v := ⟨_, List.getElem?_eq_getElem (by omega)⟩
 refine W.sr<|zG st0 (cs := [p_v0, p_v1, p_v2, p_v3, p_v4]) X X X<|fun b1 w2 h3 le4 hc5 st6=>zJ X X<|Y<|zj<|zbj Tryz.mixed t_kr (Cls h3 _) (Cls.drew st6)<|zD X zx X zbp X X<|zl X X (fun _ hC => (ze (j := 4) hC.sub hc5 X X X zbI))<|zbJ X X ?_
 obtain ⟨b7, o8, _, he10, hc9, hr_v⟩ := Sl.elem (p_f4.up le4) hv
 obtain ⟨v11, rfl, f12⟩ := hr_v
 have f12_b := f12.le
 refine zl rfl rfl (fun _ _ => (zao he10 rfl rfl (hk := (show _ = ((i.toNat : Nat) : Int) by omega)) (hu := zaA) (hz := zbA))) ?_
 refine zD X zaU X zcy X X<|zl X X (fun _ hC => (ze (j := 2) hC.sub hc9 X X X zcU))<|u_len f12 X zp X<|zD X zx X zbd X X<|zl X X (fun _ hC => (ze (j := 3) hC.sub hc5 X X X zbv))<|u_len (p_f3.up le4) X zau X<|u_eql X X X<|u_asB X X<|zaN ?_
 rintro w13 ⟨h14, s15⟩
 have st16 := st6.call0 s15
 refine O<|zB<|zc Tryz.results263 ?_
 refine ⟨h14, _, rfl, st16.done, ?_⟩
 refine zw ?_
 simp only [hv]; rw [Bool.eq_iff_iff]; simp only [decide_eq_true_eq]; omega
theorem c_vote_asked_4 {h : Heap} {w : World} (hs : Sub h w) {p : Poll} {p_v0 : Value} (p_f0 : Sl LChapter h p_v0 p.text.chapters) {p_v1 : Value} (p_f1 : Sl LRule h p_v1 p.lexicon.rules) {p_v2 : Value} (p_f2 : Sl LDecision h p_v2 p.lexicon.decisions) {p_v3 : Value} (p_f3 : Sl LQuestion h p_v3 p.questions) {p_v4 : Value} (p_f4 : Sl LVoter h p_v4 p.voters) (i : Int) (hi : 0 ≤ i ∧ i < (p.voters.length : Int)) (hvl : ∀ v ∈ p.voters, v.votes.length = p.questions.length ∨ p.voters[i.toNat]? ≠ some v) : Calls Tryz.prog 264 #[.agg #[p_v0, p_v1, p_v2, p_v3, p_v4], .int .i64 i] w (Rets h w (fun _ _ res_ => res_ = .bool ((match p.voters[i.toNat]? with | some v => votesOk p v | none => true)))) := by
 refine zS (n := 32) Tryz.func264 X X X ?_
 have st0 := t_s0 hs
 have p_f0_b := p_f0.le
 have p_f1_b := p_f1.le
 have p_f2_b := p_f2.le
 have p_f3_b := p_f3.le
 have p_f4_b := p_f4.le
 obtain ⟨v, hv⟩ : ∃ v, p.voters[i.toNat]? = some v := ⟨_, List.getElem?_eq_getElem (by omega)⟩
 have hvq : v.votes.length = p.questions.length := by rcases hvl v (List.mem_of_getElem? hv) with q_ | q_; exact q_; exact absurd hv q_
 refine W.sr<|zG st0 (cs := [p_v0, p_v1, p_v2, p_v3, p_v4]) X X X<|fun b1 w2 h3 le4 hc5 st6=>zJ X X<|Y<|zj<|W.sr<|U X zx X zbp X X<|E (j := 4) st6.sub hc5 X X X zbI X<|zk X X ?_
 obtain ⟨b7, o8, _, he10, hc9, hr_v⟩ := Sl.elem (p_f4.up le4) hv
 obtain ⟨v11, rfl, f12⟩ := hr_v
 have f12_b := f12.le
 refine zq rfl rfl (zao he10 rfl rfl (hk := (show _ = ((i.toNat : Nat) : Int) by omega)) (hu := zaA) (hz := zbA)) ?_
 refine U X zaU X zcy X X<|E (j := 2) st6.sub hc9 X X X zcU X<|zaJ f12 X zp X<|zk X X<|Y<|zF ?_
 refine zat ([4, 5, 6] ++ t_rg 14 18) (G := Nat × Heap) (fun ⟨k, h13⟩ => [(14, .int .i64 (k : Int))]) (fun ⟨k, h13⟩ w' => Le h3 h13 ∧ St h w h13 w' [] ∧ (k ≤ v.votes.length) ∧ (∀ j, j < k → zgL p v j = true)) (fun ⟨k, h13⟩ => v.votes.length - k) ⟨0, h3⟩ ⟨rfl, trivial⟩ ⟨Le.refl _, st6, zaM, zaM⟩ ?_
 rintro ⟨k, h13⟩ _ w16 ⟨le14, st15, hk, hN⟩
 refine W.sr<|zaV X X X<|Y<|zj ?_
 refine zH rfl (fun c17 => ?_) (fun c17 => ?_)
 ·
  refine zC<|O<|zj<|zF<|W.sr<|zk X X ?_
  obtain ⟨n, hn⟩ : ∃ y_, (v.votes)[k]? = some y_ := t_ge (by omega)
  obtain ⟨b18, o19, _, he21, hc20, hr_n⟩ := Sl.elem (f12.up le14) hn
  obtain rfl := hr_n
  refine zV he21 X X (hk := X) (hu := zp) (hz := zr) X<|E (j := 0) st15.sub hc20 X X X zN X<|zz X X<|zz X X<|Y<|W.sr<|U X zx X zbd X X<|E (j := 3) st15.sub (hc5.up le14) X X X zbv X<|zk X X ?_
  obtain ⟨q, hq⟩ : ∃ y_, (p.questions)[k]? = some y_ := t_ge (by omega)
  have l26 := le4.trans le14
  obtain ⟨b22, o23, _, he25, hc24, hr_q⟩ := Sl.elem (p_f3.up l26) hq
  obtain ⟨v27, rfl, f28⟩ := hr_q
  have f28_b := f28.le
  refine zV he25 X X (hk := X) (hu := zau) (hz := zbz) X<|U X zam X zbO X X<|E (j := 3) st15.sub hc24 X X X zca X<|zaJ f28 X zaE X<|zfu X X t_om X<|zk X X<|zaL (L := LInt) (xs := [n]) (cs := [.int .i64 n]) st15 (Enc.cons (L := LInt) (vs := [.int .i64 n]) (x := n) (h := h13) (X) Enc.nil) X X X zp Tryz.info3 X X X t_kr<|fun v29 w30 h33 le34 f31 st32=>zn st32 X X X zgY X (zfY st32.sub _ _ f31)<|fun r35 w36 h37 le38 st39 q40=> ?_
  obtain rfl := q40
  refine zbQ X X<|Y ?_
  refine zad rfl (fun c41 => ?_) (fun c41 => ?_)
  ·
   refine W.sr<|zJ X X<|Y<|zB<|zI<|zd<|zd<|zI<|zd<|zc Tryz.results264 ?_
   refine ⟨h37, _, rfl, st39.done, ?_⟩
   refine zw ?_
   simp only [hv]
   exact (votesOk_no (k := k) (by simp only [zgL, hn, hq]; simpa [inAll_one] using c41)).symm
  refine zC<|zP<|O<|zo<|zaP X X t_om X<|zk X X<|Y ?_
  refine ⟨⟨k + 1, h37⟩, ⟨rfl, trivial⟩, ?_, ⟨((le14.trans le34).trans le38), st39, ?_, ?_⟩, ?_⟩
  ·exact zav
  ·first | omega | (simp; omega)
  ·exact zdf hN (by simp only [zgL, hn, hq]; simpa [inAll_one] using c41)
  show v.votes.length - ((k + 1)) < v.votes.length - k
  omega
 refine zaC<|zh<|zh<|zah<|O<|W.sr<|zJ X X<|Y<|zB<|zc Tryz.results264 ?_
 refine ⟨h13, _, rfl, st15.done, ?_⟩
 refine zw ?_
 simp only [hv]
 exact (zhk hN (by omega)).symm
theorem c_vote_asked_5_1 {h : Heap} {w : World} (hs : Sub h w) {u : Voter} {u_v0 : Value} (u_f0 : Sl LInt h u_v0 u.votes) {p_b : Nat} {p : Poll} {p_v0 : Value} (p_f0 : Sl LChapter h p_v0 p.text.chapters) {p_v1 : Value} (p_f1 : Sl LRule h p_v1 p.lexicon.rules) {p_v2 : Value} (p_f2 : Sl LDecision h p_v2 p.lexicon.decisions) {p_v3 : Value} (p_f3 : Sl LQuestion h p_v3 p.questions) {p_v4 : Value} (p_f4 : Sl LVoter h p_v4 p.voters) (p_c : Cells h p_b 0 [p_v0, p_v1, p_v2, p_v3, p_v4]) {i_b : Nat} {i : Int} (i_c : Cells h i_b 0 [.int .i64 i]) (hi : 0 ≤ i ∧ i < (p.voters.length : Int)) : Calls Tryz.prog 267 #[.agg #[.int .i64 u.id, .int .i64 u.wrong, u_v0], .pointer (some ⟨p_b, 0, none⟩), .pointer (some ⟨i_b, 0, none⟩)] w (Rets h w (fun _ _ res_ => res_ = .bool ((match p.voters[i.toNat]? with | some v => decide (u.id = v.id) | none => false)))) := by
 refine zS (n := 14) Tryz.func267 X X X ?_
 have st0 := t_s0 hs
 have u_f0_b := u_f0.le
 have p_f0_b := p_f0.le
 have p_f1_b := p_f1.le
 have p_f2_b := p_f2.le
 have p_f3_b := p_f3.le
 have p_f4_b := p_f4.le
 obtain ⟨v, hv⟩ : ∃ v, p.voters[i.toNat]? = some v := ⟨_, List.getElem?_eq_getElem (by omega)⟩
 refine W.sr<|zG st0 (cs := [.int .i64 (u.id), .int .i64 (u.wrong), u_v0]) X X X<|fun b1 w2 h3 le4 hc5 st6=>zJ X X<|Y<|zj<|zbj Tryz.mixed t_kr (Cls h3 _) (Cls.drew st6)<|zD X zaU X zr X X<|zl X X (fun _ hC => (ze (j := 0) hC.sub hc5 X X X zN))<|zD X zx X zbp X X<|zl X X (fun _ hC => (ze (j := 4) hC.sub (p_c.up le4) X X X zbI))<|zl X X (fun _ hC => (ze (j := 0) hC.sub (i_c.up le4) X X X zN)) ?_
 obtain ⟨b7, o8, _, he10, hc9, hr_v⟩ := Sl.elem (p_f4.up le4) hv
 obtain ⟨v11, rfl, f12⟩ := hr_v
 have f12_b := f12.le
 refine zl rfl rfl (fun _ _ => (zao he10 rfl rfl (hk := (show _ = ((i.toNat : Nat) : Int) by omega)) (hu := zaA) (hz := zbA))) ?_
 refine zD X zaU X zr X X<|zl X X (fun _ hC => (ze (j := 0) hC.sub hc9 X X X zN))<|u_eql X X X<|u_asB X X<|zaN ?_
 rintro w13 ⟨h14, s15⟩
 have st16 := st6.call0 s15
 refine O<|zB<|zc Tryz.results267 ?_
 refine ⟨h14, _, rfl, st16.done, ?_⟩
 refine zw ?_
 simp only [hv]
theorem c_vote_asked_5 {h : Heap} {w : World} (hs : Sub h w) {p : Poll} {p_v0 : Value} (p_f0 : Sl LChapter h p_v0 p.text.chapters) {p_v1 : Value} (p_f1 : Sl LRule h p_v1 p.lexicon.rules) {p_v2 : Value} (p_f2 : Sl LDecision h p_v2 p.lexicon.decisions) {p_v3 : Value} (p_f3 : Sl LQuestion h p_v3 p.questions) {p_v4 : Value} (p_f4 : Sl LVoter h p_v4 p.voters) (i : Int) (hi : 0 ≤ i ∧ i < (p.voters.length : Int)) : Calls Tryz.prog 265 #[.agg #[p_v0, p_v1, p_v2, p_v3, p_v4], .int .i64 i] w (Rets h w (fun _ _ res_ => res_ = .bool ((match p.voters[i.toNat]? with | some v => (!((p.voters.take i.toNat).any fun u => decide (u.id = v.id))) | none => true)))) := by
 refine zS (n := 12) Tryz.func265 X X X ?_
 have st0 := t_s0 hs
 have p_f0_b := p_f0.le
 have p_f1_b := p_f1.le
 have p_f2_b := p_f2.le
 have p_f3_b := p_f3.le
 have p_f4_b := p_f4.le
 obtain ⟨v, hv⟩ : ∃ v, p.voters[i.toNat]? = some v := ⟨_, List.getElem?_eq_getElem (by omega)⟩
 refine W.sr<|zG st0 (cs := [p_v0, p_v1, p_v2, p_v3, p_v4]) X X X<|fun b1 w2 h3 le4 hc5 st6=>zG st6 (cs := [.int .i64 i]) X X X<|fun b7 w8 h9 le10 hc11 st12=>zJ X X<|Y<|W.sr<|U X zx X zbp X X<|E (j := 4) st12.sub (hc5.up le10) X X X zbI X<|E (j := 0) st12.sub hc11 X X X zN X ?_
 have f13 := Sl.take p_f4 (k := i.toNat) (by omega)
 have l14 := le4.trans le10
 refine zq rfl rfl (zfD (p_f4.up l14) rfl rfl (hk := (show _ = ((i.toNat : Nat) : Int) by omega)) (by omega) zaA zbA) ?_
 refine zdl X X X ?_
 refine zn st12 rfl rfl rfl Tryz.call266 rfl (zeJ st12.sub (f13.up l14) (fun x_ => (match (p).voters[(i).toNat]? with | some v => decide ((x_).id = v.id) | none => false)) Tryz.call267 (fun x_ h_ w_ vs_ le_ hs_ hx_ hr_ u_ hu_ => by obtain ⟨v0_, rfl, f0_⟩ := hr_; cases hu_; exact c_vote_asked_5_1 hs_ (u := x_) f0_ (p := p) ((p_f0.up l14).up le_) ((p_f1.up l14).up le_) ((p_f2.up l14).up le_) ((p_f3.up l14).up le_) ((p_f4.up l14).up le_) ((hc5.up le10).up le_) (i := i) (hc11.up le_) (by exact hi))) ?_
 intro r15 w16 h17 le18 st19 q20
 obtain rfl := q20
 refine zbQ X X<|zJ X X<|Y<|zB<|zc Tryz.results265 ?_
 refine ⟨h17, _, rfl, st19.done, ?_⟩
 refine zw ?_
 simp only [hv]
end Go.Pk

namespace Go.Pk
open Go Go.RowKit Go.Proofs
set_option maxHeartbeats 4000000 in
theorem c_vote_Check {h : Heap} {w : World} (hs : Sub h w) {p : Poll} {p_v0 : Value} (p_f0 : Sl LChapter h p_v0 p.text.chapters) {p_v1 : Value} (p_f1 : Sl LRule h p_v1 p.lexicon.rules) {p_v2 : Value} (p_f2 : Sl LDecision h p_v2 p.lexicon.decisions) {p_v3 : Value} (p_f3 : Sl LQuestion h p_v3 p.questions) {p_v4 : Value} (p_f4 : Sl LVoter h p_v4 p.voters) (K1 : Cells h 1 0 Tryz.glob1) (K0 : Cells h 0 0 Tryz.glob0) : Calls Tryz.prog 40 #[.agg #[p_v0, p_v1, p_v2, p_v3, p_v4]] w (Rets h w (fun _ _ res_ => res_ = .int .i64 (zev p))) := by
 refine zS (n := 124) Tryz.func40 X X X<|have st0:=t_s0 hs;have p_f0_b:=p_f0.le;have p_f1_b:=p_f1.le;have p_f2_b:=p_f2.le;have p_f3_b:=p_f3.le;have p_f4_b:=p_f4.le;W.sr<|zG st0 (cs := [p_v0, p_v1, p_v2, p_v3, p_v4]) X X X<|fun b1 w2 h3 le4 hc5 st6=>zz X X<|Y<|zj<|W.sr<|U X zx X zac X X<|zab (j := 0) st6.sub hc5 (us := [p_v0]) X X zaO zac X X X<|U X zx X zR X X<|zab (j := 1) st6.sub hc5 (us := [p_v1, p_v2]) X X zaK zR X X X<|zn st6 X X X Tryz.call96 X (zhh st6.sub (t := p.text) (p_f0.up le4) (x := p.lexicon) (p_f1.up le4) (p_f2.up le4) (K1.up le4))<|fun r7 w8 h9 le10 st11 q12=> ?_
 obtain rfl := q12
 refine zz X X<|Y<|W.sr<|zk X X<|zcF X X X<|Y ?_
 refine zH rfl (fun c13 => ?_) (fun c13 => ?_)
 ·
  refine W.sr<|zk X X<|zz X X<|Y<|zB<|zd<|zc zdK ?_
  refine ⟨h9, _, rfl, st11.done, ?_⟩
  refine zar ?_
  simp_all [zev]
 refine zC<|O<|zj<|zj ?_
 have hz : zaQ p.text p.lexicon = 0 := by simpa using c13
 have htx : zbu p.text = true := zcx hz
 refine zo<|U X zx X zbd X X<|E (j := 3) st11.sub (hc5.up le10) X X X zbv X<|have l14:=le4.trans le10;zaJ (p_f3.up l14) X zau X<|zdr X X X<|zai X X ?_
 refine zaB (d := 26) rfl (fun g15 => ?_) (fun g15 => ?_)
 ·
  refine Z X X X X X<|Z X X X X X<|Z X X X X X<|Z X X X X X<|zaf (v := (.bool _)) X X X<|Y ?_
  refine zad rfl (fun c16 => ?_) (fun c16 => ?_)
  ·
   refine W.sr<|zz X X<|Y<|zB<|zd<|zc zdK ?_
   refine ⟨h9, _, rfl, st11.done, ?_⟩
   refine zar ?_
   (refine (zfW hz ?_).symm; simp [zdh]; omega)
  cases c16
 refine M X X X<|U X zx X zbp X X<|M X X X<|E (j := 4) st11.sub (hc5.up le10) X X X zbI X<|M X X X<|zaJ (p_f4.up l14) X zaA X<|M X X X<|zdr X X X<|zX (v := (.bool _)) X X X<|Y ?_
 refine zH rfl (fun c17 => ?_) (fun c17 => ?_)
 ·
  refine W.sr<|zz X X<|Y<|zB<|zd<|zc zdK ?_
  refine ⟨h9, _, rfl, st11.done, ?_⟩
  refine zar ?_
  (refine (zfW hz ?_).symm; simp [zdh]; omega)
 refine zC<|O<|zj<|W.sr<|U X zx X zbd X X<|E (j := 3) st11.sub (hc5.up le10) X X X zbv X<|zaJ (p_f3.up l14) X zau X<|zk X X<|Y<|zF ?_
 refine zat ([2] ++ t_rg 4 7 ++ t_rg 35 71) (G := Nat × Heap) (fun ⟨i, h18⟩ => [(35, .int .i64 (i : Int))]) (fun ⟨i, h18⟩ w' => Le h9 h18 ∧ St h w h18 w' [] ∧ (i ≤ p.questions.length) ∧ (∀ j, j < i → zeE p j = true)) (fun ⟨i, h18⟩ => p.questions.length - i) ⟨0, h9⟩ ⟨rfl, trivial⟩ ⟨Le.refl _, st11, zaM, zaM⟩ ?_
 rintro ⟨i, h18⟩ _ w21 ⟨le19, st20, hi, hA⟩
 refine W.sr<|zaV X X X<|Y<|zj ?_
 refine zH rfl (fun c22 => ?_) (fun c22 => ?_)
 ·
  refine zC<|O<|zj<|zF<|W.sr<|zk X X ?_
  obtain ⟨q, hq⟩ : ∃ y_, (p.questions)[i]? = some y_ := t_ge (by omega)
  have l27 := l14.trans le19
  obtain ⟨b23, o24, _, he26, hc25, hr_q⟩ := Sl.elem (p_f3.up l27) hq
  obtain ⟨v28, rfl, f29⟩ := hr_q
  have f29_b := f29.le
  refine zV he26 X X (hk := X) (hu := zau) (hz := zbz) X<|zy st20.sub hc25 X Tryz.isAgg84 zbz X X<|zae st20 Tryz.zeroValue84 X X<|fun b30 w31 st32=>zz X X<|zM st32 (k := 0) X X X (za X (za X (za X (za f29.one zap)))) zbz X X X<|fun w33 st34=> ?_
  obtain ⟨h35, le36, hb37, st39⟩ := st34.freeze (k := 0) rfl
  have hc38 := Cells.of hb37
  refine Y<|W.sr<|U X zx X zac X X<|zab (j := 0) st39.sub (hc5.up ((le10.trans le19).trans le36)) (us := [p_v0]) X X zaO zac X X X<|U X zam X zO X X<|zab (j := 0) st39.sub hc38 (us := [.int .i64 (q.at_.chapter), .int .i64 (q.at_.line), .int .i64 (q.at_.word)]) X X zaD zO X X X ?_
  have l40 := l27.trans le36
  have con := (zgJ st39.sub (t := p.text) (p_f0.up l40) (p := q.at_))
  rw [htx] at con; simp only [Bool.true_and, if_true] at con
  refine zn st39 X X X Tryz.call85 X con<|fun r41 w42 h43 le44 st45 q46=> ?_
  obtain rfl := q46
  clear con
  refine zdu X X<|zak (v := (strV _)) X X X<|zak (v := (.int _ _)) X X X<|zdR X X<|zz X X<|Y<|zj ?_
  refine W.join ([8] ++ t_rg 48 26) (G := Heap) (fun h47 => [(8, .bool (zeo p i q))]) (fun h47 w' => Le h43 h47 ∧ St h w h47 w' [[]]) ?_ ?_
  ·
   rcases Bool.eq_false_or_eq_true (decide (((if zbB p.text q.at_ = true then (0 : Int) else 12)) = 0)) with g51 | g51
   ·
    have g51_r := g51
    replace g51 := t_ot g51
    rcases Bool.eq_false_or_eq_true ((zcJ (([(q.heads.length : Int)])) (2) (3))) with g52 | g52
    ·
     have g52_r := g52
     rcases Bool.eq_false_or_eq_true (decide ((i : Int) = 0)) with g53 | g53
     ·
      have g53_r := g53
      replace g53 := t_ot g53
      refine zbh (er := ([], [], [], [], 0)) (dsts := [48, 49, 50, 51, 52, 53, 54, 55, 56, 57, 58, 59, 60, 61, 62, 63, 64, 65, 66, 67, 68, 69, 70, 71, 72, 73, 8]) st45 Tryz.mixed<|zf 0 [] X t_kr t_kr X X (fun hD wD τD hL hS hO  => (zdP X))<|zf 1 [0] X t_kr t_kr X X (fun hD wD τD hL hS hO _ _ => (Run.lit (r_eql X X) g51_r))<|zf 2 [0] X t_kr t_kr X X (fun hD wD τD hL hS hO _ _ => (zfv X))<|zbk 3 [0] X t_kr t_kr X X X (fun hD wD τD hL hS hO _ _ => ⟨rfl, (zL X zam X zbO X)⟩)<|zbk 4 [0, 1] X t_kr t_kr X X X (fun hD wD τD hL hS hO _ _ _ _ => ⟨rfl, (ze (j := 3) (hL.sub hS) (hc38.up le44) X X X zca)⟩)<|zbk 5 [0, 2] X t_kr t_kr X X X (fun hD wD τD hL hS hO _ _ _ _ => ⟨rfl, (r_len (f29.up (le36.trans le44)) X zaE)⟩) ?_
      refine zax 6 (.res (fun h' res_ => Sl LInt h' res_ ([(q.heads.length : Int)])) (fun _ _ _ hl f => f.up hl)) [0, 3] rfl t_kr t_kr ?_ ?_
      ·
       intro hD wD τD hL hS hO _ _ _ _
       have st54 := St.start hS
       refine M X X X<|zaL (L := LInt) (xs := [(q.heads.length : Int)]) (cs := [.int .i64 (q.heads.length : Int)]) st54 (Enc.cons (L := LInt) (vs := [.int .i64 (q.heads.length : Int)]) (x := (q.heads.length : Int)) (h := hD) (X) Enc.nil) X X X zp Tryz.info3 X X X t_kr<|fun v55 w56 h59 le60 f57 st58=> ?_
       exact zt ⟨_, _, rfl, st58, _, rfl, f57⟩
      refine zax 7 (.det (.bool (zcJ (([(q.heads.length : Int)])) (2) (3)))) [0, 4] rfl t_kr t_kr ?_ ?_
      ·
       intro hD wD τD hL hS hO gv6_0 gf6_0 _ _
       have st61 := St.start hS
       refine M X X X<|zn st61 X X X zgY X (zfY st61.sub _ _ gf6_0)<|fun r62 w63 h64 le65 st66 q67=> ?_
       obtain rfl := q67
       exact zt ⟨_, _, rfl, st66, (), rfl, trivial⟩
      refine zf 8 [5, 0] X t_kr t_kr X X (fun hD wD τD hL hS hO _ _ _ _ => (Run.lit (zhf (v := (.bool _)) X X) g52_r))<|zf 9 [0, 1] X t_kr t_kr X X (fun hD wD τD hL hS hO _ _ _ _ => (zfv X))<|zbk 10 [0] X t_kr t_kr X X X (fun hD wD τD hL hS hO _ _ => ⟨rfl, (zdP X)⟩)<|zbk 11 [0, 1] X t_kr t_kr X X X (fun hD wD τD hL hS hO _ _ _ _ => ⟨rfl, (Run.lit (r_eql X X) g53_r)⟩)<|zbk 12 [0, 2] X t_kr t_kr X X X (fun hD wD τD hL hS hO _ _ _ _ => ⟨rfl, (zfv X)⟩)<|zaZ 13 [0] X t_kr t_kr X X X X (fun hD wD τD hL hS hO _ _ => X)<|zaZ 14 [0, 1] X t_kr t_kr X X X X (fun hD wD τD hL hS hO _ _ _ _ => X)<|zaZ 15 [2] X t_kr t_kr X X X X (fun hD wD τD hL hS hO _ _ => X)<|zaZ 16 [0, 3] X t_kr t_kr X X X X (fun hD wD τD hL hS hO _ _ _ _ => X)<|zaZ 17 [2, 0, 4] X t_kr t_kr X X X X (fun hD wD τD hL hS hO _ _ _ _ _ _ => X)<|zaZ 18 [0, 5] X t_kr t_kr X X X X (fun hD wD τD hL hS hO _ _ _ _ => X)<|zaZ 19 [0, 6] X t_kr t_kr X X X X (fun hD wD τD hL hS hO _ _ _ _ => X)<|zaZ 20 [7] X t_kr t_kr X X X X (fun hD wD τD hL hS hO _ _ => X)<|zaZ 21 [0, 8] X t_kr t_kr X X X X (fun hD wD τD hL hS hO _ _ _ _ => X)<|zaZ 22 [2, 0, 9] X t_kr t_kr X X X X (fun hD wD τD hL hS hO _ _ _ _ _ _ => X)<|zaZ 23 [0, 10] X t_kr t_kr X X X X (fun hD wD τD hL hS hO _ _ _ _ => X)<|zbk 24 [11, 0, 14] X t_kr t_kr X X X (fun hD wD τD hL hS hO _ _ _ _ _ _ => ⟨rfl, (zhf (v := (.bool _)) X X)⟩)<|zf 25 [15, 0] X t_kr t_kr X X (fun hD wD τD hL hS hO _ _ _ _ => (zhf (v := (.bool _)) X X))<|zf 26 [25, 24, 23, 22, 21, 20, 19, 18, 17, 16, 15, 14, 13, 12, 11, 10, 9, 8, 7, 6, 5, 4, 3, 2, 1, 0] X t_kr t_kr X X (fun hD wD τD hL hS hO _ _ _ _ _ _ _ _ _ _ _ _ gv6_0 gf6_0 _ _ _ _ _ _ _ _ _ _ _ _ _ _ _ _ _ _ _ _ _ _ _ _ _ _ _ _ _ _ _ _ _ _ _ _ _ _ => (r_asB X))<|zbN X X X X X X ⟨t_kr, X, t_kr, X, t_kr, X, X, t_kr, zcl⟩<|fun hE68 w69 _ le70 st71 _ _ _ _ _ _ _ _ _ _ _ _ gv6_0x72 gf6_0x72 _ _ _ _ _ _ _ _ _ _ _ _ _ _ _ _ _ _ _ _ _ _ _ _ _ _ _ _ _ _ _ _ _ _ _ _ _ _ _ _=>AllDeps.fin X ?_
      refine ⟨rfl, hE68, ⟨?_, trivial⟩, ?_, le70, st71⟩
      ·exact zw (by first | exact q_init0 g51 g52 g53 | exact q_init1 g51 g52 g53 hq1 | exact q_init2 g53 | exact q_init3 g53)
      exact zav
     have g53_r := g53
     replace g53 := t_of g53
     have l73 := ((le10.trans le19).trans le36).trans le44
     obtain ⟨q1, hq1⟩ : ∃ y_, (p.questions)[(i - 1)]? = some y_ := t_ge (by omega)
     have l78 := l40.trans le44
     obtain ⟨b74, o75, _, he77, hc76, hr_q1⟩ := Sl.elem (p_f3.up l78) hq1
     obtain ⟨v79, rfl, f80⟩ := hr_q1
     have f80_b := f80.le
     refine zbh (er := ([], [], [], [], 0)) (dsts := [48, 49, 50, 51, 52, 53, 54, 55, 56, 57, 58, 59, 60, 61, 62, 63, 64, 65, 66, 67, 68, 69, 70, 71, 72, 73, 8]) st45 Tryz.mixed<|zf 0 [] X t_kr t_kr X X (fun hD wD τD hL hS hO  => (zdP X))<|zf 1 [0] X t_kr t_kr X X (fun hD wD τD hL hS hO _ _ => (Run.lit (r_eql X X) g51_r))<|zf 2 [0] X t_kr t_kr X X (fun hD wD τD hL hS hO _ _ => (zfv X))<|zbk 3 [0] X t_kr t_kr X X X (fun hD wD τD hL hS hO _ _ => ⟨rfl, (zL X zam X zbO X)⟩)<|zbk 4 [0, 1] X t_kr t_kr X X X (fun hD wD τD hL hS hO _ _ _ _ => ⟨rfl, (ze (j := 3) (hL.sub hS) (hc38.up le44) X X X zca)⟩)<|zbk 5 [0, 2] X t_kr t_kr X X X (fun hD wD τD hL hS hO _ _ _ _ => ⟨rfl, (r_len (f29.up (le36.trans le44)) X zaE)⟩) ?_
     refine zax 6 (.res (fun h' res_ => Sl LInt h' res_ ([(q.heads.length : Int)])) (fun _ _ _ hl f => f.up hl)) [0, 3] rfl t_kr t_kr ?_ ?_
     ·
      intro hD wD τD hL hS hO _ _ _ _
      have st81 := St.start hS
      refine M X X X<|zaL (L := LInt) (xs := [(q.heads.length : Int)]) (cs := [.int .i64 (q.heads.length : Int)]) st81 (Enc.cons (L := LInt) (vs := [.int .i64 (q.heads.length : Int)]) (x := (q.heads.length : Int)) (h := hD) (X) Enc.nil) X X X zp Tryz.info3 X X X t_kr<|fun v82 w83 h86 le87 f84 st85=> ?_
      exact zt ⟨_, _, rfl, st85, _, rfl, f84⟩
     refine zax 7 (.det (.bool (zcJ (([(q.heads.length : Int)])) (2) (3)))) [0, 4] rfl t_kr t_kr ?_ ?_
     ·
      intro hD wD τD hL hS hO gv6_0 gf6_0 _ _
      have st88 := St.start hS
      refine M X X X<|zn st88 X X X zgY X (zfY st88.sub _ _ gf6_0)<|fun r89 w90 h91 le92 st93 q94=> ?_
      obtain rfl := q94
      exact zt ⟨_, _, rfl, st93, (), rfl, trivial⟩
     refine zf 8 [5, 0] X t_kr t_kr X X (fun hD wD τD hL hS hO _ _ _ _ => (Run.lit (zhf (v := (.bool _)) X X) g52_r))<|zf 9 [0, 1] X t_kr t_kr X X (fun hD wD τD hL hS hO _ _ _ _ => (zfv X))<|zbk 10 [0] X t_kr t_kr X X X (fun hD wD τD hL hS hO _ _ => ⟨rfl, (zdP X)⟩)<|zbk 11 [0, 1] X t_kr t_kr X X X (fun hD wD τD hL hS hO _ _ _ _ => ⟨rfl, (Run.lit (r_eql X X) g53_r)⟩)<|zbk 12 [0, 2] X t_kr t_kr X X X (fun hD wD τD hL hS hO _ _ _ _ => ⟨rfl, (zfv X)⟩)<|zbk 13 [0] X t_kr t_kr X X X (fun hD wD τD hL hS hO _ _ => ⟨rfl, (zL X zx X zbd X)⟩)<|zbk 14 [0, 1] X t_kr t_kr X X X (fun hD wD τD hL hS hO _ _ _ _ => ⟨rfl, (ze (j := 3) (hL.sub hS) (hc5.up l73) X X X zbv)⟩)<|zbk 15 [2] X t_kr t_kr X X X (fun hD wD τD hL hS hO _ _ => ⟨rfl, (zdP X)⟩)<|zbk 16 [0, 3] X t_kr t_kr X X X (fun hD wD τD hL hS hO _ _ _ _ => ⟨rfl, (r_sub X X t_om)⟩) ?_
     refine zbk 17 [2, 0, 4] rfl t_kr t_kr rfl rfl rfl (fun hD wD τD hL hS hO _ _ _ _ _ _ => ⟨rfl, (zao he77 rfl rfl (hk := (show _ = (((i - 1) : Nat) : Int) by omega)) (hu := zau) (hz := zbz))⟩) ?_
     refine zbk 18 [0, 5] X t_kr t_kr X X X (fun hD wD τD hL hS hO _ _ _ _ => ⟨rfl, (zL X zam X zO X)⟩)<|zbk 19 [0, 6] X t_kr t_kr X X X (fun hD wD τD hL hS hO _ _ _ _ => ⟨rfl, (zbL (j := 0) (hL.sub hS) hc76 (us := [.int .i64 (q1.at_.chapter), .int .i64 (q1.at_.line), .int .i64 (q1.at_.word)]) X X zaD zO X X)⟩)<|zbk 20 [7] X t_kr t_kr X X X (fun hD wD τD hL hS hO _ _ => ⟨rfl, (zL X zam X zO X)⟩)<|zbk 21 [0, 8] X t_kr t_kr X X X (fun hD wD τD hL hS hO _ _ _ _ => ⟨rfl, (zbL (j := 0) (hL.sub hS) (hc38.up le44) (us := [.int .i64 (q.at_.chapter), .int .i64 (q.at_.line), .int .i64 (q.at_.word)]) X X zaD zO X X)⟩) ?_
     refine zax 22 (.det (.int .i64 ((orL [cmpI (q1.at_).chapter (q.at_).chapter, cmpI (q1.at_).line (q.at_).line, cmpI (q1.at_).word (q.at_).word])))) [2, 0, 9] rfl t_kr t_kr ?_ ?_
     ·
      intro hD wD τD hL hS hO _ _ _ _ _ _
      have st95 := St.start hS
      refine M X X X<|zn st95 X X X Tryz.call97 X (c_vote_places st95.sub (a := q1.at_) (b := q.at_))<|fun r96 w97 h98 le99 st100 q101=> ?_
      obtain rfl := q101
      exact zt ⟨_, _, rfl, st100, (), rfl, trivial⟩
     refine zbk 23 [0, 10] X t_kr t_kr X X X (fun hD wD τD hL hS hO _ _ _ _ => ⟨rfl, (r_lss X X)⟩)<|zbk 24 [11, 0, 14] X t_kr t_kr X X X (fun hD wD τD hL hS hO _ _ _ _ _ _ => ⟨rfl, (zgf (v := (.bool _)) X X)⟩)<|zf 25 [15, 0] X t_kr t_kr X X (fun hD wD τD hL hS hO _ _ _ _ => (zhf (v := (.bool _)) X X))<|zf 26 [25, 24, 23, 22, 21, 20, 19, 18, 17, 16, 15, 14, 13, 12, 11, 10, 9, 8, 7, 6, 5, 4, 3, 2, 1, 0] X t_kr t_kr X X (fun hD wD τD hL hS hO _ _ _ _ _ _ _ _ _ _ _ _ gv6_0 gf6_0 _ _ _ _ _ _ _ _ _ _ _ _ _ _ _ _ _ _ _ _ _ _ _ _ _ _ _ _ _ _ _ _ _ _ _ _ _ _ => (r_asB X))<|zbN X X X X X X ⟨t_kr, X, t_kr, X, t_kr, X, X, t_kr, zcl⟩<|fun hE102 w103 _ le104 st105 _ _ _ _ _ _ _ _ _ _ _ _ gv6_0x106 gf6_0x106 _ _ _ _ _ _ _ _ _ _ _ _ _ _ _ _ _ _ _ _ _ _ _ _ _ _ _ _ _ _ _ _ _ _ _ _ _ _ _ _=>AllDeps.fin X ?_
     refine ⟨rfl, hE102, ⟨?_, trivial⟩, ?_, le104, st105⟩
     ·exact zw (by first | exact q_init0 g51 g52 g53 | exact q_init1 g51 g52 g53 hq1 | exact q_init2 g53 | exact q_init3 g53)
     exact zav
    have g52_r := g52
    refine zbh (er := ([], [], [], [], 0)) (dsts := [48, 49, 50, 51, 52, 53, 54, 55, 56, 57, 58, 59, 60, 61, 62, 63, 64, 65, 66, 67, 68, 69, 70, 71, 72, 73, 8]) st45 Tryz.mixed<|zf 0 [] X t_kr t_kr X X (fun hD wD τD hL hS hO  => (zdP X))<|zf 1 [0] X t_kr t_kr X X (fun hD wD τD hL hS hO _ _ => (Run.lit (r_eql X X) g51_r))<|zf 2 [0] X t_kr t_kr X X (fun hD wD τD hL hS hO _ _ => (zfv X))<|zbk 3 [0] X t_kr t_kr X X X (fun hD wD τD hL hS hO _ _ => ⟨rfl, (zL X zam X zbO X)⟩)<|zbk 4 [0, 1] X t_kr t_kr X X X (fun hD wD τD hL hS hO _ _ _ _ => ⟨rfl, (ze (j := 3) (hL.sub hS) (hc38.up le44) X X X zca)⟩)<|zbk 5 [0, 2] X t_kr t_kr X X X (fun hD wD τD hL hS hO _ _ _ _ => ⟨rfl, (r_len (f29.up (le36.trans le44)) X zaE)⟩) ?_
    refine zax 6 (.res (fun h' res_ => Sl LInt h' res_ ([(q.heads.length : Int)])) (fun _ _ _ hl f => f.up hl)) [0, 3] rfl t_kr t_kr ?_ ?_
    ·
     intro hD wD τD hL hS hO _ _ _ _
     have st107 := St.start hS
     refine M X X X<|zaL (L := LInt) (xs := [(q.heads.length : Int)]) (cs := [.int .i64 (q.heads.length : Int)]) st107 (Enc.cons (L := LInt) (vs := [.int .i64 (q.heads.length : Int)]) (x := (q.heads.length : Int)) (h := hD) (X) Enc.nil) X X X zp Tryz.info3 X X X t_kr<|fun v108 w109 h112 le113 f110 st111=> ?_
     exact zt ⟨_, _, rfl, st111, _, rfl, f110⟩
    refine zax 7 (.det (.bool (zcJ (([(q.heads.length : Int)])) (2) (3)))) [0, 4] rfl t_kr t_kr ?_ ?_
    ·
     intro hD wD τD hL hS hO gv6_0 gf6_0 _ _
     have st114 := St.start hS
     refine M X X X<|zn st114 X X X zgY X (zfY st114.sub _ _ gf6_0)<|fun r115 w116 h117 le118 st119 q120=> ?_
     obtain rfl := q120
     exact zt ⟨_, _, rfl, st119, (), rfl, trivial⟩
    refine zf 8 [5, 0] X t_kr t_kr X X (fun hD wD τD hL hS hO _ _ _ _ => (Run.lit (zhf (v := (.bool _)) X X) g52_r))<|zf 9 [0, 1] X t_kr t_kr X X (fun hD wD τD hL hS hO _ _ _ _ => (zfv X))<|zaZ 10 [0] X t_kr t_kr X X X X (fun hD wD τD hL hS hO _ _ => X)<|zaZ 11 [0, 1] X t_kr t_kr X X X X (fun hD wD τD hL hS hO _ _ _ _ => X)<|zaZ 12 [0, 2] X t_kr t_kr X X X X (fun hD wD τD hL hS hO _ _ _ _ => X)<|zcv 13 [0] X t_kr t_kr X X X (fun hD wD τD hL hS hO _ _ => X)<|zcv 14 [0, 1] X t_kr t_kr X X X (fun hD wD τD hL hS hO _ _ _ _ => X)<|zcv 15 [2] X t_kr t_kr X X X (fun hD wD τD hL hS hO _ _ => X)<|zcv 16 [0, 3] X t_kr t_kr X X X (fun hD wD τD hL hS hO _ _ _ _ => X)<|zcv 17 [2, 0, 4] X t_kr t_kr X X X (fun hD wD τD hL hS hO _ _ _ _ _ _ => X)<|zcv 18 [0, 5] X t_kr t_kr X X X (fun hD wD τD hL hS hO _ _ _ _ => X)<|zcv 19 [0, 6] X t_kr t_kr X X X (fun hD wD τD hL hS hO _ _ _ _ => X)<|zcv 20 [7] X t_kr t_kr X X X (fun hD wD τD hL hS hO _ _ => X)<|zcv 21 [0, 8] X t_kr t_kr X X X (fun hD wD τD hL hS hO _ _ _ _ => X)<|zcv 22 [2, 0, 9] X t_kr t_kr X X X (fun hD wD τD hL hS hO _ _ _ _ _ _ => X)<|zcv 23 [0, 10] X t_kr t_kr X X X (fun hD wD τD hL hS hO _ _ _ _ => X)<|zaZ 24 [11, 0, 14] X t_kr t_kr X X X X (fun hD wD τD hL hS hO _ _ _ _ _ _ => X)<|zf 25 [15, 0] X t_kr t_kr X X (fun hD wD τD hL hS hO _ _ _ _ => (zgf (v := (.bool _)) X X))<|zf 26 [25, 24, 23, 22, 21, 20, 19, 18, 17, 16, 15, 14, 13, 12, 11, 10, 9, 8, 7, 6, 5, 4, 3, 2, 1, 0] X t_kr t_kr X X (fun hD wD τD hL hS hO _ _ _ _ _ _ _ _ _ _ _ _ gv6_0 gf6_0 _ _ _ _ _ _ _ _ _ _ _ _ _ _ _ _ _ _ _ _ _ _ _ _ _ _ _ _ _ _ _ _ _ _ _ _ _ _ => (r_asB X))<|zbN X X X X X X ⟨t_kr, X, t_kr, X, t_kr, X, X, t_kr, zcl⟩<|fun hE121 w122 _ le123 st124 _ _ _ _ _ _ _ _ _ _ _ _ gv6_0x125 gf6_0x125 _ _ _ _ _ _ _ _ _ _ _ _ _ _ _ _ _ _ _ _ _ _ _ _ _ _ _ _ _ _ _ _ _ _ _ _ _ _ _ _=>AllDeps.fin X ?_
    refine ⟨rfl, hE121, ⟨?_, trivial⟩, ?_, le123, st124⟩
    ·exact zw (by first | exact q_init0 g15 g51 g52 | exact q_init1 g15 g51 g52 hq1 | exact q_init2 g52 | exact q_init3 g52)
    exact zav
   have g51_r := g51
   replace g51 := t_of g51
   refine zbh (er := ([], [], [], [], 0)) (dsts := [48, 49, 50, 51, 52, 53, 54, 55, 56, 57, 58, 59, 60, 61, 62, 63, 64, 65, 66, 67, 68, 69, 70, 71, 72, 73, 8]) st45 Tryz.mixed<|zf 0 [] X t_kr t_kr X X (fun hD wD τD hL hS hO  => (zdP X))<|zf 1 [0] X t_kr t_kr X X (fun hD wD τD hL hS hO _ _ => (Run.lit (r_eql X X) g51_r))<|zf 2 [0] X t_kr t_kr X X (fun hD wD τD hL hS hO _ _ => (zfv X))<|zaZ 3 [0] X t_kr t_kr X X X X (fun hD wD τD hL hS hO _ _ => X)<|zaZ 4 [0, 1] X t_kr t_kr X X X X (fun hD wD τD hL hS hO _ _ _ _ => X)<|zaZ 5 [0, 2] X t_kr t_kr X X X X (fun hD wD τD hL hS hO _ _ _ _ => X)<|zaZ 6 [0, 3] X t_kr t_kr X X X X (fun hD wD τD hL hS hO _ _ _ _ => X)<|zaZ 7 [0, 4] X t_kr t_kr X X X X (fun hD wD τD hL hS hO _ _ _ _ => X)<|zf 8 [5, 0] X t_kr t_kr X X (fun hD wD τD hL hS hO _ _ _ _ => (zgf (v := (.bool _)) X X))<|zf 9 [0, 1] X t_kr t_kr X X (fun hD wD τD hL hS hO _ _ _ _ => (zfv X))<|zaZ 10 [0] X t_kr t_kr X X X X (fun hD wD τD hL hS hO _ _ => X)<|zaZ 11 [0, 1] X t_kr t_kr X X X X (fun hD wD τD hL hS hO _ _ _ _ => X)<|zaZ 12 [0, 2] X t_kr t_kr X X X X (fun hD wD τD hL hS hO _ _ _ _ => X)<|zcv 13 [0] X t_kr t_kr X X X (fun hD wD τD hL hS hO _ _ => X)<|zcv 14 [0, 1] X t_kr t_kr X X X (fun hD wD τD hL hS hO _ _ _ _ => X)<|zcv 15 [2] X t_kr t_kr X X X (fun hD wD τD hL hS hO _ _ => X)<|zcv 16 [0, 3] X t_kr t_kr X X X (fun hD wD τD hL hS hO _ _ _ _ => X)<|zcv 17 [2, 0, 4] X t_kr t_kr X X X (fun hD wD τD hL hS hO _ _ _ _ _ _ => X)<|zcv 18 [0, 5] X t_kr t_kr X X X (fun hD wD τD hL hS hO _ _ _ _ => X)<|zcv 19 [0, 6] X t_kr t_kr X X X (fun hD wD τD hL hS hO _ _ _ _ => X)<|zcv 20 [7] X t_kr t_kr X X X (fun hD wD τD hL hS hO _ _ => X)<|zcv 21 [0, 8] X t_kr t_kr X X X (fun hD wD τD hL hS hO _ _ _ _ => X)<|zcv 22 [2, 0, 9] X t_kr t_kr X X X (fun hD wD τD hL hS hO _ _ _ _ _ _ => X)<|zcv 23 [0, 10] X t_kr t_kr X X X (fun hD wD τD hL hS hO _ _ _ _ => X)<|zaZ 24 [11, 0, 14] X t_kr t_kr X X X X (fun hD wD τD hL hS hO _ _ _ _ _ _ => X)<|zf 25 [15, 0] X t_kr t_kr X X (fun hD wD τD hL hS hO _ _ _ _ => (zgf (v := (.bool _)) X X))<|zf 26 [25, 24, 23, 22, 21, 20, 19, 18, 17, 16, 15, 14, 13, 12, 11, 10, 9, 8, 7, 6, 5, 4, 3, 2, 1, 0] X t_kr t_kr X X (fun hD wD τD hL hS hO _ _ _ _ _ _ _ _ _ _ _ _ _ _ _ _ _ _ _ _ _ _ _ _ _ _ _ _ _ _ _ _ _ _ _ _ _ _ _ _ _ _ _ _ _ _ _ _ _ _ _ _ => (r_asB X))<|zbN X X X X X X ⟨t_kr, X, t_kr, X, t_kr, X, X, t_kr, zcl⟩<|fun hE126 w127 _ le128 st129 _ _ _ _ _ _ _ _ _ _ _ _ _ _ _ _ _ _ _ _ _ _ _ _ _ _ _ _ _ _ _ _ _ _ _ _ _ _ _ _ _ _ _ _ _ _ _ _ _ _ _ _ _ _=> ?_
   refine AllDeps.fin X ?_
   refine ⟨rfl, hE126, ⟨?_, trivial⟩, ?_, le128, st129⟩
   ·exact zw (by first | exact q_init0 %g3 g15 g51 | exact q_init1 %g3 g15 g51 hq1 | exact q_init2 g51 | exact q_init3 g51)
   exact zav
  rintro h47 _ w50 ⟨le48, st49⟩
  refine O<|zj<|W.sr<|U X zam X zbO X X<|E (j := 3) st49.sub (hc38.up (le44.trans le48)) X X X zca X<|zaJ (f29.up ((le36.trans le44).trans le48)) X zaE X<|zk X X<|Y<|zF ?_
  refine zat ([8, 9, 10] ++ t_rg 77 26) (G := Nat × Heap) (fun ⟨k, h131⟩ => [(8, .bool (zfy p i q k)), (77, .int .i64 (k : Int))]) (fun ⟨k, h131⟩ w' => Le h47 h131 ∧ St h w h131 w' [[]] ∧ (k ≤ q.heads.length)) (fun ⟨k, h131⟩ => q.heads.length - k) ⟨0, h47⟩ ⟨(zw (by rw [questK_zero])), rfl, trivial⟩ ⟨Le.refl _, st49, zaM⟩ ?_
  rintro ⟨k, h131⟩ _ w134 ⟨le132, st133, hk⟩
  refine W.sr<|zaV X X X<|Y<|zj ?_
  refine zH rfl (fun c135 => ?_) (fun c135 => ?_)
  ·
   refine zC<|O<|zj<|zF<|W.sr<|zk X X ?_
   obtain ⟨hd, hhd⟩ : ∃ y_, (q.heads)[k]? = some y_ := t_ge (by omega)
   have l140 := ((le36.trans le44).trans le48).trans le132
   obtain ⟨b136, o137, _, he139, hc138, hr_hd⟩ := Sl.elem (f29.up l140) hhd
   obtain ⟨rfl, ls141, lu142⟩ := hr_hd
   simp only [big] at ls141
   refine zV he139 X X (hk := X) (hu := zaE) (hz := zT) X<|zy st133.sub hc138 X zbl zT X X<|zae st133 zdb X X<|fun b143 w144 st145=>zz X X<|zM st145 (k := 1) X X X (za X (za X zap)) zT X X X<|fun w146 st147=> ?_
   obtain ⟨h148, le149, hb150, st152⟩ := st147.freeze (k := 1) rfl
   have hc151 := Cells.of hb150
   refine Y ?_
   refine W.join ([8] ++ t_rg 82 20) (G := Heap) (fun h153 => [(8, .bool (zfy p i q (k + 1)))]) (fun h153 w' => Le h148 h153 ∧ St h w h153 w' [[], []]) ?_ ?_
   ·
    refine zbj Tryz.mixed t_kr (Cls h148 _) (Cls.drew st152)<|zdS X X<|zdS X X ?_
    refine zeO (d := 83) rfl (fun g157 => ?_) (fun g157 => ?_)
    ·
     refine zg X X X<|zl X X (fun _ hC => (zZ hC.sub hc151 X zbl zT X))<|zg X X X<|zbU X X (fun _ => zbc X Tryz.call98 X) (fun _ hC => Rets.quiet hC (c_vote_head hC.sub (hd := hd) zba t_u8))<|zcK (v := (.bool _)) X X X<|zdS X X ?_
     refine zeO (d := 87) rfl (fun g158 => ?_) (fun g158 => ?_)
     ·
      refine zg X X X<|zbJ X X<|zg X X X<|u_eql X X X<|zg X X X<|zdS X X ?_
      refine zcP (d := 90) rfl (fun g159 => ?_) (fun g159 => ?_)
      ·
       refine zb X X X X X<|zb X X X X X<|zb X X X X X<|zb X X X X X<|zb X X X X X<|zb X X X X X<|zb X X X X X<|zb X X X X X<|zb X X X X X<|zg X X X<|zcK (v := (.bool _)) X X X<|zcK (v := (.bool _)) X X X<|u_asB X X<|zaN ?_
       rintro w160 ⟨h161, s162⟩
       have st163 := st152.call0 s162
       refine ⟨rfl, h161, ⟨?_, trivial⟩, ?_, s162.le, st163⟩
       ·exact zw (by rw [zhR]; first | exact q_step0 g157 g158 g159 hhd | exact q_step1 g157 g158 g159 hhd hh1 | exact q_step2 g159 hhd | exact q_step3 g159)
       exact zav
      refine zg X X X<|zD X zam X zbO X X<|zg X X X<|have l164:=((le44.trans le48).trans le132).trans le149;zl X X (fun _ hC => (ze (j := 3) hC.sub (hc38.up l164) X X X zca))<|zg X X X<|zbJ X X<|zg X X X<|zig X X t_om X<|zg X X X ?_
      obtain ⟨h1, hh1⟩ : ∃ y_, (q.heads)[(k - 1)]? = some y_ := t_ge (by omega)
      obtain ⟨b165, o166, _, he168, hc167, hr_h1⟩ := Sl.elem (f29.up (l140.trans le149)) hh1
      obtain ⟨rfl, ls169, lu170⟩ := hr_h1
      simp only [big] at ls169
      refine zl rfl rfl (fun _ _ => (zao he168 rfl rfl (hk := (show _ = (((k - 1) : Nat) : Int) by omega)) (hu := zaE) (hz := zT))) ?_
      refine zg X X X<|zl X X (fun _ hC => (zZ hC.sub hc167 X zbl zT X))<|zg X X X<|zl X X (fun _ hC => (zZ hC.sub hc151 X zbl zT X))<|zg X X X<|zbU X X (fun _ => zbc X Tryz.call99 X) (fun _ hC => Rets.quiet hC (c_vote_heads hC.sub (a := h1) zba t_u8 (b := hd) zba t_u8))<|zg X X X<|u_lss X X X<|zg X X X<|zcL (v := (.bool _)) X X X<|zcK (v := (.bool _)) X X X<|u_asB X X<|zaN ?_
      rintro w171 ⟨h172, s173⟩
      have st174 := st152.call0 s173
      refine ⟨rfl, h172, ⟨?_, trivial⟩, ?_, s173.le, st174⟩
      ·exact zw (by rw [zhR]; first | exact q_step0 g157 g158 g159 hhd | exact q_step1 g157 g158 g159 hhd hh1 | exact q_step2 g159 hhd | exact q_step3 g159)
      exact zav
     refine zb X X X X X<|zb X X X X X<|zb X X X X X<|zY X X X X<|zY X X X X<|zY X X X X<|zY X X X X<|zY X X X X<|zY X X X X<|zY X X X X<|zY X X X X<|zY X X X X<|zb X X X X X<|zcL (v := (.bool _)) X X X<|u_asB X X<|zaN ?_
     rintro w175 ⟨h176, s177⟩
     have st178 := st152.call0 s177
     refine ⟨rfl, h176, ⟨?_, trivial⟩, ?_, s177.le, st178⟩
     ·exact zw (by rw [zhR]; first | exact q_step0 g15 g157 g158 hhd | exact q_step1 g15 g157 g158 hhd hh1 | exact q_step2 g158 hhd | exact q_step3 g158)
     exact zav
    refine zb X X X X X<|zb X X X X X<|zcL (v := (.bool _)) X X X<|zdS X X<|zb X X X X X<|zb X X X X X<|zb X X X X X<|zY X X X X<|zY X X X X<|zY X X X X<|zY X X X X<|zY X X X X<|zY X X X X<|zY X X X X<|zY X X X X<|zY X X X X<|zb X X X X X<|zcL (v := (.bool _)) X X X<|u_asB X X<|zaN ?_
    rintro w179 ⟨h180, s181⟩
    have st182 := st152.call0 s181
    refine ⟨rfl, h180, ⟨?_, trivial⟩, ?_, s181.le, st182⟩
    ·exact zw (by rw [zhR]; first | exact q_step0 %g3 g15 g157 hhd | exact q_step1 %g3 g15 g157 hhd hh1 | exact q_step2 g157 hhd | exact q_step3 g157)
    exact zav
   rintro h153 _ w156 ⟨le154, st155⟩
   refine zP<|O<|zo<|zaP X X t_om X<|zk X X<|Y ?_
   refine ⟨⟨k + 1, h153⟩, ⟨rfl, rfl, trivial⟩, ?_, ⟨((le132.trans le149).trans le154), st155.take 1, ?_⟩, ?_⟩
   ·exact zav
   ·first | omega | (simp; omega)
   show q.heads.length - ((k + 1)) < q.heads.length - k
   omega
  refine zaC<|zh<|zh<|zah<|O<|W.sr<|zai X X<|zbQ X X<|Y ?_
  refine zad rfl (fun c183 => ?_) (fun c183 => ?_)
  ·
   refine W.sr<|zz X X<|Y<|zB<|zI<|zd<|zd<|zI<|zd<|zc zdK ?_
   refine ⟨h131, _, rfl, st133.done, ?_⟩
   refine zar ?_
   (refine (zfW hz (poll_q (i := i) ?_)).symm; rw [quest_eq hq (show q.heads.length = k by omega)]; simpa using c183)
  refine zC<|zP<|O<|zo<|zaP X X t_om X<|zk X X<|Y ?_
  have l184 := (((le19.trans le36).trans le44).trans le48).trans le132
  refine ⟨⟨i + 1, h131⟩, ⟨rfl, trivial⟩, ?_, ⟨l184, st133.take 0, ?_, ?_⟩, ?_⟩
  ·exact zav
  ·first | omega | (simp; omega)
  ·exact zdf hA (by rw [quest_eq hq (show q.heads.length = k by omega)]; simpa using c183)
  show p.questions.length - ((i + 1)) < p.questions.length - i
  omega
 refine zaC<|zh<|zh<|zah<|O<|zj<|W.sr<|U X zx X zbp X X<|E (j := 4) st20.sub (hc5.up (le10.trans le19)) X X X zbI X<|have l185:=l14.trans le19;zaJ (p_f4.up l185) X zaA X<|zk X X<|Y<|zF ?_
 refine zat ([2, 11, 13] ++ t_rg 109 15) (G := Nat × Heap) (fun ⟨j, h186⟩ => [(109, .int .i64 (j : Int))]) (fun ⟨j, h186⟩ w' => Le h18 h186 ∧ St h w h186 w' [] ∧ (j ≤ p.voters.length) ∧ (∀ i, i < j → zed p i = true)) (fun ⟨j, h186⟩ => p.voters.length - j) ⟨0, h18⟩ ⟨rfl, trivial⟩ ⟨Le.refl _, st20, zaM, zaM⟩ ?_
 rintro ⟨j, h186⟩ _ w189 ⟨le187, st188, hj, hV⟩
 refine W.sr<|zaV X X X<|Y<|zj ?_
 refine zH rfl (fun c190 => ?_) (fun c190 => ?_)
 ·
  refine zC<|O<|zj<|zF<|zj ?_
  obtain ⟨v, hv⟩ : ∃ y, (p.voters)[j]? = some y := ⟨_, List.getElem?_eq_getElem (by omega)⟩
  refine zo<|zk X X<|zz X X<|Y<|W.sr<|have l191:=l185.trans le187;zy st188.sub (K0.up l191) X Tryz.isAgg163 Tryz.sizeOf163 X X<|zk X X<|Y<|zF ?_
  refine zat ([2, 13] ++ t_rg 113 10) (G := Nat × Heap) (fun ⟨k, h192⟩ => [(113, .int .i64 (k : Int))]) (fun ⟨k, h192⟩ w' => Le h186 h192 ∧ St h w h192 w' [] ∧ (k ≤ 5) ∧ (∀ m, m < k → zcf p v j m = true)) (fun ⟨k, h192⟩ => 5 - k) ⟨0, h186⟩ ⟨rfl, trivial⟩ ⟨Le.refl _, st188, zaM, zaM⟩ ?_
  rintro ⟨k, h192⟩ _ w195 ⟨le193, st194, hk5, hK⟩
  refine W.sr<|zaV X X X<|Y<|zj ?_
  refine zH rfl (fun c196 => ?_) (fun c196 => ?_)
  ·
   refine zC<|O<|zj<|zF<|zj ?_
   rcases (show (k : Int) = 0 ∨ (k : Int) = 1 ∨ (k : Int) = 2 ∨ (k : Int) = 3 ∨ (k : Int) = 4 by omega) with hk197 | hk197 | hk197 | hk197 | hk197
   ·
    refine zo ?_
    refine zq rfl rfl (zgg (us := [.func (.func 261) #[] #[]]) rfl rfl (show _ = ((0 : Nat) : Int) by rw [hk197]; rfl) rfl zdZ Tryz.isAgg162 zdJ rfl) ?_
    refine zae st194 Tryz.zeroValue162 X X<|fun b198 w199 st200=>zM st200 (k := 0) X X X (za X zap) zdJ X X X<|fun w201 st202=> ?_
    obtain ⟨h203, le204, hb205, st207⟩ := st202.freeze (k := 0) rfl
    have hc206 := Cells.of hb205
    refine Y<|W.sr<|U X zcS X Tryz.sizeOf160 X X<|E (j := 0) st207.sub hc206 X X X Tryz.isAgg160 X<|have l208:=(((le10.trans le19).trans le187).trans le193).trans le204;zy st207.sub (hc5.up l208) X zbV zbm X X<|zk X X ?_
    have l209 := (l191.trans le193).trans le204
    refine zdg (fs := []) (cs := []) st207 rfl rfl rfl rfl Tryz.call261 rfl (c_vote_asked_1 st207.sub (p := p) (p_f0.up l209) (p_f1.up l209) (p_f2.up l209) (p_f3.up l209) (p_f4.up l209) _ (by omega)) ?_
    intro r210 w211 h212 le213 st214 q215
    obtain rfl := q215
    refine zbQ X X<|Y ?_
    refine zad rfl (fun c216 => ?_) (fun c216 => ?_)
    ·
     refine W.sr<|zz X X<|Y<|zB<|zI<|zd<|zd<|zI<|zI<|zd<|zd<|zI<|zd<|zc zdK ?_
     refine ⟨h212, _, rfl, st214.done, ?_⟩
     refine zar ?_
     (refine (zfW hz (ask_no (k := k) hv (by have q_ := c216; rw [Int.toNat_natCast, hv] at q_; first | (obtain rfl : k = 0 := (by omega); simpa [zcf, inAll_one] using q_) | (obtain rfl : k = 1 := (by omega); simpa [zcf, inAll_one] using q_) | (obtain rfl : k = 2 := (by omega); simpa [zcf, inAll_one] using q_) | (obtain rfl : k = 3 := (by omega); simpa [zcf, inAll_one] using q_) | (obtain rfl : k = 4 := (by omega); simpa [zcf, inAll_one] using q_)))).symm)
    refine zC<|zP<|O<|zo<|zaP X X t_om X<|zk X X<|Y ?_
    refine ⟨⟨k + 1, h212⟩, ⟨rfl, trivial⟩, ?_, ⟨((le193.trans le204).trans le213), st214.take 0, ?_, ?_⟩, ?_⟩
    ·exact zav
    ·first | omega | (simp; omega)
    ·exact zdf hK (by have q_ := c216; rw [Int.toNat_natCast, hv] at q_; first | (obtain rfl : k = 0 := (by omega); simpa [zcf, inAll_one] using q_) | (obtain rfl : k = 1 := (by omega); simpa [zcf, inAll_one] using q_) | (obtain rfl : k = 2 := (by omega); simpa [zcf, inAll_one] using q_) | (obtain rfl : k = 3 := (by omega); simpa [zcf, inAll_one] using q_) | (obtain rfl : k = 4 := (by omega); simpa [zcf, inAll_one] using q_))
    show 5 - ((k + 1)) < 5 - k
    omega
   ·
    refine zo ?_
    refine zq rfl rfl (zgg (us := [.func (.func 262) #[] #[]]) rfl rfl (show _ = ((1 : Nat) : Int) by rw [hk197]; rfl) rfl zdZ Tryz.isAgg162 zdJ rfl) ?_
    refine zae st194 Tryz.zeroValue162 X X<|fun b217 w218 st219=>zM st219 (k := 0) X X X (za X zap) zdJ X X X<|fun w220 st221=> ?_
    obtain ⟨h222, le223, hb224, st226⟩ := st221.freeze (k := 0) rfl
    have hc225 := Cells.of hb224
    refine Y<|W.sr<|U X zcS X Tryz.sizeOf160 X X<|E (j := 0) st226.sub hc225 X X X Tryz.isAgg160 X<|have l227:=(((le10.trans le19).trans le187).trans le193).trans le223;zy st226.sub (hc5.up l227) X zbV zbm X X<|zk X X ?_
    have l228 := (l191.trans le193).trans le223
    refine zdg (fs := []) (cs := []) st226 rfl rfl rfl rfl Tryz.call262 rfl (c_vote_asked_2 st226.sub (p := p) (p_f0.up l228) (p_f1.up l228) (p_f2.up l228) (p_f3.up l228) (p_f4.up l228) _ (by omega)) ?_
    intro r229 w230 h231 le232 st233 q234
    obtain rfl := q234
    refine zbQ X X<|Y ?_
    refine zad rfl (fun c235 => ?_) (fun c235 => ?_)
    ·
     refine W.sr<|zz X X<|Y<|zB<|zI<|zd<|zd<|zI<|zI<|zd<|zd<|zI<|zd<|zc zdK ?_
     refine ⟨h231, _, rfl, st233.done, ?_⟩
     refine zar ?_
     (refine (zfW hz (ask_no (k := k) hv (by have q_ := c235; rw [Int.toNat_natCast, hv] at q_; first | (obtain rfl : k = 0 := (by omega); simpa [zcf, inAll_one] using q_) | (obtain rfl : k = 1 := (by omega); simpa [zcf, inAll_one] using q_) | (obtain rfl : k = 2 := (by omega); simpa [zcf, inAll_one] using q_) | (obtain rfl : k = 3 := (by omega); simpa [zcf, inAll_one] using q_) | (obtain rfl : k = 4 := (by omega); simpa [zcf, inAll_one] using q_)))).symm)
    refine zC<|zP<|O<|zo<|zaP X X t_om X<|zk X X<|Y ?_
    refine ⟨⟨k + 1, h231⟩, ⟨rfl, trivial⟩, ?_, ⟨((le193.trans le223).trans le232), st233.take 0, ?_, ?_⟩, ?_⟩
    ·exact zav
    ·first | omega | (simp; omega)
    ·exact zdf hK (by have q_ := c235; rw [Int.toNat_natCast, hv] at q_; first | (obtain rfl : k = 0 := (by omega); simpa [zcf, inAll_one] using q_) | (obtain rfl : k = 1 := (by omega); simpa [zcf, inAll_one] using q_) | (obtain rfl : k = 2 := (by omega); simpa [zcf, inAll_one] using q_) | (obtain rfl : k = 3 := (by omega); simpa [zcf, inAll_one] using q_) | (obtain rfl : k = 4 := (by omega); simpa [zcf, inAll_one] using q_))
    show 5 - ((k + 1)) < 5 - k
    omega
   ·
    refine zo ?_
    refine zq rfl rfl (zgg (us := [.func (.func 263) #[] #[]]) rfl rfl (show _ = ((2 : Nat) : Int) by rw [hk197]; rfl) rfl zdZ Tryz.isAgg162 zdJ rfl) ?_
    refine zae st194 Tryz.zeroValue162 X X<|fun b236 w237 st238=>zM st238 (k := 0) X X X (za X zap) zdJ X X X<|fun w239 st240=> ?_
    obtain ⟨h241, le242, hb243, st245⟩ := st240.freeze (k := 0) rfl
    have hc244 := Cells.of hb243
    refine Y<|W.sr<|U X zcS X Tryz.sizeOf160 X X<|E (j := 0) st245.sub hc244 X X X Tryz.isAgg160 X<|have l246:=(((le10.trans le19).trans le187).trans le193).trans le242;zy st245.sub (hc5.up l246) X zbV zbm X X<|zk X X ?_
    have l247 := (l191.trans le193).trans le242
    refine zdg (fs := []) (cs := []) st245 rfl rfl rfl rfl Tryz.call263 rfl (c_vote_asked_3 st245.sub (p := p) (p_f0.up l247) (p_f1.up l247) (p_f2.up l247) (p_f3.up l247) (p_f4.up l247) _ (by omega)) ?_
    intro r248 w249 h250 le251 st252 q253
    obtain rfl := q253
    refine zbQ X X<|Y ?_
    refine zad rfl (fun c254 => ?_) (fun c254 => ?_)
    ·
     refine W.sr<|zz X X<|Y<|zB<|zI<|zd<|zd<|zI<|zI<|zd<|zd<|zI<|zd<|zc zdK ?_
     refine ⟨h250, _, rfl, st252.done, ?_⟩
     refine zar ?_
     (refine (zfW hz (ask_no (k := k) hv (by have q_ := c254; rw [Int.toNat_natCast, hv] at q_; first | (obtain rfl : k = 0 := (by omega); simpa [zcf, inAll_one] using q_) | (obtain rfl : k = 1 := (by omega); simpa [zcf, inAll_one] using q_) | (obtain rfl : k = 2 := (by omega); simpa [zcf, inAll_one] using q_) | (obtain rfl : k = 3 := (by omega); simpa [zcf, inAll_one] using q_) | (obtain rfl : k = 4 := (by omega); simpa [zcf, inAll_one] using q_)))).symm)
    refine zC<|zP<|O<|zo<|zaP X X t_om X<|zk X X<|Y ?_
    refine ⟨⟨k + 1, h250⟩, ⟨rfl, trivial⟩, ?_, ⟨((le193.trans le242).trans le251), st252.take 0, ?_, ?_⟩, ?_⟩
    ·exact zav
    ·first | omega | (simp; omega)
    ·exact zdf hK (by have q_ := c254; rw [Int.toNat_natCast, hv] at q_; first | (obtain rfl : k = 0 := (by omega); simpa [zcf, inAll_one] using q_) | (obtain rfl : k = 1 := (by omega); simpa [zcf, inAll_one] using q_) | (obtain rfl : k = 2 := (by omega); simpa [zcf, inAll_one] using q_) | (obtain rfl : k = 3 := (by omega); simpa [zcf, inAll_one] using q_) | (obtain rfl : k = 4 := (by omega); simpa [zcf, inAll_one] using q_))
    show 5 - ((k + 1)) < 5 - k
    omega
   ·
    refine zo ?_
    refine zq rfl rfl (zgg (us := [.func (.func 264) #[] #[]]) rfl rfl (show _ = ((3 : Nat) : Int) by rw [hk197]; rfl) rfl zdZ Tryz.isAgg162 zdJ rfl) ?_
    refine zae st194 Tryz.zeroValue162 X X<|fun b255 w256 st257=>zM st257 (k := 0) X X X (za X zap) zdJ X X X<|fun w258 st259=> ?_
    obtain ⟨h260, le261, hb262, st264⟩ := st259.freeze (k := 0) rfl
    have hc263 := Cells.of hb262
    refine Y<|W.sr<|U X zcS X Tryz.sizeOf160 X X<|E (j := 0) st264.sub hc263 X X X Tryz.isAgg160 X<|have l265:=(((le10.trans le19).trans le187).trans le193).trans le261;zy st264.sub (hc5.up l265) X zbV zbm X X<|zk X X ?_
    have l266 := (l191.trans le193).trans le261
    refine zdg (fs := []) (cs := []) st264 rfl rfl rfl rfl Tryz.call264 rfl (c_vote_asked_4 st264.sub (p := p) (p_f0.up l266) (p_f1.up l266) (p_f2.up l266) (p_f3.up l266) (p_f4.up l266) _ (by omega) (by intro u hu_; exact asked_len hv (hK 2 (by omega)))) ?_
    intro r267 w268 h269 le270 st271 q272
    obtain rfl := q272
    refine zbQ X X<|Y ?_
    refine zad rfl (fun c273 => ?_) (fun c273 => ?_)
    ·
     refine W.sr<|zz X X<|Y<|zB<|zI<|zd<|zd<|zI<|zI<|zd<|zd<|zI<|zd<|zc zdK ?_
     refine ⟨h269, _, rfl, st271.done, ?_⟩
     refine zar ?_
     (refine (zfW hz (ask_no (k := k) hv (by have q_ := c273; rw [Int.toNat_natCast, hv] at q_; first | (obtain rfl : k = 0 := (by omega); simpa [zcf, inAll_one] using q_) | (obtain rfl : k = 1 := (by omega); simpa [zcf, inAll_one] using q_) | (obtain rfl : k = 2 := (by omega); simpa [zcf, inAll_one] using q_) | (obtain rfl : k = 3 := (by omega); simpa [zcf, inAll_one] using q_) | (obtain rfl : k = 4 := (by omega); simpa [zcf, inAll_one] using q_)))).symm)
    refine zC<|zP<|O<|zo<|zaP X X t_om X<|zk X X<|Y ?_
    refine ⟨⟨k + 1, h269⟩, ⟨rfl, trivial⟩, ?_, ⟨((le193.trans le261).trans le270), st271.take 0, ?_, ?_⟩, ?_⟩
    ·exact zav
    ·first | omega | (simp; omega)
    ·exact zdf hK (by have q_ := c273; rw [Int.toNat_natCast, hv] at q_; first | (obtain rfl : k = 0 := (by omega); simpa [zcf, inAll_one] using q_) | (obtain rfl : k = 1 := (by omega); simpa [zcf, inAll_one] using q_) | (obtain rfl : k = 2 := (by omega); simpa [zcf, inAll_one] using q_) | (obtain rfl : k = 3 := (by omega); simpa [zcf, inAll_one] using q_) | (obtain rfl : k = 4 := (by omega); simpa [zcf, inAll_one] using q_))
    show 5 - ((k + 1)) < 5 - k
    omega
   refine zo ?_
   refine zq rfl rfl (zgg (us := [.func (.func 265) #[] #[]]) rfl rfl (show _ = ((4 : Nat) : Int) by rw [hk197]; rfl) rfl zdZ Tryz.isAgg162 zdJ rfl) ?_
   refine zae st194 Tryz.zeroValue162 X X<|fun b274 w275 st276=>zM st276 (k := 0) X X X (za X zap) zdJ X X X<|fun w277 st278=> ?_
   obtain ⟨h279, le280, hb281, st283⟩ := st278.freeze (k := 0) rfl
   have hc282 := Cells.of hb281
   refine Y<|W.sr<|U X zcS X Tryz.sizeOf160 X X<|E (j := 0) st283.sub hc282 X X X Tryz.isAgg160 X<|have l284:=(((le10.trans le19).trans le187).trans le193).trans le280;zy st283.sub (hc5.up l284) X zbV zbm X X<|zk X X ?_
   have l285 := (l191.trans le193).trans le280
   refine zdg (fs := []) (cs := []) st283 rfl rfl rfl rfl Tryz.call265 rfl (c_vote_asked_5 st283.sub (p := p) (p_f0.up l285) (p_f1.up l285) (p_f2.up l285) (p_f3.up l285) (p_f4.up l285) _ (by omega)) ?_
   intro r286 w287 h288 le289 st290 q291
   obtain rfl := q291
   refine zbQ X X<|Y ?_
   refine zad rfl (fun c292 => ?_) (fun c292 => ?_)
   ·
    refine W.sr<|zz X X<|Y<|zB<|zI<|zd<|zd<|zI<|zI<|zd<|zd<|zI<|zd<|zc zdK ?_
    refine ⟨h288, _, rfl, st290.done, ?_⟩
    refine zar ?_
    (refine (zfW hz (ask_no (k := k) hv (by have q_ := c292; rw [Int.toNat_natCast, hv] at q_; first | (obtain rfl : k = 0 := (by omega); simpa [zcf, inAll_one] using q_) | (obtain rfl : k = 1 := (by omega); simpa [zcf, inAll_one] using q_) | (obtain rfl : k = 2 := (by omega); simpa [zcf, inAll_one] using q_) | (obtain rfl : k = 3 := (by omega); simpa [zcf, inAll_one] using q_) | (obtain rfl : k = 4 := (by omega); simpa [zcf, inAll_one] using q_)))).symm)
   refine zC<|zP<|O<|zo<|zaP X X t_om X<|zk X X<|Y ?_
   refine ⟨⟨k + 1, h288⟩, ⟨rfl, trivial⟩, ?_, ⟨((le193.trans le280).trans le289), st290.take 0, ?_, ?_⟩, ?_⟩
   ·exact zav
   ·first | omega | (simp; omega)
   ·exact zdf hK (by have q_ := c292; rw [Int.toNat_natCast, hv] at q_; first | (obtain rfl : k = 0 := (by omega); simpa [zcf, inAll_one] using q_) | (obtain rfl : k = 1 := (by omega); simpa [zcf, inAll_one] using q_) | (obtain rfl : k = 2 := (by omega); simpa [zcf, inAll_one] using q_) | (obtain rfl : k = 3 := (by omega); simpa [zcf, inAll_one] using q_) | (obtain rfl : k = 4 := (by omega); simpa [zcf, inAll_one] using q_))
   show 5 - ((k + 1)) < 5 - k
   omega
  refine zaC<|zh<|zh<|zah<|zP<|O<|zo<|zaP X X t_om X<|zk X X<|Y ?_
  refine ⟨⟨j + 1, h192⟩, ⟨rfl, trivial⟩, ?_, ⟨(le187.trans le193), st194, ?_, ?_⟩, ?_⟩
  ·exact zav
  ·first | omega | (simp; omega)
  ·exact zdf hV (ask_all hv hK (by omega))
  show p.voters.length - ((j + 1)) < p.voters.length - j
  omega
 refine zaC<|zh<|zh<|zah<|O<|W.sr<|zz X X<|Y<|zB<|zc zdK ?_
 refine ⟨h186, _, rfl, st188.done, ?_⟩
 refine zar ?_
 (refine (check_yes hz (poll_true ?_ ?_ hA ?_ hV ?_)).symm <;> omega)
end Go.Pk
