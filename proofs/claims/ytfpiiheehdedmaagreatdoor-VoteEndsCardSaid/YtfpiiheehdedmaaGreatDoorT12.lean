/- A PART OF THE PROOF: contracts of functions, each walked once (much of it printed by a program of the author's own). -/
import Derived.Test.YtfpiiheehdedmaaGreatDoorT2
import Derived.Test.YtfpiiheehdedmaaGreatDoorT3
import Derived.Test.YtfpiiheehdedmaaGreatDoorT8
import Derived.Test.YtfpiiheehdedmaaGreatDoorT7
import Derived.Test.YtfpiiheehdedmaaGreatDoorT1
set_option linter.unusedSimpArgs false
set_option linter.unusedVariables false
set_option maxRecDepth 4000
namespace Go.Pk
open Go Go.RowKit Go.Proofs
theorem zdb {h : Heap} {w : World} (hs : Sub h w) (n : Int) (lo : Int) (hi : Int) : Calls Tryz.prog 57 #[.int .i64 n, .int .i64 lo, .int .i64 hi] w (Rets h w (fun _ _ res_ => res_ = .bool (inB n lo hi))) := by
 refine zL (n := 15) Tryz.func57 X X X<|have st0:=t_s0 hs;W.sr<|zF X X<|Y<|W.sr<|zf X X<|zf X X<|zhC X X X<|zU X X ?_
 refine zab (d := 10) rfl (fun g1 => ?_) (fun g1 => ?_)
 ·
  refine Z X X X<|zf X X<|Z X X X<|zf X X<|Z X X X<|zi X X (r_leq X X)<|zQ (v := (.bool _)) X X X<|zF X X<|Y<|zw<|zb Tryz.results57 ?_
  refine ⟨h, _, rfl, st0.done, ?_⟩
  refine zq ?_
  first | (simp_all [inB]; done) | (simp_all [inB]; omega)
 refine M X X X X X<|M X X X X X<|M X X X X X<|zP (v := (.bool _)) X X X<|zF X X<|Y<|zw<|zb Tryz.results57 ?_
 refine ⟨h, _, rfl, st0.done, ?_⟩
 refine zq ?_
 first | (simp_all [inB]; done) | (simp_all [inB]; omega)
set_option maxHeartbeats 4000000 in
theorem c_postilref07_Poll {h : Heap} {w : World} (hs : Sub h w) {p : Poll} {p_v0 : Value} (p_f0 : Sl LChapter h p_v0 p.text.chapters) {p_v1 : Value} (p_f1 : Sl LRule h p_v1 p.lexicon.rules) {p_v2 : Value} (p_f2 : Sl LDecision h p_v2 p.lexicon.decisions) {p_v3 : Value} (p_f3 : Sl LQuestion h p_v3 p.questions) {p_v4 : Value} (p_f4 : Sl LVoter h p_v4 p.voters) (ht : zbf p.text = true) : Calls Tryz.prog 105 #[.agg #[p_v0, p_v1, p_v2, p_v3, p_v4]] w (Rets h w (fun _ _ res_ => res_ = .bool (zcF p))) := by
 refine zL (n := 162) Tryz.func105 X X X<|have st0:=t_s0 hs;have p_f0_b:=p_f0.le;have p_f1_b:=p_f1.le;have p_f2_b:=p_f2.le;have p_f3_b:=p_f3.le;have p_f4_b:=p_f4.le;W.sr<|zJ st0 (cs := [p_v0, p_v1, p_v2, p_v3, p_v4]) X X X<|fun b1 w2 h3 le4 hc5 st6=>zF X X<|Y<|zm<|W.sr<|O X zD X zbl X X<|U (j := 3) st6.sub hc5 X X X zbx X<|zaC (p_f3.up le4) X zaq X<|zdp X X X<|zU X X ?_
 refine zab (d := 14) rfl (fun g7 => ?_) (fun g7 => ?_)
 ·
  refine M X X X X X<|M X X X X X<|M X X X X X<|M X X X X X<|zQ (v := (.bool _)) X X X<|Y ?_
  refine zad rfl (fun c8 => ?_) (fun c8 => ?_)
  ·
   refine W.sr<|zF X X<|Y<|zw<|zc<|zb zeg ?_
   refine ⟨h3, _, rfl, st6.done, ?_⟩
   refine zq ?_
   first | (simp_all [zcF]; done) | (simp_all [zcF]; omega)
  cases c8
 refine Z X X X<|O X zD X zbi X X<|Z X X X<|U (j := 4) st6.sub hc5 X X X zbF X<|Z X X X<|zaC (p_f4.up le4) X zan X<|Z X X X<|zdp X X X<|zP (v := (.bool _)) X X X<|Y ?_
 refine zG rfl (fun c9 => ?_) (fun c9 => ?_)
 ·
  refine W.sr<|zF X X<|Y<|zw<|zc<|zb zeg ?_
  refine ⟨h3, _, rfl, st6.done, ?_⟩
  refine zq ?_
  first | (simp_all [zcF]; done) | (simp_all [zcF]; omega)
 refine zx<|E<|zm<|W.sr<|zt X X<|Y<|zH ?_
 refine zao ([2, 3, 4, 5] ++ t_rg 20 75) (G := Nat × Heap) (fun ⟨i, h10⟩ => [(3, .int .i64 (i : Int))]) (fun ⟨i, h10⟩ w' => Le h3 h10 ∧ St h w h10 w' [] ∧ (i ≤ p.questions.length) ∧ (∀ j, j < i → zeA p j = true)) (fun ⟨i, h10⟩ => p.questions.length - i) ⟨0, h3⟩ ⟨rfl, trivial⟩ ⟨Le.refl _, st6, zaP, zaP⟩ ?_
 rintro ⟨i, h10⟩ _ w13 ⟨le11, st12, hi, hA⟩
 refine zm<|W.sr<|zf X X<|O X zD X zbl X X<|U (j := 3) st12.sub (hc5.up le11) X X X zbx X<|have l14:=le4.trans le11;zaC (p_f3.up l14) X zaq X<|zaO X X X<|Y ?_
 refine zG rfl (fun c15 => ?_) (fun c15 => ?_)
 ·
  refine zx<|E<|zm<|zH<|W.sr<|O X zD X zbl X X<|U (j := 3) st12.sub (hc5.up le11) X X X zbx X<|zf X X ?_
  obtain ⟨q, hq⟩ : ∃ y_, (p.questions)[i]? = some y_ := t_ge (by omega)
  obtain ⟨b16, o17, _, he19, hc18, hr_q⟩ := Sl.elem (p_f3.up l14) hq
  obtain ⟨v20, rfl, f21⟩ := hr_q
  have f21_b := f21.le
  refine zT he19 X X (hk := X) (hu := zaq) (hz := zbB) X<|zz st12.sub hc18 X Tryz.isAgg84 zbB X X<|zX st12 Tryz.zeroValue84 X X<|fun b22 w23 st24=>zN st24 (k := 0) X X X (za X (za X (za X (za f21.one zau)))) zbB X X X<|fun w25 st26=> ?_
  obtain ⟨h27, le28, hb29, st31⟩ := st26.freeze (k := 0) rfl
  have hc30 := Cells.of hb29
  refine Y<|zm<|zm ?_
  refine W.join (t_rg 32 30) (G := Heap) (fun h32 => [(61, .bool (!(zeh p i q)))]) (fun h32 w' => Le h27 h32 ∧ St h w h32 w' [[]]) ?_ ?_
  ·
   refine zby Tryz.mixed t_kr (Cls h27 _) (Cls.drew st31)<|zR X zD X zax X X<|zC X X (fun _ hC => (zde (j := 0) hC.sub (hc5.up (le11.trans le28)) (us := [p_v0]) X X zbo zax X X))<|zR X zaw X zW X X<|zC X X (fun _ hC => (zde (j := 0) hC.sub hc30 (us := [.int .i64 (q.at_.chapter), .int .i64 (q.at_.line), .int .i64 (q.at_.word)]) X X zaL zW X X))<|have l36:=l14.trans le28;zcy X X (fun _ => zaV X Tryz.call113 X) (fun _ hC => Rets.quiet hC (zhn hC.sub (t := p.text) (p_f0.up l36) (p := q.at_)))<|u_not X X<|zdJ X X ?_
   refine zdn (d := 38) rfl (fun g37 => ?_) (fun g37 => ?_)
   ·
    refine zy X X X X X<|zy X X X X X<|zy X X X X X<|zam X X X X<|zam X X X X<|zam X X X X<|zam X X X X<|zam X X X X<|zam X X X X<|zam X X X X<|zam X X X X<|zam X X X X<|zam X X X X<|zam X X X X<|zy X X X X X<|zdx (v := (.bool _)) X X X<|zdJ X X<|zy X X X X X<|zy X X X X X<|zy X X X X X<|zy X X X X X<|zy X X X X X<|zdx (v := (.bool _)) X X X<|zbe ?_
    rintro w38 ⟨h39, s40⟩
    have st41 := st31.call0 s40
    refine ⟨rfl, h39, ⟨?_, trivial⟩, ?_, s40.le, st41⟩
    ·exact zq (by simp only [zeh]; first | (simp_all; done) | (rw [hq1]; simp_all; done) | (simp_all; omega))
    exact zal
   refine zk X X X<|zcr X X<|zk X X X<|u_gtr X X X<|zk X X X<|zdJ X X ?_
   refine zey (d := 41) rfl (fun g42 => ?_) (fun g42 => ?_)
   ·
    refine zk X X X<|zR X zD X zbl X X<|zk X X X<|zC X X (fun _ hC => (zd (j := 3) hC.sub (hc5.up (le11.trans le28)) X X X zbx))<|zk X X X<|zcr X X<|zk X X X<|u_sub X X t_om X<|zk X X X ?_
    obtain ⟨q1, hq1⟩ : ∃ y_, (p.questions)[(i - 1)]? = some y_ := t_ge (by omega)
    obtain ⟨b43, o44, _, he46, hc45, hr_q1⟩ := Sl.elem (p_f3.up l36) hq1
    obtain ⟨v47, rfl, f48⟩ := hr_q1
    have f48_b := f48.le
    refine zC rfl rfl (fun _ _ => (zat he46 rfl rfl (hk := (show _ = (((i - 1) : Nat) : Int) by omega)) (hu := zaq) (hz := zbB))) ?_
    refine zk X X X<|zR X zaw X zW X X<|zk X X X<|zC X X (fun _ hC => (zde (j := 0) hC.sub hc45 (us := [.int .i64 (q1.at_.chapter), .int .i64 (q1.at_.line), .int .i64 (q1.at_.word)]) X X zaL zW X X))<|zk X X X<|zR X zaw X zW X X<|zk X X X<|zC X X (fun _ hC => (zde (j := 0) hC.sub hc30 (us := [.int .i64 (q.at_.chapter), .int .i64 (q.at_.line), .int .i64 (q.at_.word)]) X X zaL zW X X))<|zk X X X<|zcy X X (fun _ => zaV X Tryz.call146 X) (fun _ hC => Rets.quiet hC (c_postilref01_Before hC.sub (a := q1.at_) (b := q.at_)))<|zk X X X<|u_not X X<|zk X X X<|zdx (v := (.bool _)) X X X<|zdf (v := (.bool _)) X X X<|zdJ X X ?_
    refine zdn (d := 55) rfl (fun g49 => ?_) (fun g49 => ?_)
    ·
     refine zy X X X X X<|zy X X X X X<|zy X X X X X<|zy X X X X X<|zy X X X X X<|zdx (v := (.bool _)) X X X<|zbe ?_
     rintro w50 ⟨h51, s52⟩
     have st53 := st31.call0 s52
     refine ⟨rfl, h51, ⟨?_, trivial⟩, ?_, s52.le, st53⟩
     ·exact zq (by simp only [zeh]; first | (simp_all; done) | (rw [hq1]; simp_all; done) | (simp_all; omega))
     exact zal
    refine zk X X X<|zR X zaw X zbO X X<|zk X X X<|zC X X (fun _ hC => (zd (j := 3) hC.sub hc30 X X X zcg))<|zk X X X<|u_len (f21.up le28) X zaQ X<|zk X X X<|zcy X X (fun _ => zaV X Tryz.call57 X) (fun _ hC => Rets.quiet hC (zdb hC.sub _ _ _))<|zk X X X<|u_not X X<|zdf (v := (.bool _)) X X X<|zbe ?_
    rintro w54 ⟨h55, s56⟩
    have st57 := st31.call0 s56
    refine ⟨rfl, h55, ⟨?_, trivial⟩, ?_, s56.le, st57⟩
    ·exact zq (by simp only [zeh]; first | (simp_all; done) | (rw [hq1]; simp_all; done) | (simp_all; omega))
    exact zal
   refine zy X X X X X<|zy X X X X X<|zy X X X X X<|zy X X X X X<|zy X X X X X<|zy X X X X X<|zy X X X X X<|zy X X X X X<|zy X X X X X<|zy X X X X X<|zy X X X X X<|zk X X X<|zdf (v := (.bool _)) X X X<|zdf (v := (.bool _)) X X X<|zdJ X X<|zk X X X<|zR X zaw X zbO X X<|zk X X X<|zC X X (fun _ hC => (zd (j := 3) hC.sub hc30 X X X zcg))<|zk X X X<|u_len (f21.up le28) X zaQ X<|zk X X X<|zcy X X (fun _ => zaV X Tryz.call57 X) (fun _ hC => Rets.quiet hC (zdb hC.sub _ _ _))<|zk X X X<|u_not X X<|zdf (v := (.bool _)) X X X<|zbe ?_
   rintro w58 ⟨h59, s60⟩
   have st61 := st31.call0 s60
   refine ⟨rfl, h59, ⟨?_, trivial⟩, ?_, s60.le, st61⟩
   ·exact zq (by simp only [zeh]; first | (simp_all; done) | (rw [hq1]; simp_all; done) | (simp_all; omega))
   exact zal
  rintro h32 _ w35 ⟨le33, st34⟩
  refine E ?_
  refine zad rfl (fun c62 => ?_) (fun c62 => ?_)
  ·
   refine W.sr<|zF X X<|Y<|zw<|zc<|zI<|zc<|zc<|zI<|zc<|zb zeg ?_
   refine ⟨h32, _, rfl, st34.done, ?_⟩
   refine zq ?_
   exact (poll_q (quest_no hq (by simpa using c62))).symm
  refine zx<|E<|zm ?_
  have hq0 := quest_ok (p := p) (i := i) (q := q) (by simpa using c62)
  refine zl<|zt X X<|Y<|zH ?_
  refine zao ([2, 5] ++ t_rg 62 33) (G := Nat × Heap) (fun ⟨k, h63⟩ => [(5, .int .i64 (k : Int))]) (fun ⟨k, h63⟩ w' => Le h32 h63 ∧ St h w h63 w' [[]] ∧ (k ≤ q.heads.length) ∧ (∀ j, j < k → zcV q.heads j = true)) (fun ⟨k, h63⟩ => q.heads.length - k) ⟨0, h32⟩ ⟨rfl, trivial⟩ ⟨Le.refl _, st34, zaP, zaP⟩ ?_
  rintro ⟨k, h63⟩ _ w66 ⟨le64, st65, hk, hB⟩
  refine zm<|W.sr<|zf X X<|O X zaw X zbO X X<|U (j := 3) st65.sub (hc30.up (le33.trans le64)) X X X zcg X<|zaC (f21.up ((le28.trans le33).trans le64)) X zaQ X<|zaO X X X<|Y ?_
  refine zG rfl (fun c67 => ?_) (fun c67 => ?_)
  ·
   refine zx<|E<|zm<|zH<|zm ?_
   refine W.join (t_rg 69 26) (G := Heap) (fun h68 => [(94, .bool (!(zcV q.heads k)))]) (fun h68 w' => Le h63 h68 ∧ St h w h68 w' [[]]) ?_ ?_
   ·
    refine zby Tryz.mixed t_kr (Cls h63 _) (Cls.drew st65)<|zR X zaw X zbO X X<|zC X X (fun _ hC => (zd (j := 3) hC.sub (hc30.up (le33.trans le64)) X X X zcg))<|zcr X X ?_
    obtain ⟨hd, hhd⟩ : ∃ y_, (q.heads)[k]? = some y_ := t_ge (by omega)
    obtain ⟨b72, o73, _, he75, hc74, hr_hd⟩ := Sl.elem (f21.up ((le28.trans le33).trans le64)) hhd
    obtain ⟨rfl, ls76, lu77⟩ := hr_hd
    simp only [big] at ls76
    refine zbp he75 X X (hk := X) (hu := zaQ) (hz := zah) X<|zC X X (fun _ hC => (zaz hC.sub hc74 X zbH zah X))<|zcy X X (fun _ => zaV X Tryz.call147 X) (fun _ hC => Rets.quiet hC (zeD hC.sub (hd := hd) zbk t_u8))<|u_not X X<|zdJ X X ?_
    refine zdn (d := 76) rfl (fun g78 => ?_) (fun g78 => ?_)
    ·
     refine zy X X X X X<|zy X X X X X<|zy X X X X X<|zam X X X X<|zam X X X X<|zam X X X X<|zam X X X X<|zam X X X X<|zam X X X X<|zam X X X X<|zam X X X X<|zam X X X X<|zam X X X X<|zam X X X X<|zam X X X X<|zam X X X X<|zy X X X X X<|zdx (v := (.bool _)) X X X<|zbe ?_
     rintro w79 ⟨h80, s81⟩
     have st82 := st65.call0 s81
     refine ⟨rfl, h80, ⟨?_, trivial⟩, ?_, s81.le, st82⟩
     ·exact zq (by simp only [zcV, hhd]; first | (simp_all; done) | (rw [hh1]; simp_all; done) | (simp_all; omega))
     exact zal
    refine zk X X X<|zcr X X<|zk X X X<|u_gtr X X X<|zk X X X<|zdJ X X ?_
    refine zey (d := 79) rfl (fun g83 => ?_) (fun g83 => ?_)
    ·
     refine zk X X X<|zR X zaw X zbO X X<|zk X X X<|zC X X (fun _ hC => (zd (j := 3) hC.sub (hc30.up (le33.trans le64)) X X X zcg))<|zk X X X<|zcr X X<|zk X X X<|u_sub X X t_om X<|zk X X X ?_
     obtain ⟨h1, hh1⟩ : ∃ y_, (q.heads)[(k - 1)]? = some y_ := t_ge (by omega)
     obtain ⟨b84, o85, _, he87, hc86, hr_h1⟩ := Sl.elem (f21.up ((le28.trans le33).trans le64)) hh1
     obtain ⟨rfl, ls88, lu89⟩ := hr_h1
     simp only [big] at ls88
     refine zC rfl rfl (fun _ _ => (zat he87 rfl rfl (hk := (show _ = (((k - 1) : Nat) : Int) by omega)) (hu := zaQ) (hz := zah))) ?_
     refine zk X X X<|zC X X (fun _ hC => (zaz hC.sub hc86 X zbH zah X))<|zk X X X<|zR X zaw X zbO X X<|zk X X X<|zC X X (fun _ hC => (zd (j := 3) hC.sub (hc30.up (le33.trans le64)) X X X zcg))<|zk X X X<|zcr X X<|zk X X X<|zbp he75 X X (hk := X) (hu := zaQ) (hz := zah) X<|zk X X X<|zC X X (fun _ hC => (zaz hC.sub hc74 X zbH zah X))<|zk X X X<|zcy X X (fun _ => zaV X Tryz.call148 X) (fun _ hC => Rets.quiet hC (c_postilref04_Less hC.sub (a := h1) zbk t_u8 (b := hd) zbk t_u8))<|zk X X X<|u_not X X<|zk X X X<|zdx (v := (.bool _)) X X X<|zdf (v := (.bool _)) X X X<|zbe ?_
     rintro w90 ⟨h91, s92⟩
     have st93 := st65.call0 s92
     refine ⟨rfl, h91, ⟨?_, trivial⟩, ?_, s92.le, st93⟩
     ·exact zq (by simp only [zcV, hhd]; first | (simp_all; done) | (rw [hh1]; simp_all; done) | (simp_all; omega))
     exact zal
    refine zy X X X X X<|zy X X X X X<|zy X X X X X<|zy X X X X X<|zy X X X X X<|zy X X X X X<|zy X X X X X<|zy X X X X X<|zy X X X X X<|zy X X X X X<|zy X X X X X<|zy X X X X X<|zy X X X X X<|zk X X X<|zdf (v := (.bool _)) X X X<|zdf (v := (.bool _)) X X X<|zbe ?_
    rintro w94 ⟨h95, s96⟩
    have st97 := st65.call0 s96
    refine ⟨rfl, h95, ⟨?_, trivial⟩, ?_, s96.le, st97⟩
    ·exact zq (by simp only [zcV, hhd]; first | (simp_all; done) | (rw [hh1]; simp_all; done) | (simp_all; omega))
    exact zal
   rintro h68 _ w71 ⟨le69, st70⟩
   refine E ?_
   refine zad rfl (fun c98 => ?_) (fun c98 => ?_)
   ·
    refine W.sr<|zF X X<|Y<|zw<|zI<|zc<|zc<|zI<|zI<|zc<|zc<|zI<|zc<|zb zeg ?_
    refine ⟨h68, _, rfl, st70.done, ?_⟩
    refine zq ?_
    exact (poll_q2 hq (k := k) (by simpa using c98)).symm
   refine zx<|zK<|E<|zl<|zf X X<|zay X X t_om X<|zt X X<|Y ?_
   refine ⟨⟨k + 1, h68⟩, ⟨rfl, trivial⟩, ?_, ⟨(le64.trans le69), st70, ?_, ?_⟩, ?_⟩
   ·exact zal
   ·first | omega | (simp; omega)
   ·exact zcU hB (by simpa using c98)
   show q.heads.length - ((k + 1)) < q.heads.length - k
   omega
  refine zaA<|zo<|zo<|zak<|zK<|E<|zl<|zf X X<|zay X X t_om X<|zt X X<|Y ?_
  have hqi : zeA p i = true := by simp only [zeA, hq, hq0.1, hq0.2.1, hq0.2.2, Bool.and_true, Bool.true_and]; exact zgI hB (by omega)
  have l99 := ((le11.trans le28).trans le33).trans le64
  refine ⟨⟨i + 1, h63⟩, ⟨rfl, trivial⟩, ?_, ⟨l99, st65.take 0, ?_, ?_⟩, ?_⟩
  ·exact zal
  ·first | omega | (simp; omega)
  ·exact zcU hA hqi
  show p.questions.length - ((i + 1)) < p.questions.length - i
  omega
 refine zaA<|zo<|zo<|zak<|E<|zm<|W.sr<|zt X X<|Y<|zH ?_
 refine zao ([2, 6, 7, 8, 9] ++ t_rg 95 67) (G := Nat × Heap) (fun ⟨i, h100⟩ => [(6, .int .i64 (i : Int))]) (fun ⟨i, h100⟩ w' => Le h10 h100 ∧ St h w h100 w' [] ∧ (i ≤ p.voters.length) ∧ (∀ j, j < i → zeb p j = true)) (fun ⟨i, h100⟩ => p.voters.length - i) ⟨0, h10⟩ ⟨rfl, trivial⟩ ⟨Le.refl _, st12, zaP, zaP⟩ ?_
 rintro ⟨i, h100⟩ _ w103 ⟨le101, st102, hj, hV⟩
 refine zm<|W.sr<|zf X X<|O X zD X zbi X X<|U (j := 4) st102.sub (hc5.up (le11.trans le101)) X X X zbF X<|have l104:=l14.trans le101;zaC (p_f4.up l104) X zan X<|zaO X X X<|Y ?_
 refine zG rfl (fun c105 => ?_) (fun c105 => ?_)
 ·
  refine zx<|E<|zm<|zH<|W.sr<|O X zD X zbi X X<|U (j := 4) st102.sub (hc5.up (le11.trans le101)) X X X zbF X<|zf X X ?_
  obtain ⟨v, hv⟩ : ∃ y_, (p.voters)[i]? = some y_ := t_ge (by omega)
  obtain ⟨b106, o107, _, he109, hc108, hr_v⟩ := Sl.elem (p_f4.up l104) hv
  obtain ⟨v110, rfl, f111⟩ := hr_v
  have f111_b := f111.le
  refine zT he109 X X (hk := X) (hu := zan) (hz := zbq) X<|zz st102.sub hc108 X Tryz.isAgg79 zbq X X<|zX st102 Tryz.zeroValue79 X X<|fun b112 w113 st114=>zN st114 (k := 0) X X X (za X (za X (za f111.one zau))) zbq X X X<|fun w115 st116=> ?_
  obtain ⟨h117, le118, hb119, st121⟩ := st116.freeze (k := 0) rfl
  have hc120 := Cells.of hb119
  refine Y<|zm<|zm ?_
  refine W.join (t_rg 107 19) (G := Heap) (fun h122 => [(125, .bool (!(voteB p v)))]) (fun h122 w' => Le h117 h122 ∧ St h w h122 w' [[]]) ?_ ?_
  ·
   refine zl<|O X zaW X zn X X<|U (j := 0) st121.sub hc120 X X X zA X<|zg st121 X X X Tryz.call57 X (zdb st121.sub _ _ _)<|fun r126 w127 h128 le129 st130 q131=> ?_
   obtain rfl := q131
   refine zbr X X<|zU X X ?_
   refine zas (d := 111) rfl (fun g132 => ?_) (fun g132 => ?_)
   ·
    refine M X X X X X<|M X X X X X<|M X X X X X<|M X X X X X<|zQ (v := (.bool _)) X X X<|zU X X<|M X X X X X<|M X X X X X<|M X X X X X<|M X X X X X<|M X X X X X<|M X X X X X<|M X X X X X<|zQ (v := (.bool _)) X X X<|zr ?_
    refine ⟨rfl, h128, ⟨?_, trivial⟩, ?_, le129, st130⟩
    ·exact zq (by simp only [voteB]; first | (simp_all; done) | (simp_all; omega))
    exact zal
   refine Z X X X<|O X zaW X zn X X<|Z X X X<|U (j := 1) st130.sub (hc120.up le129) X X X zA X<|Z X X X<|zg st130 X X X Tryz.call57 X (zdb st130.sub _ _ _)<|fun r133 w134 h135 le136 st137 q138=> ?_
   obtain rfl := q138
   refine Z X X X<|zbr X X<|zP (v := (.bool _)) X X X<|zU X X ?_
   refine zas (d := 117) rfl (fun g139 => ?_) (fun g139 => ?_)
   ·
    refine M X X X X X<|M X X X X X<|M X X X X X<|M X X X X X<|M X X X X X<|M X X X X X<|M X X X X X<|zQ (v := (.bool _)) X X X<|zr ?_
    refine ⟨rfl, h135, ⟨?_, trivial⟩, ?_, (le129.trans le136), st137⟩
    ·exact zq (by simp only [voteB]; first | (simp_all; done) | (simp_all; omega))
    exact zal
   refine Z X X X<|O X zaW X zbs X X<|Z X X X<|U (j := 2) st137.sub (hc120.up (le129.trans le136)) X X X zbI X<|Z X X X<|zaC (f111.up ((le118.trans le129).trans le136)) X ze X<|Z X X X<|O X zD X zbl X X<|Z X X X<|have l140:=(((le11.trans le101).trans le118).trans le129).trans le136;U (j := 3) st137.sub (hc5.up l140) X X X zbx X<|Z X X X<|have l141:=((l104.trans le118).trans le129).trans le136;zaC (p_f3.up l141) X zaq X<|Z X X X<|zcA X X X<|zP (v := (.bool _)) X X X<|zr ?_
   refine ⟨rfl, h135, ⟨?_, trivial⟩, ?_, (le129.trans le136), st137⟩
   ·exact zq (by simp only [voteB]; first | (simp_all; done) | (simp_all; omega))
   exact zal
  rintro h122 _ w125 ⟨le123, st124⟩
  refine E ?_
  refine zad rfl (fun c142 => ?_) (fun c142 => ?_)
  ·
   refine W.sr<|zF X X<|Y<|zw<|zc<|zI<|zc<|zc<|zI<|zc<|zb zeg ?_
   refine ⟨h122, _, rfl, st124.done, ?_⟩
   refine zq ?_
   exact (poll_v (vote_no hv (by simpa using c142))).symm
  refine zx<|E<|zm<|zm ?_
  have hv0 := vote_ok (p := p) (v := v) (by simpa using c142)
  refine zl<|zt X X<|Y<|zH ?_
  refine zao ([2, 8] ++ t_rg 126 14) (G := Nat × Heap) (fun ⟨k, h143⟩ => [(8, .int .i64 (k : Int))]) (fun ⟨k, h143⟩ w' => Le h122 h143 ∧ St h w h143 w' [[]] ∧ (k ≤ i) ∧ (((p.voters.take k).all fun u => decide (u.id ≠ v.id)) = true)) (fun ⟨k, h143⟩ => i - k) ⟨0, h122⟩ ⟨rfl, trivial⟩ ⟨Le.refl _, st124, zaP, zaP⟩ ?_
  rintro ⟨k, h143⟩ _ w146 ⟨le144, st145, hk, hI⟩
  refine zm<|W.sr<|zf X X<|zf X X<|zaO X X X<|Y ?_
  refine zG rfl (fun c147 => ?_) (fun c147 => ?_)
  ·
   refine zx<|E<|zm<|zH<|zm<|zby Tryz.mixed t_kr (Cls h143 _) (Cls.drew st145)<|zR X zD X zbi X X<|have l148:=(((le11.trans le101).trans le118).trans le123).trans le144;zC X X (fun _ hC => (zd (j := 4) hC.sub (hc5.up l148) X X X zbF))<|zcr X X ?_
   obtain ⟨u, hu⟩ : ∃ y_, (p.voters)[k]? = some y_ := t_ge (by omega)
   have l153 := ((l104.trans le118).trans le123).trans le144
   obtain ⟨b149, o150, _, he152, hc151, hr_u⟩ := Sl.elem (p_f4.up l153) hu
   obtain ⟨v154, rfl, f155⟩ := hr_u
   have f155_b := f155.le
   refine zbp he152 X X (hk := X) (hu := zan) (hz := zbq) X<|zR X zaW X zn X X<|zC X X (fun _ hC => (zd (j := 0) hC.sub hc151 X X X zA))<|zR X zaW X zn X X<|zC X X (fun _ hC => (zd (j := 0) hC.sub (hc120.up (le123.trans le144)) X X X zA))<|u_eql X X X<|zbe ?_
   rintro w156 ⟨h157, s158⟩
   have st159 := st145.call0 s158
   refine E ?_
   refine zG rfl (fun c160 => ?_) (fun c160 => ?_)
   ·
    refine W.sr<|zF X X<|Y<|zw<|zI<|zc<|zc<|zI<|zc<|zI<|zc<|zc<|zI<|zc<|zb zeg ?_
    refine ⟨h157, _, rfl, st159.done, ?_⟩
    refine zq ?_
    (refine (poll_v3 hv hu ?_ ?_).symm <;> first | omega | assumption)
   refine zx<|zK<|E<|zl<|zf X X<|zay X X t_om X<|zt X X<|Y ?_
   refine ⟨⟨k + 1, h157⟩, ⟨rfl, trivial⟩, ?_, ⟨(le144.trans s158.le), st159, ?_, ?_⟩, ?_⟩
   ·exact zal
   ·first | omega | (simp; omega)
   ·rw [all_snocB hu, hI]; simp_all
   show i - ((k + 1)) < i - k
   omega
  refine zaA<|zo<|zo<|zak<|E<|W.sr<|zt X X<|Y<|zH ?_
  refine zao ([2, 9] ++ t_rg 140 22) (G := Nat × Heap) (fun ⟨m, h161⟩ => [(9, .int .i64 (m : Int))]) (fun ⟨m, h161⟩ w' => Le h143 h161 ∧ St h w h161 w' [[]] ∧ (m ≤ v.votes.length) ∧ (∀ j, j < m → zgk p v j = true)) (fun ⟨m, h161⟩ => v.votes.length - m) ⟨0, h143⟩ ⟨rfl, trivial⟩ ⟨Le.refl _, st145, zaP, zaP⟩ ?_
  rintro ⟨m, h161⟩ _ w164 ⟨le162, st163, hm, hN⟩
  refine zm<|W.sr<|zf X X<|O X zaW X zbs X X<|U (j := 2) st163.sub (hc120.up ((le123.trans le144).trans le162)) X X X zbI X<|have l165:=((le118.trans le123).trans le144).trans le162;zaC (f111.up l165) X ze X<|zaO X X X<|Y ?_
  refine zG rfl (fun c166 => ?_) (fun c166 => ?_)
  ·
   refine zx<|E<|zm<|zH<|zm<|zby Tryz.mixed t_kr (Cls h161 _) (Cls.drew st163)<|zR X zaW X zbs X X<|zC X X (fun _ hC => (zd (j := 2) hC.sub (hc120.up ((le123.trans le144).trans le162)) X X X zbI))<|zcr X X ?_
   obtain ⟨n, hn⟩ : ∃ y_, (v.votes)[m]? = some y_ := t_ge (by omega)
   obtain ⟨b167, o168, _, he170, hc169, hr_n⟩ := Sl.elem (f111.up l165) hn
   obtain rfl := hr_n
   refine zbp he170 X X (hk := X) (hu := ze) (hz := zn) X<|zC X X (fun _ hC => (zd (j := 0) hC.sub hc169 X X X zA))<|zR X zD X zbl X X<|have l171:=((((le11.trans le101).trans le118).trans le123).trans le144).trans le162;zC X X (fun _ hC => (zd (j := 3) hC.sub (hc5.up l171) X X X zbx))<|zcr X X ?_
   obtain ⟨qk, hqk⟩ : ∃ y_, (p.questions)[m]? = some y_ := t_ge (by omega)
   have l176 := (((l104.trans le118).trans le123).trans le144).trans le162
   obtain ⟨b172, o173, _, he175, hc174, hr_qk⟩ := Sl.elem (p_f3.up l176) hqk
   obtain ⟨v177, rfl, f178⟩ := hr_qk
   have f178_b := f178.le
   refine zbp he175 X X (hk := X) (hu := zaq) (hz := zbB) X<|zR X zaw X zbO X X<|zC X X (fun _ hC => (zd (j := 3) hC.sub hc174 X X X zcg))<|u_len f178 X zaQ X<|u_sub X X t_om X<|zcy X X (fun _ => zaV X Tryz.call57 X) (fun _ hC => Rets.quiet hC (zdb hC.sub _ _ _))<|u_not X X<|zbe ?_
   rintro w179 ⟨h180, s181⟩
   have st182 := st163.call0 s181
   refine E ?_
   refine zad rfl (fun c183 => ?_) (fun c183 => ?_)
   ·
    refine W.sr<|zF X X<|Y<|zw<|zI<|zc<|zc<|zI<|zI<|zc<|zc<|zI<|zc<|zb zeg ?_
    refine ⟨h180, _, rfl, st182.done, ?_⟩
    refine zq ?_
    (refine (poll_v2 hv (k := m) ?_).symm; simp only [zgk, hn, hqk]; simp_all)
   refine zx<|zK<|E<|zl<|zf X X<|zay X X t_om X<|zt X X<|Y ?_
   refine ⟨⟨m + 1, h180⟩, ⟨rfl, trivial⟩, ?_, ⟨(le162.trans s181.le), st182, ?_, ?_⟩, ?_⟩
   ·exact zal
   ·first | omega | (simp; omega)
   ·exact zcU hN (by simp only [zgk, hn, hqk]; simp_all)
   show v.votes.length - ((m + 1)) < v.votes.length - m
   omega
  refine zaA<|zo<|zo<|zak<|zK<|E<|zl<|zf X X<|zay X X t_om X<|zt X X<|Y ?_
  have hvi : zeb p i = true := by simp only [zeb, hv, ziB, hv0.1, hv0.2.1, decide_eq_true hv0.2.2, Bool.and_true, Bool.true_and, Bool.and_eq_true]; exact ⟨zgI hN (by omega), by rw [← hI]; congr 1; rw [show k = i by omega]⟩
  have l184 := (((le101.trans le118).trans le123).trans le144).trans le162
  refine ⟨⟨i + 1, h161⟩, ⟨rfl, trivial⟩, ?_, ⟨l184, st163.take 0, ?_, ?_⟩, ?_⟩
  ·exact zal
  ·first | omega | (simp; omega)
  ·exact zcU hV hvi
  show p.voters.length - ((i + 1)) < p.voters.length - i
  omega
 refine zaA<|zo<|zo<|zak<|E<|W.sr<|zF X X<|Y<|zw<|zb zeg ?_
 refine ⟨h100, _, rfl, st102.done, ?_⟩
 refine zq ?_
 (refine (poll_true ?_ ?_ hA ?_ hV ?_).symm <;> omega)
theorem c_postilref07_Check {h : Heap} {w : World} (hs : Sub h w) {p : Poll} {p_v0 : Value} (p_f0 : Sl LChapter h p_v0 p.text.chapters) {p_v1 : Value} (p_f1 : Sl LRule h p_v1 p.lexicon.rules) {p_v2 : Value} (p_f2 : Sl LDecision h p_v2 p.lexicon.decisions) {p_v3 : Value} (p_f3 : Sl LQuestion h p_v3 p.questions) {p_v4 : Value} (p_f4 : Sl LVoter h p_v4 p.voters) : Calls Tryz.prog 59 #[.agg #[p_v0, p_v1, p_v2, p_v3, p_v4]] w (Rets h w (fun _ _ res_ => res_ = .int .i64 (zcw p))) := by
 refine zL (n := 15) Tryz.func59 X X X<|have st0:=t_s0 hs;have p_f0_b:=p_f0.le;have p_f1_b:=p_f1.le;have p_f2_b:=p_f2.le;have p_f3_b:=p_f3.le;have p_f4_b:=p_f4.le;W.sr<|zJ st0 (cs := [p_v0, p_v1, p_v2, p_v3, p_v4]) X X X<|fun b1 w2 h3 le4 hc5 st6=>zt X X<|Y<|zm<|W.sr<|O X zD X zax X X<|zag (j := 0) st6.sub hc5 (us := [p_v0]) X X zbo zax X X X<|O X zD X zaJ X X<|zag (j := 1) st6.sub hc5 (us := [p_v1, p_v2]) X X zca zaJ X X X<|zg st6 X X X Tryz.call104 X (c_postilref04_Check st6.sub (t := p.text) (p_f0.up le4) (x := p.lexicon) (p_f1.up le4) (p_f2.up le4))<|fun r7 w8 h9 le10 st11 q12=> ?_
 obtain rfl := q12
 refine zt X X<|Y<|W.sr<|zf X X<|zcA X X X<|Y ?_
 refine zG rfl (fun c13 => ?_) (fun c13 => ?_)
 ·
  refine W.sr<|zf X X<|zt X X<|Y<|zw<|zc<|zb Tryz.results59 ?_
  refine ⟨h9, _, rfl, st11.done, ?_⟩
  refine zac ?_
  simp_all [zcw]
 refine zx<|E<|zm<|W.sr<|zz st11.sub (hc5.up le10) X zbn zaI X X ?_
 have l14 := le4.trans le10
 refine zg st11 rfl rfl rfl Tryz.call105 rfl (c_postilref07_Poll st11.sub (p := p) (p_f0.up l14) (p_f1.up l14) (p_f2.up l14) (p_f3.up l14) (p_f4.up l14) (by exact zdO (by simpa using c13))) ?_
 intro r15 w16 h17 le18 st19 q20
 obtain rfl := q20
 refine zbr X X<|Y ?_
 refine zad rfl (fun c21 => ?_) (fun c21 => ?_)
 ·
  refine W.sr<|zt X X<|Y<|zw<|zc<|zb Tryz.results59 ?_
  refine ⟨h17, _, rfl, st19.done, ?_⟩
  refine zac ?_
  simp_all [zcw]
 refine zx<|E<|W.sr<|zt X X<|Y<|zw<|zb Tryz.results59 ?_
 refine ⟨h17, _, rfl, st19.done, ?_⟩
 refine zac ?_
 simp_all [zcw]
theorem c_postilref07_wrongs {h : Heap} {w : World} (hs : Sub h w) {v : Voter} {v_v0 : Value} (v_f0 : Sl LInt h v_v0 v.votes) {xs_v : Value} {xs : (List Int)} (xs_f : Sl LInt h xs_v xs) (hl : xs.length ≤ v.votes.length) (hb : xs.length ≤ 100) : Calls Tryz.prog 58 #[.agg #[.int .i64 v.id, .int .i64 v.wrong, v_v0], xs_v] w (Rets h w (fun _ _ res_ => res_ = .int .i64 (((zbb v xs : Nat) : Int)))) := by
 refine zL (n := 34) Tryz.func58 X X X<|have st0:=t_s0 hs;have v_f0_b:=v_f0.le;have xs_f_b:=xs_f.le;W.sr<|zJ st0 (cs := [.int .i64 (v.id), .int .i64 (v.wrong), v_v0]) X X X<|fun b1 w2 h3 le4 hc5 st6=>zt X X<|Y<|W.sr<|zt X X<|Y<|zm<|W.sr<|zt X X<|Y<|zH ?_
 refine zao (t_rg 5 28) (G := Nat × Heap) (fun ⟨k, h7⟩ => [(5, .int .i64 (zeP v xs k : Int)), (6, .int .i64 (k : Int))]) (fun ⟨k, h7⟩ w' => Le h3 h7 ∧ St h w h7 w' [] ∧ (k ≤ xs.length)) (fun ⟨k, h7⟩ => xs.length - k) ⟨0, h3⟩ ⟨rfl, rfl, trivial⟩ ⟨Le.refl _, st6, zaP⟩ ?_
 rintro ⟨k, h7⟩ _ w10 ⟨le8, st9, hk⟩
 have hwk := wrongK_le v xs k
 refine zm<|W.sr<|zf X X<|zO (v := xs_v) X X<|have l11:=le4.trans le8;zaC (xs_f.up l11) X ze X<|zaO X X X<|Y ?_
 refine zG rfl (fun c12 => ?_) (fun c12 => ?_)
 ·
  refine zx<|E<|zm<|zH<|zm<|zby Tryz.mixed t_kr (Cls h7 _) (Cls.drew st9)<|zR X zaW X zbs X X<|zC X X (fun _ hC => (zd (j := 2) hC.sub (hc5.up le8) X X X zbI))<|zcr X X ?_
  obtain ⟨a, ha⟩ : ∃ y_, (v.votes)[k]? = some y_ := t_ge (by omega)
  obtain ⟨b13, o14, _, he16, hc15, hr_a⟩ := Sl.elem (v_f0.up l11) ha
  obtain rfl := hr_a
  refine zbp he16 X X (hk := X) (hu := ze) (hz := zn) X<|zC X X (fun _ hC => (zd (j := 0) hC.sub hc15 X X X zA))<|u_geq X X X<|zdJ X X ?_
  refine zey (d := 19) rfl (fun g17 => ?_) (fun g17 => ?_)
  ·
   refine zk X X X<|zR X zaW X zbs X X<|zk X X X<|zC X X (fun _ hC => (zd (j := 2) hC.sub (hc5.up le8) X X X zbI))<|zk X X X<|zcr X X<|zk X X X<|zbp he16 X X (hk := X) (hu := ze) (hz := zn) X<|zk X X X<|zC X X (fun _ hC => (zd (j := 0) hC.sub hc15 X X X zA))<|zk X X X<|zdX (v := xs_v) X X<|zk X X X<|zcr X X<|zk X X X ?_
   obtain ⟨c, hc⟩ : ∃ y_, (xs)[k]? = some y_ := t_ge (by omega)
   obtain ⟨b18, o19, _, he21, hc20, hr_c⟩ := Sl.elem (xs_f.up l11) hc
   obtain rfl := hr_c
   refine zbp he21 X X (hk := X) (hu := ze) (hz := zn) X<|zk X X X<|zC X X (fun _ hC => (zd (j := 0) hC.sub hc20 X X X zA))<|zk X X X<|u_neq X X X<|zdx (v := (.bool _)) X X X<|zbe ?_
   rintro w22 ⟨h23, s24⟩
   have st25 := st9.call0 s24
   refine E ?_
   refine zG rfl (fun c26 => ?_) (fun c26 => ?_)
   ·
    refine zl<|zf X X<|zay X X t_om X<|zt X X<|zr<|zK<|E<|zl<|zf X X<|zay X X t_om X<|zt X X<|Y ?_
    refine ⟨⟨k + 1, h23⟩, ⟨?_, rfl, trivial⟩, ?_, ⟨(le8.trans s24.le), st25, ?_⟩, ?_⟩
    ·exact zac (by rw [zds]; first | (rw [zdI ha ?_]; simp; omega) | (rw [zcc ha hc]; simp_all; done) | (rw [zcc ha hc]; simp_all; omega))
    ·exact zal
    ·first | omega | (simp; omega)
    show xs.length - ((k + 1)) < xs.length - k
    omega
   refine zx<|zK<|E<|zl<|zf X X<|zay X X t_om X<|zt X X<|Y ?_
   refine ⟨⟨k + 1, h23⟩, ⟨?_, rfl, trivial⟩, ?_, ⟨(le8.trans s24.le), st25, ?_⟩, ?_⟩
   ·exact zac (by rw [zds]; first | (rw [zdI ha ?_]; simp; omega) | (rw [zcc ha hc]; simp_all; done) | (rw [zcc ha hc]; simp_all; omega))
   ·exact zal
   ·first | omega | (simp; omega)
   show xs.length - ((k + 1)) < xs.length - k
   omega
  refine zy X X X X X<|zy X X X X X<|zy X X X X X<|zy X X X X X<|zy X X X X X<|zy X X X X X<|zy X X X X X<|zy X X X X X<|zy X X X X X<|zy X X X X X<|zdf (v := (.bool _)) X X X<|zbe ?_
  rintro w27 ⟨h28, s29⟩
  have st30 := st9.call0 s29
  refine E ?_
  refine zad rfl (fun c31 => ?_) (fun c31 => ?_)
  ·
   cases c31
  refine zx<|zK<|E<|zl<|zf X X<|zay X X t_om X<|zt X X<|Y ?_
  refine ⟨⟨k + 1, h28⟩, ⟨?_, rfl, trivial⟩, ?_, ⟨(le8.trans s29.le), st30, ?_⟩, ?_⟩
  ·exact zac (by rw [zds]; first | (rw [zdI ha ?_]; simp; omega) | (rw [zcc ha hc]; simp_all; done) | (rw [zcc ha hc]; simp_all; omega))
  ·exact zal
  ·first | omega | (simp; omega)
  show xs.length - ((k + 1)) < xs.length - k
  omega
 refine zaA<|zo<|zo<|zak<|E<|W.sr<|zf X X<|zt X X<|Y<|zw<|zb Tryz.results58 ?_
 refine ⟨h7, _, rfl, st9.done, ?_⟩
 refine zac ?_
 rw [zbb, show xs.length = k by omega]; rfl
set_option maxHeartbeats 4000000 in
theorem c_postilref07_True {h : Heap} {w : World} (hs : Sub h w) {p : Poll} {p_v0 : Value} (p_f0 : Sl LChapter h p_v0 p.text.chapters) {p_v1 : Value} (p_f1 : Sl LRule h p_v1 p.lexicon.rules) {p_v2 : Value} (p_f2 : Sl LDecision h p_v2 p.lexicon.decisions) {p_v3 : Value} (p_f3 : Sl LQuestion h p_v3 p.questions) {p_v4 : Value} (p_f4 : Sl LVoter h p_v4 p.voters) {xs_v : Value} {xs : (List Int)} (xs_f : Sl LInt h xs_v xs) (hp : zcF p = true) (hb : xs.length ≤ 100) : Calls Tryz.prog 44 #[.agg #[p_v0, p_v1, p_v2, p_v3, p_v4], xs_v] w (Rets h w (fun _ _ res_ => res_ = .bool (zdd p xs))) := by
 refine zL (n := 54) Tryz.func44 X X X<|have st0:=t_s0 hs;have p_f0_b:=p_f0.le;have p_f1_b:=p_f1.le;have p_f2_b:=p_f2.le;have p_f3_b:=p_f3.le;have p_f4_b:=p_f4.le;have xs_f_b:=xs_f.le;have hpl:=zck hp;W.sr<|zJ st0 (cs := [p_v0, p_v1, p_v2, p_v3, p_v4]) X X X<|fun b1 w2 h3 le4 hc5 st6=>zF X X<|Y<|zm<|W.sr<|zO (v := xs_v) X X<|zaC (xs_f.up le4) X ze X<|O X zD X zbl X X<|U (j := 3) st6.sub hc5 X X X zbx X<|zaC (p_f3.up le4) X zaq X<|zcA X X X<|Y ?_
 refine zG rfl (fun c7 => ?_) (fun c7 => ?_)
 ·
  refine W.sr<|zF X X<|Y<|zw<|zc<|zb Tryz.results44 ?_
  refine ⟨h3, _, rfl, st6.done, ?_⟩
  refine zq ?_
  (simp [zdd]; omega)
 refine zx<|E<|zm<|W.sr<|zt X X<|Y<|zH ?_
 refine zao ([4, 5] ++ t_rg 13 20) (G := Nat × Heap) (fun ⟨i, h8⟩ => [(5, .int .i64 (i : Int))]) (fun ⟨i, h8⟩ w' => Le h3 h8 ∧ St h w h8 w' [] ∧ (i ≤ xs.length) ∧ (∀ j, j < i → inAt p xs j = true)) (fun ⟨i, h8⟩ => xs.length - i) ⟨0, h3⟩ ⟨rfl, trivial⟩ ⟨Le.refl _, st6, zaP, zaP⟩ ?_
 rintro ⟨i, h8⟩ _ w11 ⟨le9, st10, hi, hA⟩
 refine zm<|W.sr<|zf X X<|zO (v := xs_v) X X<|have l12:=le4.trans le9;zaC (xs_f.up l12) X ze X<|zaO X X X<|Y ?_
 refine zG rfl (fun c13 => ?_) (fun c13 => ?_)
 ·
  refine zx<|E<|zm<|zH<|zm<|zby Tryz.mixed t_kr (Cls h8 _) (Cls.drew st10)<|zdX (v := xs_v) X X<|zcr X X ?_
  obtain ⟨a, ha⟩ : ∃ y_, (xs)[i]? = some y_ := t_ge (by omega)
  obtain ⟨b14, o15, _, he17, hc16, hr_a⟩ := Sl.elem (xs_f.up l12) ha
  obtain rfl := hr_a
  refine zbp he17 X X (hk := X) (hu := ze) (hz := zn) X<|zC X X (fun _ hC => (zd (j := 0) hC.sub hc16 X X X zA))<|zR X zD X zbl X X<|zC X X (fun _ hC => (zd (j := 3) hC.sub (hc5.up le9) X X X zbx))<|zcr X X ?_
  obtain ⟨q, hq⟩ : ∃ y_, (p.questions)[i]? = some y_ := t_ge (by omega)
  obtain ⟨b18, o19, _, he21, hc20, hr_q⟩ := Sl.elem (p_f3.up l12) hq
  obtain ⟨v22, rfl, f23⟩ := hr_q
  have f23_b := f23.le
  refine zbp he21 X X (hk := X) (hu := zaq) (hz := zbB) X<|zR X zaw X zbO X X<|zC X X (fun _ hC => (zd (j := 3) hC.sub hc20 X X X zcg))<|u_len f23 X zaQ X<|u_sub X X t_om X<|zcy X X (fun _ => zaV X Tryz.call57 X) (fun _ hC => Rets.quiet hC (zdb hC.sub _ _ _))<|u_not X X<|zbe ?_
  rintro w24 ⟨h25, s26⟩
  have st27 := st10.call0 s26
  refine E ?_
  refine zad rfl (fun c28 => ?_) (fun c28 => ?_)
  ·
   refine W.sr<|zF X X<|Y<|zw<|zI<|zc<|zc<|zI<|zc<|zb Tryz.results44 ?_
   refine ⟨h25, _, rfl, st27.done, ?_⟩
   refine zq ?_
   (refine (true_no1 (k := i) ?_ ?_).symm; omega; simp only [inAt, ha, hq]; simp_all)
  refine zx<|zK<|E<|zl<|zf X X<|zay X X t_om X<|zt X X<|Y ?_
  refine ⟨⟨i + 1, h25⟩, ⟨rfl, trivial⟩, ?_, ⟨(le9.trans s26.le), st27, ?_, ?_⟩, ?_⟩
  ·exact zal
  ·first | omega | (simp; omega)
  ·exact zcU hA (by simp only [inAt, ha, hq]; simp_all)
  show xs.length - ((i + 1)) < xs.length - i
  omega
 refine zaA<|zo<|zo<|zak<|E<|zm<|W.sr<|zt X X<|Y<|zH ?_
 refine zao ([4, 6] ++ t_rg 33 21) (G := Nat × Heap) (fun ⟨k, h29⟩ => [(6, .int .i64 (k : Int))]) (fun ⟨k, h29⟩ w' => Le h8 h29 ∧ St h w h29 w' [] ∧ (k ≤ p.voters.length) ∧ (∀ v ∈ p.voters.take k, (zbb v xs : Int) ≤ v.wrong)) (fun ⟨k, h29⟩ => p.voters.length - k) ⟨0, h8⟩ ⟨rfl, trivial⟩ ⟨Le.refl _, st10, zaP, zaP⟩ ?_
 rintro ⟨k, h29⟩ _ w32 ⟨le30, st31, hk, hV⟩
 refine zm<|W.sr<|zf X X<|O X zD X zbi X X<|U (j := 4) st31.sub (hc5.up (le9.trans le30)) X X X zbF X<|have l33:=l12.trans le30;zaC (p_f4.up l33) X zan X<|zaO X X X<|Y ?_
 refine zG rfl (fun c34 => ?_) (fun c34 => ?_)
 ·
  refine zx<|E<|zm<|zH<|zm<|zby Tryz.mixed t_kr (Cls h29 _) (Cls.drew st31)<|zR X zD X zbi X X<|zC X X (fun _ hC => (zd (j := 4) hC.sub (hc5.up (le9.trans le30)) X X X zbF))<|zcr X X ?_
  obtain ⟨v, hv⟩ : ∃ y_, (p.voters)[k]? = some y_ := t_ge (by omega)
  obtain ⟨b35, o36, _, he38, hc37, hr_v⟩ := Sl.elem (p_f4.up l33) hv
  obtain ⟨v39, rfl, f40⟩ := hr_v
  have f40_b := f40.le
  refine zbp he38 X X (hk := X) (hu := zan) (hz := zbq) X<|zC X X (fun _ hC => (zaz hC.sub hc37 X Tryz.isAgg79 zbq X))<|zdX (v := xs_v) X X ?_
  have hvo := zfa hp (List.mem_of_getElem? hv)
  refine zcy rfl rfl (fun _ => zaV rfl Tryz.call58 rfl) (fun _ hC => Rets.quiet hC (c_postilref07_wrongs hC.sub (v := v) f40 (xs_f.up l33) (by omega) (by exact hb))) ?_
  refine zR X zD X zbi X X<|zC X X (fun _ hC => (zd (j := 4) hC.sub (hc5.up (le9.trans le30)) X X X zbF))<|zcr X X<|zbp he38 X X (hk := X) (hu := zan) (hz := zbq) X<|zR X zaW X zn X X<|zC X X (fun _ hC => (zd (j := 1) hC.sub hc37 X X X zA))<|u_gtr X X X<|zbe ?_
  rintro w41 ⟨h42, s43⟩
  have st44 := st31.call0 s43
  refine E ?_
  refine zG rfl (fun c45 => ?_) (fun c45 => ?_)
  ·
   refine W.sr<|zF X X<|Y<|zw<|zI<|zc<|zc<|zI<|zc<|zb Tryz.results44 ?_
   refine ⟨h42, _, rfl, st44.done, ?_⟩
   refine zq ?_
   (refine (true_no2 (List.mem_of_getElem? hv) ?_).symm; omega)
  refine zx<|zK<|E<|zl<|zf X X<|zay X X t_om X<|zt X X<|Y ?_
  refine ⟨⟨k + 1, h42⟩, ⟨rfl, trivial⟩, ?_, ⟨(le30.trans s43.le), st44, ?_, ?_⟩, ?_⟩
  ·exact zal
  ·first | omega | (simp; omega)
  ·exact all_snoc hV hv (by omega)
  show p.voters.length - ((k + 1)) < p.voters.length - k
  omega
 refine zaA<|zo<|zo<|zak<|E<|W.sr<|zF X X<|Y<|zw<|zb Tryz.results44 ?_
 refine ⟨h29, _, rfl, st31.done, ?_⟩
 refine zq ?_
 (refine (true_yes ?_ hA ?_ hV ?_).symm <;> omega)
end Go.Pk

namespace Go.Pk
open Go Go.RowKit Go.Proofs
end Go.Pk

namespace Go.Pk
open Go Go.RowKit Go.Proofs
end Go.Pk

namespace Go.Pk
open Go Go.RowKit Go.Proofs
end Go.Pk

namespace Go.Pk
open Go Go.RowKit Go.Proofs
end Go.Pk

namespace Go.Pk
open Go Go.RowKit Go.Proofs
theorem c_vote_in_1 {h : Heap} {w : World} (hs : Sub h w) (n : Int) {lo_b : Nat} {lo : Int} (lo_c : Cells h lo_b 0 [.int .i64 lo]) {hi_b : Nat} {hi : Int} (hi_c : Cells h hi_b 0 [.int .i64 hi]) : Calls Tryz.prog 102 #[.int .i64 n, .pointer (some ⟨lo_b, 0, none⟩), .pointer (some ⟨hi_b, 0, none⟩)] w (Rets h w (fun _ _ res_ => res_ = .bool ((decide (n < lo) || decide (hi < n))))) := by
 refine zL (n := 13) Tryz.func102 X X X<|have st0:=t_s0 hs;W.sr<|zF X X<|Y<|W.sr<|zf X X<|U (j := 0) st0.sub lo_c X X X zA X<|zaO X X X<|zU X X ?_
 refine zab (d := 8) rfl (fun g1 => ?_) (fun g1 => ?_)
 ·
  refine M X X X X X<|M X X X X X<|M X X X X X<|zQ (v := (.bool _)) X X X<|zF X X<|Y<|zw<|zb Tryz.results102 ?_
  refine ⟨h, _, rfl, st0.done, ?_⟩
  refine zq ?_
  first | (simp_all; done) | (simp_all; omega)
 refine Z X X X<|zf X X<|Z X X X<|U (j := 0) st0.sub hi_c X X X zA X<|Z X X X<|zdp X X X<|zP (v := (.bool _)) X X X<|zF X X<|Y<|zw<|zb Tryz.results102 ?_
 refine ⟨h, _, rfl, st0.done, ?_⟩
 refine zq ?_
 first | (simp_all; done) | (simp_all; omega)
theorem zeq {h : Heap} {w : World} (hs : Sub h w) (lo : Int) (hi : Int) {all__v : Value} {all_ : (List Int)} (all__f : Sl LInt h all__v all_) : Calls Tryz.prog 55 #[.int .i64 lo, .int .i64 hi, all__v] w (Rets h w (fun _ _ res_ => res_ = .bool (zcG all_ lo hi))) := by
 refine zL (n := 11) Tryz.func55 X X X<|have st0:=t_s0 hs;have all__f_b:=all__f.le;W.sr<|zJ st0 (cs := [.int .i64 lo]) X X X<|fun b1 w2 h3 le4 hc5 st6=>zJ st6 (cs := [.int .i64 hi]) X X X<|fun b7 w8 h9 le10 hc11 st12=>zF X X<|Y<|W.sr<|zO (v := all__v) X X<|zcH X X X ?_
 have l13 := le4.trans le10
 refine zg st12 rfl rfl rfl Tryz.call101 rfl (zdm st12.sub (all__f.up l13) (fun x_ => (decide ((x_) < (lo)) || decide ((hi) < (x_)))) Tryz.call102 (fun x_ h_ w_ vs_ le_ hs_ hx_ hr_ u_ hu_ => by cases hu_; cases hr_; exact c_vote_in_1 hs_ _ (lo := lo) ((hc5.up le10).up le_) (hi := hi) (hc11.up le_))) ?_
 intro r14 w15 h16 le17 st18 q19
 obtain rfl := q19
 refine zbr X X<|zF X X<|Y<|zw<|zb Tryz.results55 ?_
 refine ⟨h16, _, rfl, st18.done, ?_⟩
 refine zq ?_
 exact inAll_eq all_ lo hi
theorem zib {h : Heap} {w : World} (hs : Sub h w) (x : Int) (x_l : 0 ≤ x ∧ x ≤ 255) : Calls Tryz.prog 189 #[.int .u8 x] w (Rets h w (fun _ _ res_ => res_ = .bool (false))) := by
 refine zL (n := 6) Tryz.func189 X X X<|have st0:=t_s0 hs;W.sr<|zF X X<|Y<|W.sr<|zf X X<|zf X X<|zcA X X X<|zF X X<|Y<|zw<|zb Tryz.results189 ?_
 refine ⟨h, _, rfl, st0.done, ?_⟩
 refine zq ?_
 simp
theorem zhO {h : Heap} {w : World} (hs : Sub h w) (x : Str) (x_le : x.length ≤ 281474976710656) : Calls Tryz.prog 188 #[strV x] w (Rets h w (fun _ _ res_ => res_ = .bool (false))) := by
 refine zL (n := 6) Tryz.func188 X X X<|have st0:=t_s0 hs;W.sr<|zF X X<|Y<|W.sr<|zcd X X<|zcd X X<|zi X X (r_sneq X X)<|zF X X<|Y<|zw<|zb Tryz.results188 ?_
 refine ⟨h, _, rfl, st0.done, ?_⟩
 refine zq ?_
 simp
theorem c_cmp_Compare_uint8 {h : Heap} {w : World} (hs : Sub h w) (a : Int) (a_l : 0 ≤ a ∧ a ≤ 255) (b : Int) (b_l : 0 ≤ b ∧ b ≤ 255) : Calls Tryz.prog 142 #[.int .u8 a, .int .u8 b] w (Rets h w (fun _ _ res_ => res_ = .int .i64 (cmpI a b))) := by
 refine zL (n := 20) Tryz.func142 X X X<|have st0:=t_s0 hs;W.sr<|zt X X<|Y<|W.sr<|zf X X ?_
 refine zg st0 rfl rfl rfl Tryz.call189 rfl (zib st0.sub _ (by omega)) ?_
 intro r1 w2 h3 le4 st5 q6
 obtain rfl := q6
 refine zF X X<|Y<|W.sr<|zf X X ?_
 refine zg st5 rfl rfl rfl Tryz.call189 rfl (zib st5.sub _ (by omega)) ?_
 intro r7 w8 h9 le10 st11 q12
 obtain rfl := q12
 refine zF X X<|Y<|zm<|W.sr<|zU X X<|Y ?_
 refine zad rfl (fun c13 => ?_) (fun c13 => ?_)
 ·
  refine zm<|W.sr<|zU X X<|Y ?_
  refine zad rfl (fun c14 => ?_) (fun c14 => ?_)
  ·
   refine W.sr<|zt X X<|Y<|zw<|zc<|zc<|zb zft ?_
   refine ⟨h9, _, rfl, st11.done, ?_⟩
   refine zac ?_
   all_goals (unfold cmpI; repeat' split)
   all_goals (first | omega | simp_all | rfl)
  refine zx<|E<|W.sr<|zt X X<|Y<|zw<|zc<|zb zft ?_
  refine ⟨h9, _, rfl, st11.done, ?_⟩
  refine zac ?_
  all_goals (unfold cmpI; repeat' split)
  all_goals (first | omega | simp_all | rfl)
 refine zx<|E<|zm<|W.sr<|zU X X<|Y ?_
 refine zad rfl (fun c15 => ?_) (fun c15 => ?_)
 ·
  refine W.sr<|zt X X<|Y<|zw<|zc<|zb zft ?_
  refine ⟨h9, _, rfl, st11.done, ?_⟩
  refine zac ?_
  all_goals (unfold cmpI; repeat' split)
  all_goals (first | omega | simp_all | rfl)
 refine zx<|E<|zm<|W.sr<|zf X X<|zf X X<|zaO X X X<|Y ?_
 refine zG rfl (fun c16 => ?_) (fun c16 => ?_)
 ·
  refine W.sr<|zt X X<|Y<|zw<|zc<|zb zft ?_
  refine ⟨h9, _, rfl, st11.done, ?_⟩
  refine zac ?_
  all_goals (unfold cmpI; repeat' split)
  all_goals (first | omega | simp_all | rfl)
 refine zx<|E<|zm<|W.sr<|zf X X<|zf X X<|zdp X X X<|Y ?_
 refine zG rfl (fun c17 => ?_) (fun c17 => ?_)
 ·
  refine W.sr<|zt X X<|Y<|zw<|zc<|zb zft ?_
  refine ⟨h9, _, rfl, st11.done, ?_⟩
  refine zac ?_
  all_goals (unfold cmpI; repeat' split)
  all_goals (first | omega | simp_all | rfl)
 refine zx<|E<|W.sr<|zt X X<|Y<|zw<|zb zft ?_
 refine ⟨h9, _, rfl, st11.done, ?_⟩
 refine zac ?_
 all_goals (unfold cmpI; repeat' split)
 all_goals (first | omega | simp_all | rfl)
theorem c_cmp_Compare_string {h : Heap} {w : World} (hs : Sub h w) (a : Str) (a_le : a.length ≤ 281474976710656) (b : Str) (b_le : b.length ≤ 281474976710656) : Calls Tryz.prog 141 #[strV a, strV b] w (Rets h w (fun _ _ res_ => res_ = .int .i64 (cmpT a b))) := by
 refine zL (n := 20) Tryz.func141 X X X<|have st0:=t_s0 hs;W.sr<|zt X X<|Y<|W.sr<|zcd X X<|zg st0 X X X Tryz.call188 X (zhO st0.sub _ zbk)<|fun r1 w2 h3 le4 st5 q6=> ?_
 obtain rfl := q6
 refine zF X X<|Y<|W.sr<|zcd X X<|zg st5 X X X Tryz.call188 X (zhO st5.sub _ zbk)<|fun r7 w8 h9 le10 st11 q12=> ?_
 obtain rfl := q12
 refine zF X X<|Y<|zm<|W.sr<|zU X X<|Y ?_
 refine zad rfl (fun c13 => ?_) (fun c13 => ?_)
 ·
  refine zm<|W.sr<|zU X X<|Y ?_
  refine zad rfl (fun c14 => ?_) (fun c14 => ?_)
  ·
   refine W.sr<|zt X X<|Y<|zw<|zc<|zc<|zb zfu ?_
   refine ⟨h9, _, rfl, st11.done, ?_⟩
   refine zac ?_
   all_goals simp_all [cmpT, sLt]
  refine zx<|E<|W.sr<|zt X X<|Y<|zw<|zc<|zb zfu ?_
  refine ⟨h9, _, rfl, st11.done, ?_⟩
  refine zac ?_
  all_goals simp_all [cmpT, sLt]
 refine zx<|E<|zm<|W.sr<|zU X X<|Y ?_
 refine zad rfl (fun c15 => ?_) (fun c15 => ?_)
 ·
  refine W.sr<|zt X X<|Y<|zw<|zc<|zb zfu ?_
  refine ⟨h9, _, rfl, st11.done, ?_⟩
  refine zac ?_
  all_goals simp_all [cmpT, sLt]
 refine zx<|E<|zm<|W.sr<|zcd X X<|zcd X X<|zi X X (r_slss X X)<|Y ?_
 refine zad rfl (fun c16 => ?_) (fun c16 => ?_)
 ·
  refine W.sr<|zt X X<|Y<|zw<|zc<|zb zfu ?_
  refine ⟨h9, _, rfl, st11.done, ?_⟩
  refine zac ?_
  all_goals simp_all [cmpT, sLt]
 refine zx<|E<|zm<|W.sr<|zcd X X<|zcd X X<|zi X X (r_sgtr X X)<|Y ?_
 refine zad rfl (fun c17 => ?_) (fun c17 => ?_)
 ·
  refine W.sr<|zt X X<|Y<|zw<|zc<|zb zfu ?_
  refine ⟨h9, _, rfl, st11.done, ?_⟩
  refine zac ?_
  all_goals simp_all [cmpT, sLt]
 refine zx<|E<|W.sr<|zt X X<|Y<|zw<|zb zfu ?_
 refine ⟨h9, _, rfl, st11.done, ?_⟩
 refine zac ?_
 all_goals simp_all [cmpT, sLt]
theorem ziU {h : Heap} {w : World} (hs : Sub h w) {l_v : Value} {l : (List Int)} (l_f : Sl LInt h l_v l) : Calls Tryz.prog 65 #[l_v] w (Rets h w (fun _ _ res_ => res_ = .int .i64 ((orL l)))) := by
 refine zL (n := 18) Tryz.func65 X X X<|have st0:=t_s0 hs;have l_f_b:=l_f.le;W.sr<|zt X X<|Y<|W.sr<|zt X X<|Y<|zm<|W.sr<|zO (v := l_v) X X<|zaC l_f X ze X<|zf X X<|Y<|zH ?_
 refine zao ([2, 5] ++ t_rg 8 9) (G := Nat × Heap) (fun ⟨k, h1⟩ => [(8, .int .i64 (k : Int))]) (fun ⟨k, h1⟩ w' => Le h h1 ∧ St h w h1 w' [] ∧ (k ≤ l.length) ∧ (orL l = orL (l.drop k))) (fun ⟨k, h1⟩ => l.length - k) ⟨0, h⟩ ⟨rfl, trivial⟩ ⟨Le.refl _, st0, zaP, (by rfl)⟩ ?_
 rintro ⟨k, h1⟩ _ w4 ⟨le2, st3, hk, he⟩
 refine W.sr<|zaO X X X<|Y<|zm ?_
 refine zG rfl (fun c5 => ?_) (fun c5 => ?_)
 ·
  refine zx<|E<|zm<|zH<|W.sr ?_
  obtain ⟨a, ha⟩ : ∃ y_, (l)[k]? = some y_ := t_ge (by omega)
  obtain ⟨b6, o7, _, he9, hc8, hr_a⟩ := Sl.elem (l_f.up le2) ha
  obtain rfl := hr_a
  refine zT he9 X X (hk := X) (hu := ze) (hz := zn) X<|U (j := 0) st3.sub hc8 X X X zA X<|zt X X<|Y<|W.sr<|zf X X<|zf X X<|zcA X X X<|Y ?_
  refine zG rfl (fun c10 => ?_) (fun c10 => ?_)
  ·
   refine W.sr<|zf X X<|zt X X<|Y<|zw<|zI<|zc<|zc<|zI<|zc<|zb Tryz.results65 ?_
   refine ⟨h1, _, rfl, st3.done, ?_⟩
   refine zac ?_
   rw [he, orL_drop ha, if_pos (by simpa using c10)]
  refine zx<|zK<|E<|zl<|zay X X t_om X<|zf X X<|Y ?_
  refine ⟨⟨k + 1, h1⟩, ⟨rfl, trivial⟩, ?_, ⟨le2, st3, ?_, ?_⟩, ?_⟩
  ·exact zal
  ·first | omega | (simp; omega)
  ·rw [he, orL_drop ha, if_neg (by simpa using c10)]
  show l.length - ((k + 1)) < l.length - k
  omega
 refine zaA<|zo<|zo<|zak<|E<|W.sr<|zf X X<|zt X X<|Y<|zw<|zb Tryz.results65 ?_
 refine ⟨h1, _, rfl, st3.done, ?_⟩
 refine zac ?_
 rw [he, List.drop_eq_nil_of_le (by omega)]; rfl
theorem c_vote_places {h : Heap} {w : World} (hs : Sub h w) {a : Place} {b : Place} : Calls Tryz.prog 97 #[.agg #[.int .i64 a.chapter, .int .i64 a.line, .int .i64 a.word], .agg #[.int .i64 b.chapter, .int .i64 b.line, .int .i64 b.word]] w (Rets h w (fun _ _ res_ => res_ = .int .i64 ((orL [cmpI a.chapter b.chapter, cmpI a.line b.line, cmpI a.word b.word])))) := by
 refine zL (n := 22) Tryz.func97 X X X<|have st0:=t_s0 hs;W.sr<|zJ st0 (cs := [.int .i64 (a.chapter), .int .i64 (a.line), .int .i64 (a.word)]) X X X<|fun b1 w2 h3 le4 hc5 st6=>zJ st6 (cs := [.int .i64 (b.chapter), .int .i64 (b.line), .int .i64 (b.word)]) X X X<|fun b7 w8 h9 le10 hc11 st12=>zt X X<|Y<|zm<|zbt (er := ([], [], [], [], 0)) (dsts := [5, 6, 7, 8, 9, 10, 11, 12, 13, 14, 15, 16, 17, 18, 19, 20, 21, 4]) st12 Tryz.mixed<|zh 0 [] X t_kr t_kr X X (fun hD wD τD hL hS hO  => (zS X zaj X zn X))<|zh 1 [0] X t_kr t_kr X X (fun hD wD τD hL hS hO _ _ => (zd (j := 0) (hL.sub hS) (hc5.up le10) X X X zA))<|zh 2 [] X t_kr t_kr X X (fun hD wD τD hL hS hO  => (zS X zaj X zn X))<|zh 3 [0] X t_kr t_kr X X (fun hD wD τD hL hS hO _ _ => (zd (j := 0) (hL.sub hS) hc11 X X X zA)) ?_
 refine zaF 4 (.det (.int .i64 (cmpI ((a.chapter)) ((b.chapter))))) [2, 0] rfl t_kr t_kr ?_ ?_
 ·
  intro hD wD τD hL hS hO _ _ _ _
  have st13 := St.start hS
  refine zg st13 X X X Tryz.call106 X (zeV st13.sub _ _)<|fun r14 w15 h16 le17 st18 q19=> ?_
  obtain rfl := q19
  exact zr ⟨_, _, rfl, st18, (), rfl, trivial⟩
 refine zh 5 [] X t_kr t_kr X X (fun hD wD τD hL hS hO  => (zS X zaj X zn X))<|zh 6 [0] X t_kr t_kr X X (fun hD wD τD hL hS hO _ _ => (zd (j := 1) (hL.sub hS) (hc5.up le10) X X X zA))<|zh 7 [] X t_kr t_kr X X (fun hD wD τD hL hS hO  => (zS X zaj X zn X))<|zh 8 [0] X t_kr t_kr X X (fun hD wD τD hL hS hO _ _ => (zd (j := 1) (hL.sub hS) hc11 X X X zA)) ?_
 refine zaF 9 (.det (.int .i64 (cmpI ((a.line)) ((b.line))))) [2, 0, 4] rfl t_kr t_kr ?_ ?_
 ·
  intro hD wD τD hL hS hO _ _ _ _ _ _
  have st20 := St.start hS
  refine zg st20 X X X Tryz.call106 X (zeV st20.sub _ _)<|fun r21 w22 h23 le24 st25 q26=> ?_
  obtain rfl := q26
  exact zr ⟨_, _, rfl, st25, (), rfl, trivial⟩
 refine zh 10 [] X t_kr t_kr X X (fun hD wD τD hL hS hO  => (zS X zaj X zn X))<|zh 11 [0] X t_kr t_kr X X (fun hD wD τD hL hS hO _ _ => (zd (j := 2) (hL.sub hS) (hc5.up le10) X X X zA))<|zh 12 [] X t_kr t_kr X X (fun hD wD τD hL hS hO  => (zS X zaj X zn X))<|zh 13 [0] X t_kr t_kr X X (fun hD wD τD hL hS hO _ _ => (zd (j := 2) (hL.sub hS) hc11 X X X zA)) ?_
 refine zaF 14 (.det (.int .i64 (cmpI ((a.word)) ((b.word))))) [2, 0, 4] rfl t_kr t_kr ?_ ?_
 ·
  intro hD wD τD hL hS hO _ _ _ _ _ _
  have st27 := St.start hS
  refine zg st27 X X X Tryz.call106 X (zeV st27.sub _ _)<|fun r28 w29 h30 le31 st32 q33=> ?_
  obtain rfl := q33
  exact zr ⟨_, _, rfl, st32, (), rfl, trivial⟩
 refine zaF 15 (.res (fun h' res_ => Sl LInt h' res_ ([(cmpI ((a.chapter)) ((b.chapter))), (cmpI ((a.line)) ((b.line))), (cmpI ((a.word)) ((b.word)))])) (fun _ _ _ hl f => f.up hl)) [10, 5, 0] rfl t_kr t_kr ?_ ?_
 ·
  intro hD wD τD hL hS hO _ _ _ _ _ _
  have st34 := St.start hS
  refine zae (L := LInt) (xs := [(cmpI ((a.chapter)) ((b.chapter))), (cmpI ((a.line)) ((b.line))), (cmpI ((a.word)) ((b.word)))]) (cs := [.int .i64 (cmpI ((a.chapter)) ((b.chapter))), .int .i64 (cmpI ((a.line)) ((b.line))), .int .i64 (cmpI ((a.word)) ((b.word)))]) st34 (Enc.cons (L := LInt) (vs := [.int .i64 (cmpI ((a.chapter)) ((b.chapter)))]) (x := (cmpI ((a.chapter)) ((b.chapter)))) (h := hD) (X) (Enc.cons (L := LInt) (vs := [.int .i64 (cmpI ((a.line)) ((b.line)))]) (x := (cmpI ((a.line)) ((b.line)))) (h := hD) (X) (Enc.cons (L := LInt) (vs := [.int .i64 (cmpI ((a.word)) ((b.word)))]) (x := (cmpI ((a.word)) ((b.word)))) (h := hD) (X) Enc.nil))) X X X ze Tryz.info3 X X X t_kr<|fun v35 w36 h39 le40 f37 st38=> ?_
  exact zr ⟨_, _, rfl, st38, _, rfl, f37⟩
 refine zaF 16 (.det (.int .i64 ((orL (([(cmpI ((a.chapter)) ((b.chapter))), (cmpI ((a.line)) ((b.line))), (cmpI ((a.word)) ((b.word)))])))))) [0, 1] rfl t_kr t_kr ?_ ?_
 ·
  intro hD wD τD hL hS hO gv15_0 gf15_0 _ _
  have st41 := St.start hS
  refine zg st41 X X X Tryz.call65 X (ziU st41.sub gf15_0)<|fun r42 w43 h44 le45 st46 q47=> ?_
  obtain rfl := q47
  exact zr ⟨_, _, rfl, st46, (), rfl, trivial⟩
 refine zh 17 [16, 15, 14, 13, 12, 11, 10, 9, 8, 7, 6, 5, 4, 3, 2, 1, 0] X t_kr t_kr X X (fun hD wD τD hL hS hO _ _ _ _ _ _ _ _ _ _ _ _ _ _ _ _ _ _ _ _ _ _ _ _ _ _ _ _ _ _ gv15_0 gf15_0 _ _ => (r_asI X))<|zcj X X X X X X ⟨t_kr, X, t_kr, X, t_kr, X, X, t_kr, zcZ⟩<|fun hE48 w49 _ le50 st51 _ _ _ _ _ _ _ _ _ _ _ _ _ _ _ _ _ _ _ _ _ _ _ _ _ _ _ _ _ _ gv15_0x52 gf15_0x52 _ _ _ _=>AllDeps.fin X<|E<|zw<|zb Tryz.results97 ?_
 refine ⟨hE48, _, rfl, st51.done, ?_⟩
 refine zac ?_
 rfl
theorem c_vote_heads {h : Heap} {w : World} (hs : Sub h w) {a : Head} (a_l1 : a.stem.length ≤ 281474976710656) (a_l2 : 0 ≤ a.mark ∧ a.mark ≤ 255) {b : Head} (b_l1 : b.stem.length ≤ 281474976710656) (b_l2 : 0 ≤ b.mark ∧ b.mark ≤ 255) : Calls Tryz.prog 99 #[.agg #[strV a.stem, .int .u8 a.mark], .agg #[strV b.stem, .int .u8 b.mark]] w (Rets h w (fun _ _ res_ => res_ = .int .i64 ((orL [cmpT a.stem b.stem, cmpI a.mark b.mark])))) := by
 refine zL (n := 17) Tryz.func99 X X X<|have st0:=t_s0 hs;W.sr<|zJ st0 (cs := [strV (a.stem), .int .u8 (a.mark)]) X X X<|fun b1 w2 h3 le4 hc5 st6=>zJ st6 (cs := [strV (b.stem), .int .u8 (b.mark)]) X X X<|fun b7 w8 h9 le10 hc11 st12=>zt X X<|Y<|zm<|zbt (er := ([], [], [], [], 0)) (dsts := [5, 6, 7, 8, 9, 10, 11, 12, 13, 14, 15, 16, 4]) st12 Tryz.mixed<|zh 0 [] X t_kr t_kr X X (fun hD wD τD hL hS hO  => (zS X zbg X zai X))<|zh 1 [0] X t_kr t_kr X X (fun hD wD τD hL hS hO _ _ => (zd (j := 0) (hL.sub hS) (hc5.up le10) X X X zav))<|zh 2 [] X t_kr t_kr X X (fun hD wD τD hL hS hO  => (zS X zbg X zai X))<|zh 3 [0] X t_kr t_kr X X (fun hD wD τD hL hS hO _ _ => (zd (j := 0) (hL.sub hS) hc11 X X X zav)) ?_
 refine zaF 4 (.det (.int .i64 (cmpT ((a.stem)) ((b.stem))))) [2, 0] rfl t_kr t_kr ?_ ?_
 ·
  intro hD wD τD hL hS hO _ _ _ _
  have st13 := St.start hS
  refine zg st13 X X X Tryz.call141 X (c_cmp_Compare_string st13.sub _ zbk _ zbk)<|fun r14 w15 h16 le17 st18 q19=> ?_
  obtain rfl := q19
  exact zr ⟨_, _, rfl, st18, (), rfl, trivial⟩
 refine zh 5 [] X t_kr t_kr X X (fun hD wD τD hL hS hO  => (zS X zbg X zbm X))<|zh 6 [0] X t_kr t_kr X X (fun hD wD τD hL hS hO _ _ => (zd (j := 1) (hL.sub hS) (hc5.up le10) X X X zbL))<|zh 7 [] X t_kr t_kr X X (fun hD wD τD hL hS hO  => (zS X zbg X zbm X))<|zh 8 [0] X t_kr t_kr X X (fun hD wD τD hL hS hO _ _ => (zd (j := 1) (hL.sub hS) hc11 X X X zbL)) ?_
 refine zaF 9 (.det (.int .i64 (cmpI ((a.mark)) ((b.mark))))) [2, 0, 4] rfl t_kr t_kr ?_ ?_
 ·
  intro hD wD τD hL hS hO _ _ _ _ _ _
  have st20 := St.start hS
  refine zg st20 rfl rfl rfl Tryz.call142 rfl (c_cmp_Compare_uint8 st20.sub _ (by omega) _ (by omega)) ?_
  intro r21 w22 h23 le24 st25 q26
  obtain rfl := q26
  exact zr ⟨_, _, rfl, st25, (), rfl, trivial⟩
 refine zaF 10 (.res (fun h' res_ => Sl LInt h' res_ ([(cmpT ((a.stem)) ((b.stem))), (cmpI ((a.mark)) ((b.mark)))])) (fun _ _ _ hl f => f.up hl)) [5, 0] rfl t_kr t_kr ?_ ?_
 ·
  intro hD wD τD hL hS hO _ _ _ _
  have st27 := St.start hS
  refine zae (L := LInt) (xs := [(cmpT ((a.stem)) ((b.stem))), (cmpI ((a.mark)) ((b.mark)))]) (cs := [.int .i64 (cmpT ((a.stem)) ((b.stem))), .int .i64 (cmpI ((a.mark)) ((b.mark)))]) st27 (Enc.cons (L := LInt) (vs := [.int .i64 (cmpT ((a.stem)) ((b.stem)))]) (x := (cmpT ((a.stem)) ((b.stem)))) (h := hD) (X) (Enc.cons (L := LInt) (vs := [.int .i64 (cmpI ((a.mark)) ((b.mark)))]) (x := (cmpI ((a.mark)) ((b.mark)))) (h := hD) (X) Enc.nil)) X X X ze Tryz.info3 X X X t_kr<|fun v28 w29 h32 le33 f30 st31=> ?_
  exact zr ⟨_, _, rfl, st31, _, rfl, f30⟩
 refine zaF 11 (.det (.int .i64 ((orL (([(cmpT ((a.stem)) ((b.stem))), (cmpI ((a.mark)) ((b.mark)))])))))) [0, 1] rfl t_kr t_kr ?_ ?_
 ·
  intro hD wD τD hL hS hO gv10_0 gf10_0 _ _
  have st34 := St.start hS
  refine zg st34 X X X Tryz.call65 X (ziU st34.sub gf10_0)<|fun r35 w36 h37 le38 st39 q40=> ?_
  obtain rfl := q40
  exact zr ⟨_, _, rfl, st39, (), rfl, trivial⟩
 refine zh 12 [11, 10, 9, 8, 7, 6, 5, 4, 3, 2, 1, 0] X t_kr t_kr X X (fun hD wD τD hL hS hO _ _ _ _ _ _ _ _ _ _ _ _ _ _ _ _ _ _ _ _ gv10_0 gf10_0 _ _ => (r_asI X))<|zcj X X X X X X ⟨t_kr, X, t_kr, X, t_kr, X, X, t_kr, zcZ⟩<|fun hE41 w42 _ le43 st44 _ _ _ _ _ _ _ _ _ _ _ _ _ _ _ _ _ _ _ _ gv10_0x45 gf10_0x45 _ _ _ _=>AllDeps.fin X<|E<|zw<|zb Tryz.results99 ?_
 refine ⟨hE41, _, rfl, st44.done, ?_⟩
 refine zac ?_
 rfl
theorem c_vote_head_1 {h : Heap} {w : World} (hs : Sub h w) (b : Int) (b_l : 0 ≤ b ∧ b ≤ 255) : Calls Tryz.prog 140 #[.int .u8 b] w (Rets h w (fun _ _ res_ => res_ = .bool ((decide (b < 97) || decide (122 < b))))) := by
 refine zL (n := 9) Tryz.func140 X X X<|have st0:=t_s0 hs;W.sr<|zF X X<|Y<|W.sr<|zf X X<|zaO X X X<|zU X X ?_
 refine zab (d := 5) rfl (fun g1 => ?_) (fun g1 => ?_)
 ·
  refine M X X X X X<|M X X X X X<|zQ (v := (.bool _)) X X X<|zF X X<|Y<|zw<|zb Tryz.results140 ?_
  refine ⟨h, _, rfl, st0.done, ?_⟩
  refine zq ?_
  first | (simp_all; done) | (simp_all; omega)
 refine Z X X X<|zf X X<|Z X X X<|zdp X X X<|zP (v := (.bool _)) X X X<|zF X X<|Y<|zw<|zb Tryz.results140 ?_
 refine ⟨h, _, rfl, st0.done, ?_⟩
 refine zq ?_
 first | (simp_all; done) | (simp_all; omega)
theorem c_vote_head {h : Heap} {w : World} (hs : Sub h w) {hd : Head} (hd_l1 : hd.stem.length ≤ 281474976710656) (hd_l2 : 0 ≤ hd.mark ∧ hd.mark ≤ 255) : Calls Tryz.prog 98 #[.agg #[strV hd.stem, .int .u8 hd.mark]] w (Rets h w (fun _ _ res_ => res_ = .bool (zdV hd))) := by
 refine zL (n := 22) Tryz.func98 X X X<|have st0:=t_s0 hs;W.sr<|zJ st0 (cs := [strV (hd.stem), .int .u8 (hd.mark)]) X X X<|fun b1 w2 h3 le4 hc5 st6=>zF X X<|Y<|W.sr<|O X zbg X zai X X<|U (j := 0) st6.sub hc5 X X X zav X<|zcn X zar X<|zae (L := LInt) (xs := [((hd.stem).length : Int)]) (cs := [.int .i64 ((hd.stem).length : Int)]) st6 (Enc.cons (L := LInt) (vs := [.int .i64 ((hd.stem).length : Int)]) (x := ((hd.stem).length : Int)) (h := h3) (X) Enc.nil) X X X ze Tryz.info3 X X X t_kr<|fun v7 w8 h11 le12 f9 st10=>zg st10 X X X zfk X (zeq st10.sub _ _ f9)<|fun r13 w14 h15 le16 st17 q18=> ?_
 obtain rfl := q18
 refine zU X X ?_
 refine zas (d := 8) rfl (fun g19 => ?_) (fun g19 => ?_)
 ·
  refine Z X X X<|O X zbg X zbm X X<|Z X X X<|U (j := 1) st17.sub (hc5.up (le12.trans le16)) X X X zbL X<|Z X X X ?_
  refine zi rfl rfl (zgJ rfl rfl zbU (IntWalk.i64_in _ (by omega))) ?_
  refine Z X X X<|zae (L := LInt) (xs := [(hd.mark)]) (cs := [.int .i64 (hd.mark)]) st17 (Enc.cons (L := LInt) (vs := [.int .i64 (hd.mark)]) (x := (hd.mark)) (h := h15) (X) Enc.nil) X X X ze Tryz.info3 X X X t_kr<|fun v20 w21 h24 le25 f22 st23=>Z X X X<|zg st23 X X X zfk X (zeq st23.sub _ _ f22)<|fun r26 w27 h28 le29 st30 q31=> ?_
  obtain rfl := q31
  refine zQ (v := (.bool _)) X X X<|zU X X ?_
  refine zas (d := 15) rfl (fun g32 => ?_) (fun g32 => ?_)
  ·
   refine Z X X X<|O X zbg X zai X X<|Z X X X<|have l33:=((le12.trans le16).trans le25).trans le29;U (j := 0) st30.sub (hc5.up l33) X X X zav X<|Z X X X ?_
   refine OpsL.strBytes st30 (s := (hd.stem)) rfl (by first | assumption | omega | (simp; omega)) rfl zar Tryz.underlying215 Tryz.underlying5 zbm ?_
   intro v34 w35 h36 le37 f38 st39
   refine Z X X X ?_
   refine zg st39 rfl rfl rfl Tryz.call139 rfl (zee st39.sub f38 (fun x_ => (decide ((x_) < 97) || decide (122 < (x_)))) Tryz.call140 (fun x_ h_ w_ vs_ le_ hs_ hx_ hr_ u_ hu_ => by cases hu_; obtain ⟨hr1_, hr2_⟩ := hr_; cases hr1_; exact c_vote_head_1 hs_ _ hr2_)) ?_
   intro r40 w41 h42 le43 st44 q45
   obtain rfl := q45
   refine Z X X X<|zbr X X<|zQ (v := (.bool _)) X X X<|zF X X<|Y<|zw<|zb Tryz.results98 ?_
   refine ⟨h42, _, rfl, st44.done, ?_⟩
   refine zq ?_
   simp_all [zdV, wordB_eq, inAll_one]
  refine M X X X X X<|M X X X X X<|M X X X X X<|M X X X X X<|M X X X X X<|zP (v := (.bool _)) X X X<|zF X X<|Y<|zw<|zb Tryz.results98 ?_
  refine ⟨h28, _, rfl, st30.done, ?_⟩
  refine zq ?_
  simp_all [zdV, wordB_eq, inAll_one]
 refine M X X X X X<|M X X X X X<|M X X X X X<|M X X X X X<|M X X X X X<|zP (v := (.bool _)) X X X<|zU X X<|M X X X X X<|M X X X X X<|M X X X X X<|M X X X X X<|M X X X X X<|zP (v := (.bool _)) X X X<|zF X X<|Y<|zw<|zb Tryz.results98 ?_
 refine ⟨h15, _, rfl, st17.done, ?_⟩
 refine zq ?_
 simp_all [zdV, wordB_eq, inAll_one]
theorem c_vote_asked_1 {h : Heap} {w : World} (hs : Sub h w) {p : Poll} {p_v0 : Value} (p_f0 : Sl LChapter h p_v0 p.text.chapters) {p_v1 : Value} (p_f1 : Sl LRule h p_v1 p.lexicon.rules) {p_v2 : Value} (p_f2 : Sl LDecision h p_v2 p.lexicon.decisions) {p_v3 : Value} (p_f3 : Sl LQuestion h p_v3 p.questions) {p_v4 : Value} (p_f4 : Sl LVoter h p_v4 p.voters) (i : Int) (hi : 0 ≤ i ∧ i < (p.voters.length : Int)) : Calls Tryz.prog 261 #[.agg #[p_v0, p_v1, p_v2, p_v3, p_v4], .int .i64 i] w (Rets h w (fun _ _ res_ => res_ = .bool ((match p.voters[i.toNat]? with | some v => inB v.id 0 9999 | none => true)))) := by
 refine zL (n := 13) Tryz.func261 X X X ?_
 have st0 := t_s0 hs
 have p_f0_b := p_f0.le
 have p_f1_b := p_f1.le
 have p_f2_b := p_f2.le
 have p_f3_b := p_f3.le
 have p_f4_b := p_f4.le
 obtain ⟨v, hv⟩ : ∃ v, p.voters[i.toNat]? = some v := ⟨_, List.getElem?_eq_getElem (by omega)⟩
 refine W.sr<|zJ st0 (cs := [p_v0, p_v1, p_v2, p_v3, p_v4]) X X X<|fun b1 w2 h3 le4 hc5 st6=>zF X X<|Y<|W.sr<|O X zD X zbi X X<|U (j := 4) st6.sub hc5 X X X zbF X<|zf X X ?_
 obtain ⟨b7, o8, _, he10, hc9, hr_v⟩ := Sl.elem (p_f4.up le4) hv
 obtain ⟨v11, rfl, f12⟩ := hr_v
 have f12_b := f12.le
 refine zi rfl rfl (zat he10 rfl rfl (hk := (show _ = ((i.toNat : Nat) : Int) by omega)) (hu := zan) (hz := zbq)) ?_
 refine O X zaW X zn X X<|U (j := 0) st6.sub hc9 X X X zA X<|zae (L := LInt) (xs := [(v.id)]) (cs := [.int .i64 (v.id)]) st6 (Enc.cons (L := LInt) (vs := [.int .i64 (v.id)]) (x := (v.id)) (h := h3) (X) Enc.nil) X X X ze Tryz.info3 X X X t_kr<|fun v13 w14 h17 le18 f15 st16=>zg st16 X X X zfk X (zeq st16.sub _ _ f15)<|fun r19 w20 h21 le22 st23 q24=> ?_
 obtain rfl := q24
 refine zF X X<|Y<|zw<|zb Tryz.results261 ?_
 refine ⟨h21, _, rfl, st23.done, ?_⟩
 refine zq ?_
 simp [hv, inAll_one]
theorem c_vote_asked_2 {h : Heap} {w : World} (hs : Sub h w) {p : Poll} {p_v0 : Value} (p_f0 : Sl LChapter h p_v0 p.text.chapters) {p_v1 : Value} (p_f1 : Sl LRule h p_v1 p.lexicon.rules) {p_v2 : Value} (p_f2 : Sl LDecision h p_v2 p.lexicon.decisions) {p_v3 : Value} (p_f3 : Sl LQuestion h p_v3 p.questions) {p_v4 : Value} (p_f4 : Sl LVoter h p_v4 p.voters) (i : Int) (hi : 0 ≤ i ∧ i < (p.voters.length : Int)) : Calls Tryz.prog 262 #[.agg #[p_v0, p_v1, p_v2, p_v3, p_v4], .int .i64 i] w (Rets h w (fun _ _ res_ => res_ = .bool ((match p.voters[i.toNat]? with | some v => inB v.wrong 0 6 | none => true)))) := by
 refine zL (n := 13) Tryz.func262 X X X ?_
 have st0 := t_s0 hs
 have p_f0_b := p_f0.le
 have p_f1_b := p_f1.le
 have p_f2_b := p_f2.le
 have p_f3_b := p_f3.le
 have p_f4_b := p_f4.le
 obtain ⟨v, hv⟩ : ∃ v, p.voters[i.toNat]? = some v := ⟨_, List.getElem?_eq_getElem (by omega)⟩
 refine W.sr<|zJ st0 (cs := [p_v0, p_v1, p_v2, p_v3, p_v4]) X X X<|fun b1 w2 h3 le4 hc5 st6=>zF X X<|Y<|W.sr<|O X zD X zbi X X<|U (j := 4) st6.sub hc5 X X X zbF X<|zf X X ?_
 obtain ⟨b7, o8, _, he10, hc9, hr_v⟩ := Sl.elem (p_f4.up le4) hv
 obtain ⟨v11, rfl, f12⟩ := hr_v
 have f12_b := f12.le
 refine zi rfl rfl (zat he10 rfl rfl (hk := (show _ = ((i.toNat : Nat) : Int) by omega)) (hu := zan) (hz := zbq)) ?_
 refine O X zaW X zn X X<|U (j := 1) st6.sub hc9 X X X zA X<|zae (L := LInt) (xs := [(v.wrong)]) (cs := [.int .i64 (v.wrong)]) st6 (Enc.cons (L := LInt) (vs := [.int .i64 (v.wrong)]) (x := (v.wrong)) (h := h3) (X) Enc.nil) X X X ze Tryz.info3 X X X t_kr<|fun v13 w14 h17 le18 f15 st16=>zg st16 X X X zfk X (zeq st16.sub _ _ f15)<|fun r19 w20 h21 le22 st23 q24=> ?_
 obtain rfl := q24
 refine zF X X<|Y<|zw<|zb Tryz.results262 ?_
 refine ⟨h21, _, rfl, st23.done, ?_⟩
 refine zq ?_
 simp [hv, inAll_one]
theorem c_vote_asked_3 {h : Heap} {w : World} (hs : Sub h w) {p : Poll} {p_v0 : Value} (p_f0 : Sl LChapter h p_v0 p.text.chapters) {p_v1 : Value} (p_f1 : Sl LRule h p_v1 p.lexicon.rules) {p_v2 : Value} (p_f2 : Sl LDecision h p_v2 p.lexicon.decisions) {p_v3 : Value} (p_f3 : Sl LQuestion h p_v3 p.questions) {p_v4 : Value} (p_f4 : Sl LVoter h p_v4 p.voters) (i : Int) (hi : 0 ≤ i ∧ i < (p.voters.length : Int)) : Calls Tryz.prog 263 #[.agg #[p_v0, p_v1, p_v2, p_v3, p_v4], .int .i64 i] w (Rets h w (fun _ _ res_ => res_ = .bool ((match p.voters[i.toNat]? with | some v => decide (v.votes.length = p.questions.length) | none => true)))) := by
 refine zL (n := 16) Tryz.func263 X X X ?_
 have st0 := t_s0 hs
 have p_f0_b := p_f0.le
 have p_f1_b := p_f1.le
 have p_f2_b := p_f2.le
 have p_f3_b := p_f3.le
 have p_f4_b := p_f4.le
 obtain ⟨v, hv⟩ : ∃ v, p.voters[i.toNat]? = some v := ⟨_, List.getElem?_eq_getElem (by omega)⟩
 refine W.sr<|zJ st0 (cs := [p_v0, p_v1, p_v2, p_v3, p_v4]) X X X<|fun b1 w2 h3 le4 hc5 st6=>zF X X<|Y<|zm<|zby Tryz.mixed t_kr (Cls h3 _) (Cls.drew st6)<|zR X zD X zbi X X<|zC X X (fun _ hC => (zd (j := 4) hC.sub hc5 X X X zbF))<|zcr X X ?_
 obtain ⟨b7, o8, _, he10, hc9, hr_v⟩ := Sl.elem (p_f4.up le4) hv
 obtain ⟨v11, rfl, f12⟩ := hr_v
 have f12_b := f12.le
 refine zC rfl rfl (fun _ _ => (zat he10 rfl rfl (hk := (show _ = ((i.toNat : Nat) : Int) by omega)) (hu := zan) (hz := zbq))) ?_
 refine zR X zaW X zbs X X<|zC X X (fun _ hC => (zd (j := 2) hC.sub hc9 X X X zbI))<|u_len f12 X ze X<|zR X zD X zbl X X<|zC X X (fun _ hC => (zd (j := 3) hC.sub hc5 X X X zbx))<|u_len (p_f3.up le4) X zaq X<|u_eql X X X<|zgY X X<|zbe ?_
 rintro w13 ⟨h14, s15⟩
 have st16 := st6.call0 s15
 refine E<|zw<|zb Tryz.results263 ?_
 refine ⟨h14, _, rfl, st16.done, ?_⟩
 refine zq ?_
 simp only [hv]; rw [Bool.eq_iff_iff]; simp only [decide_eq_true_eq]; omega
theorem c_vote_asked_4 {h : Heap} {w : World} (hs : Sub h w) {p : Poll} {p_v0 : Value} (p_f0 : Sl LChapter h p_v0 p.text.chapters) {p_v1 : Value} (p_f1 : Sl LRule h p_v1 p.lexicon.rules) {p_v2 : Value} (p_f2 : Sl LDecision h p_v2 p.lexicon.decisions) {p_v3 : Value} (p_f3 : Sl LQuestion h p_v3 p.questions) {p_v4 : Value} (p_f4 : Sl LVoter h p_v4 p.voters) (i : Int) (hi : 0 ≤ i ∧ i < (p.voters.length : Int)) (hvl : ∀ v ∈ p.voters, v.votes.length = p.questions.length ∨ p.voters[i.toNat]? ≠ some v) : Calls Tryz.prog 264 #[.agg #[p_v0, p_v1, p_v2, p_v3, p_v4], .int .i64 i] w (Rets h w (fun _ _ res_ => res_ = .bool ((match p.voters[i.toNat]? with | some v => zhS p v | none => true)))) := by
 refine zL (n := 32) Tryz.func264 X X X ?_
 have st0 := t_s0 hs
 have p_f0_b := p_f0.le
 have p_f1_b := p_f1.le
 have p_f2_b := p_f2.le
 have p_f3_b := p_f3.le
 have p_f4_b := p_f4.le
 obtain ⟨v, hv⟩ : ∃ v, p.voters[i.toNat]? = some v := ⟨_, List.getElem?_eq_getElem (by omega)⟩
 have hvq : v.votes.length = p.questions.length := by rcases hvl v (List.mem_of_getElem? hv) with q_ | q_; exact q_; exact absurd hv q_
 refine W.sr<|zJ st0 (cs := [p_v0, p_v1, p_v2, p_v3, p_v4]) X X X<|fun b1 w2 h3 le4 hc5 st6=>zF X X<|Y<|zm<|W.sr<|O X zD X zbi X X<|U (j := 4) st6.sub hc5 X X X zbF X<|zf X X ?_
 obtain ⟨b7, o8, _, he10, hc9, hr_v⟩ := Sl.elem (p_f4.up le4) hv
 obtain ⟨v11, rfl, f12⟩ := hr_v
 have f12_b := f12.le
 refine zi rfl rfl (zat he10 rfl rfl (hk := (show _ = ((i.toNat : Nat) : Int) by omega)) (hu := zan) (hz := zbq)) ?_
 refine O X zaW X zbs X X<|U (j := 2) st6.sub hc9 X X X zbI X<|zaC f12 X ze X<|zf X X<|Y<|zH ?_
 refine zao ([4, 5, 6] ++ t_rg 14 18) (G := Nat × Heap) (fun ⟨k, h13⟩ => [(14, .int .i64 (k : Int))]) (fun ⟨k, h13⟩ w' => Le h3 h13 ∧ St h w h13 w' [] ∧ (k ≤ v.votes.length) ∧ (∀ j, j < k → zgk p v j = true)) (fun ⟨k, h13⟩ => v.votes.length - k) ⟨0, h3⟩ ⟨rfl, trivial⟩ ⟨Le.refl _, st6, zaP, zaP⟩ ?_
 rintro ⟨k, h13⟩ _ w16 ⟨le14, st15, hk, hN⟩
 refine W.sr<|zaO X X X<|Y<|zm ?_
 refine zG rfl (fun c17 => ?_) (fun c17 => ?_)
 ·
  refine zx<|E<|zm<|zH<|W.sr<|zf X X ?_
  obtain ⟨n, hn⟩ : ∃ y_, (v.votes)[k]? = some y_ := t_ge (by omega)
  obtain ⟨b18, o19, _, he21, hc20, hr_n⟩ := Sl.elem (f12.up le14) hn
  obtain rfl := hr_n
  refine zT he21 X X (hk := X) (hu := ze) (hz := zn) X<|U (j := 0) st15.sub hc20 X X X zA X<|zt X X<|zt X X<|Y<|W.sr<|O X zD X zbl X X<|U (j := 3) st15.sub (hc5.up le14) X X X zbx X<|zf X X ?_
  obtain ⟨q, hq⟩ : ∃ y_, (p.questions)[k]? = some y_ := t_ge (by omega)
  have l26 := le4.trans le14
  obtain ⟨b22, o23, _, he25, hc24, hr_q⟩ := Sl.elem (p_f3.up l26) hq
  obtain ⟨v27, rfl, f28⟩ := hr_q
  have f28_b := f28.le
  refine zT he25 X X (hk := X) (hu := zaq) (hz := zbB) X<|O X zaw X zbO X X<|U (j := 3) st15.sub hc24 X X X zcg X<|zaC f28 X zaQ X<|zim X X t_om X<|zf X X<|zae (L := LInt) (xs := [n]) (cs := [.int .i64 n]) st15 (Enc.cons (L := LInt) (vs := [.int .i64 n]) (x := n) (h := h13) (X) Enc.nil) X X X ze Tryz.info3 X X X t_kr<|fun v29 w30 h33 le34 f31 st32=>zg st32 X X X zfk X (zeq st32.sub _ _ f31)<|fun r35 w36 h37 le38 st39 q40=> ?_
  obtain rfl := q40
  refine zbr X X<|Y ?_
  refine zad rfl (fun c41 => ?_) (fun c41 => ?_)
  ·
   refine W.sr<|zF X X<|Y<|zw<|zI<|zc<|zc<|zI<|zc<|zb Tryz.results264 ?_
   refine ⟨h37, _, rfl, st39.done, ?_⟩
   refine zq ?_
   simp only [hv]
   exact (votesOk_no (k := k) (by simp only [zgk, hn, hq]; simpa [inAll_one] using c41)).symm
  refine zx<|zK<|E<|zl<|zay X X t_om X<|zf X X<|Y ?_
  refine ⟨⟨k + 1, h37⟩, ⟨rfl, trivial⟩, ?_, ⟨((le14.trans le34).trans le38), st39, ?_, ?_⟩, ?_⟩
  ·exact zal
  ·first | omega | (simp; omega)
  ·exact zcU hN (by simp only [zgk, hn, hq]; simpa [inAll_one] using c41)
  show v.votes.length - ((k + 1)) < v.votes.length - k
  omega
 refine zaA<|zo<|zo<|zak<|E<|W.sr<|zF X X<|Y<|zw<|zb Tryz.results264 ?_
 refine ⟨h13, _, rfl, st15.done, ?_⟩
 refine zq ?_
 simp only [hv]
 exact (zgI hN (by omega)).symm
theorem c_vote_asked_5_1 {h : Heap} {w : World} (hs : Sub h w) {u : Voter} {u_v0 : Value} (u_f0 : Sl LInt h u_v0 u.votes) {p_b : Nat} {p : Poll} {p_v0 : Value} (p_f0 : Sl LChapter h p_v0 p.text.chapters) {p_v1 : Value} (p_f1 : Sl LRule h p_v1 p.lexicon.rules) {p_v2 : Value} (p_f2 : Sl LDecision h p_v2 p.lexicon.decisions) {p_v3 : Value} (p_f3 : Sl LQuestion h p_v3 p.questions) {p_v4 : Value} (p_f4 : Sl LVoter h p_v4 p.voters) (p_c : Cells h p_b 0 [p_v0, p_v1, p_v2, p_v3, p_v4]) {i_b : Nat} {i : Int} (i_c : Cells h i_b 0 [.int .i64 i]) (hi : 0 ≤ i ∧ i < (p.voters.length : Int)) : Calls Tryz.prog 267 #[.agg #[.int .i64 u.id, .int .i64 u.wrong, u_v0], .pointer (some ⟨p_b, 0, none⟩), .pointer (some ⟨i_b, 0, none⟩)] w (Rets h w (fun _ _ res_ => res_ = .bool ((match p.voters[i.toNat]? with | some v => decide (u.id = v.id) | none => false)))) := by
 refine zL (n := 14) Tryz.func267 X X X ?_
 have st0 := t_s0 hs
 have u_f0_b := u_f0.le
 have p_f0_b := p_f0.le
 have p_f1_b := p_f1.le
 have p_f2_b := p_f2.le
 have p_f3_b := p_f3.le
 have p_f4_b := p_f4.le
 obtain ⟨v, hv⟩ : ∃ v, p.voters[i.toNat]? = some v := ⟨_, List.getElem?_eq_getElem (by omega)⟩
 refine W.sr<|zJ st0 (cs := [.int .i64 (u.id), .int .i64 (u.wrong), u_v0]) X X X<|fun b1 w2 h3 le4 hc5 st6=>zF X X<|Y<|zm<|zby Tryz.mixed t_kr (Cls h3 _) (Cls.drew st6)<|zR X zaW X zn X X<|zC X X (fun _ hC => (zd (j := 0) hC.sub hc5 X X X zA))<|zR X zD X zbi X X<|zC X X (fun _ hC => (zd (j := 4) hC.sub (p_c.up le4) X X X zbF))<|zC X X (fun _ hC => (zd (j := 0) hC.sub (i_c.up le4) X X X zA)) ?_
 obtain ⟨b7, o8, _, he10, hc9, hr_v⟩ := Sl.elem (p_f4.up le4) hv
 obtain ⟨v11, rfl, f12⟩ := hr_v
 have f12_b := f12.le
 refine zC rfl rfl (fun _ _ => (zat he10 rfl rfl (hk := (show _ = ((i.toNat : Nat) : Int) by omega)) (hu := zan) (hz := zbq))) ?_
 refine zR X zaW X zn X X<|zC X X (fun _ hC => (zd (j := 0) hC.sub hc9 X X X zA))<|u_eql X X X<|zgY X X<|zbe ?_
 rintro w13 ⟨h14, s15⟩
 have st16 := st6.call0 s15
 refine E<|zw<|zb Tryz.results267 ?_
 refine ⟨h14, _, rfl, st16.done, ?_⟩
 refine zq ?_
 simp only [hv]
theorem c_vote_asked_5 {h : Heap} {w : World} (hs : Sub h w) {p : Poll} {p_v0 : Value} (p_f0 : Sl LChapter h p_v0 p.text.chapters) {p_v1 : Value} (p_f1 : Sl LRule h p_v1 p.lexicon.rules) {p_v2 : Value} (p_f2 : Sl LDecision h p_v2 p.lexicon.decisions) {p_v3 : Value} (p_f3 : Sl LQuestion h p_v3 p.questions) {p_v4 : Value} (p_f4 : Sl LVoter h p_v4 p.voters) (i : Int) (hi : 0 ≤ i ∧ i < (p.voters.length : Int)) : Calls Tryz.prog 265 #[.agg #[p_v0, p_v1, p_v2, p_v3, p_v4], .int .i64 i] w (Rets h w (fun _ _ res_ => res_ = .bool ((match p.voters[i.toNat]? with | some v => (!((p.voters.take i.toNat).any fun u => decide (u.id = v.id))) | none => true)))) := by
 refine zL (n := 12) Tryz.func265 X X X ?_
 have st0 := t_s0 hs
 have p_f0_b := p_f0.le
 have p_f1_b := p_f1.le
 have p_f2_b := p_f2.le
 have p_f3_b := p_f3.le
 have p_f4_b := p_f4.le
 obtain ⟨v, hv⟩ : ∃ v, p.voters[i.toNat]? = some v := ⟨_, List.getElem?_eq_getElem (by omega)⟩
 refine W.sr<|zJ st0 (cs := [p_v0, p_v1, p_v2, p_v3, p_v4]) X X X<|fun b1 w2 h3 le4 hc5 st6=>zJ st6 (cs := [.int .i64 i]) X X X<|fun b7 w8 h9 le10 hc11 st12=>zF X X<|Y<|W.sr<|O X zD X zbi X X<|U (j := 4) st12.sub (hc5.up le10) X X X zbF X<|U (j := 0) st12.sub hc11 X X X zA X ?_
 have f13 := Sl.take p_f4 (k := i.toNat) (by omega)
 have l14 := le4.trans le10
 refine zi rfl rfl (r_slice_to_sl (p_f4.up l14) rfl rfl (hk := (show _ = ((i.toNat : Nat) : Int) by omega)) (by omega) zan zbq) ?_
 refine zcH X X X ?_
 refine zg st12 rfl rfl rfl Tryz.call266 rfl (zeC st12.sub (f13.up l14) (fun x_ => (match (p).voters[(i).toNat]? with | some v => decide ((x_).id = v.id) | none => false)) Tryz.call267 (fun x_ h_ w_ vs_ le_ hs_ hx_ hr_ u_ hu_ => by obtain ⟨v0_, rfl, f0_⟩ := hr_; cases hu_; exact c_vote_asked_5_1 hs_ (u := x_) f0_ (p := p) ((p_f0.up l14).up le_) ((p_f1.up l14).up le_) ((p_f2.up l14).up le_) ((p_f3.up l14).up le_) ((p_f4.up l14).up le_) ((hc5.up le10).up le_) (i := i) (hc11.up le_) (by exact hi))) ?_
 intro r15 w16 h17 le18 st19 q20
 obtain rfl := q20
 refine zbr X X<|zF X X<|Y<|zw<|zb Tryz.results265 ?_
 refine ⟨h17, _, rfl, st19.done, ?_⟩
 refine zq ?_
 simp only [hv]
end Go.Pk

namespace Go.Pk
open Go Go.RowKit Go.Proofs
set_option maxHeartbeats 4000000 in
theorem c_vote_Check {h : Heap} {w : World} (hs : Sub h w) {p : Poll} {p_v0 : Value} (p_f0 : Sl LChapter h p_v0 p.text.chapters) {p_v1 : Value} (p_f1 : Sl LRule h p_v1 p.lexicon.rules) {p_v2 : Value} (p_f2 : Sl LDecision h p_v2 p.lexicon.decisions) {p_v3 : Value} (p_f3 : Sl LQuestion h p_v3 p.questions) {p_v4 : Value} (p_f4 : Sl LVoter h p_v4 p.voters) (K1 : Cells h 1 0 Tryz.glob1) (K0 : Cells h 0 0 Tryz.glob0) : Calls Tryz.prog 40 #[.agg #[p_v0, p_v1, p_v2, p_v3, p_v4]] w (Rets h w (fun _ _ res_ => res_ = .int .i64 (zcw p))) := by
 refine zL (n := 124) Tryz.func40 X X X<|have st0:=t_s0 hs;have p_f0_b:=p_f0.le;have p_f1_b:=p_f1.le;have p_f2_b:=p_f2.le;have p_f3_b:=p_f3.le;have p_f4_b:=p_f4.le;W.sr<|zJ st0 (cs := [p_v0, p_v1, p_v2, p_v3, p_v4]) X X X<|fun b1 w2 h3 le4 hc5 st6=>zt X X<|Y<|zm<|W.sr<|O X zD X zax X X<|zag (j := 0) st6.sub hc5 (us := [p_v0]) X X zbo zax X X X<|O X zD X zaJ X X<|zag (j := 1) st6.sub hc5 (us := [p_v1, p_v2]) X X zca zaJ X X X<|zg st6 X X X Tryz.call96 X (zhv st6.sub (t := p.text) (p_f0.up le4) (x := p.lexicon) (p_f1.up le4) (p_f2.up le4) (K1.up le4))<|fun r7 w8 h9 le10 st11 q12=> ?_
 obtain rfl := q12
 refine zt X X<|Y<|W.sr<|zf X X<|zcA X X X<|Y ?_
 refine zG rfl (fun c13 => ?_) (fun c13 => ?_)
 ·
  refine W.sr<|zf X X<|zt X X<|Y<|zw<|zc<|zb zdM ?_
  refine ⟨h9, _, rfl, st11.done, ?_⟩
  refine zac ?_
  simp_all [zcw]
 refine zx<|E<|zm<|zm ?_
 have hz : zaH p.text p.lexicon = 0 := by simpa using c13
 have htx : zbf p.text = true := zdO hz
 refine zl<|O X zD X zbl X X<|U (j := 3) st11.sub (hc5.up le10) X X X zbx X<|have l14:=le4.trans le10;zaC (p_f3.up l14) X zaq X<|zdp X X X<|zU X X ?_
 refine zab (d := 26) rfl (fun g15 => ?_) (fun g15 => ?_)
 ·
  refine M X X X X X<|M X X X X X<|M X X X X X<|M X X X X X<|zQ (v := (.bool _)) X X X<|Y ?_
  refine zad rfl (fun c16 => ?_) (fun c16 => ?_)
  ·
   refine W.sr<|zt X X<|Y<|zw<|zc<|zb zdM ?_
   refine ⟨h9, _, rfl, st11.done, ?_⟩
   refine zac ?_
   (refine (zgc hz ?_).symm; simp [zcF]; omega)
  cases c16
 refine Z X X X<|O X zD X zbi X X<|Z X X X<|U (j := 4) st11.sub (hc5.up le10) X X X zbF X<|Z X X X<|zaC (p_f4.up l14) X zan X<|Z X X X<|zdp X X X<|zP (v := (.bool _)) X X X<|Y ?_
 refine zG rfl (fun c17 => ?_) (fun c17 => ?_)
 ·
  refine W.sr<|zt X X<|Y<|zw<|zc<|zb zdM ?_
  refine ⟨h9, _, rfl, st11.done, ?_⟩
  refine zac ?_
  (refine (zgc hz ?_).symm; simp [zcF]; omega)
 refine zx<|E<|zm<|W.sr<|O X zD X zbl X X<|U (j := 3) st11.sub (hc5.up le10) X X X zbx X<|zaC (p_f3.up l14) X zaq X<|zf X X<|Y<|zH ?_
 refine zao ([2] ++ t_rg 4 7 ++ t_rg 35 71) (G := Nat × Heap) (fun ⟨i, h18⟩ => [(35, .int .i64 (i : Int))]) (fun ⟨i, h18⟩ w' => Le h9 h18 ∧ St h w h18 w' [] ∧ (i ≤ p.questions.length) ∧ (∀ j, j < i → zeA p j = true)) (fun ⟨i, h18⟩ => p.questions.length - i) ⟨0, h9⟩ ⟨rfl, trivial⟩ ⟨Le.refl _, st11, zaP, zaP⟩ ?_
 rintro ⟨i, h18⟩ _ w21 ⟨le19, st20, hi, hA⟩
 refine W.sr<|zaO X X X<|Y<|zm ?_
 refine zG rfl (fun c22 => ?_) (fun c22 => ?_)
 ·
  refine zx<|E<|zm<|zH<|W.sr<|zf X X ?_
  obtain ⟨q, hq⟩ : ∃ y_, (p.questions)[i]? = some y_ := t_ge (by omega)
  have l27 := l14.trans le19
  obtain ⟨b23, o24, _, he26, hc25, hr_q⟩ := Sl.elem (p_f3.up l27) hq
  obtain ⟨v28, rfl, f29⟩ := hr_q
  have f29_b := f29.le
  refine zT he26 X X (hk := X) (hu := zaq) (hz := zbB) X<|zz st20.sub hc25 X Tryz.isAgg84 zbB X X<|zX st20 Tryz.zeroValue84 X X<|fun b30 w31 st32=>zt X X<|zN st32 (k := 0) X X X (za X (za X (za X (za f29.one zau)))) zbB X X X<|fun w33 st34=> ?_
  obtain ⟨h35, le36, hb37, st39⟩ := st34.freeze (k := 0) rfl
  have hc38 := Cells.of hb37
  refine Y<|W.sr<|O X zD X zax X X<|zag (j := 0) st39.sub (hc5.up ((le10.trans le19).trans le36)) (us := [p_v0]) X X zbo zax X X X<|O X zaw X zW X X<|zag (j := 0) st39.sub hc38 (us := [.int .i64 (q.at_.chapter), .int .i64 (q.at_.line), .int .i64 (q.at_.word)]) X X zaL zW X X X ?_
  have l40 := l27.trans le36
  have con := (zgO st39.sub (t := p.text) (p_f0.up l40) (p := q.at_))
  rw [htx] at con; simp only [Bool.true_and, if_true] at con
  refine zg st39 X X X Tryz.call85 X con<|fun r41 w42 h43 le44 st45 q46=> ?_
  obtain rfl := q46
  clear con
  refine zcE X X<|zM (v := (strV _)) X X X<|zM (v := (.int _ _)) X X X<|zfz X X<|zt X X<|Y<|zm ?_
  refine W.join ([8] ++ t_rg 48 26) (G := Heap) (fun h47 => [(8, .bool (zeh p i q))]) (fun h47 w' => Le h43 h47 ∧ St h w h47 w' [[]]) ?_ ?_
  ·
   rcases Bool.eq_false_or_eq_true (decide (((if zbw p.text q.at_ = true then (0 : Int) else 12)) = 0)) with g51 | g51
   ·
    have g51_r := g51
    replace g51 := t_ot g51
    rcases Bool.eq_false_or_eq_true ((zcG (([(q.heads.length : Int)])) (2) (3))) with g52 | g52
    ·
     have g52_r := g52
     rcases Bool.eq_false_or_eq_true (decide ((i : Int) = 0)) with g53 | g53
     ·
      have g53_r := g53
      replace g53 := t_ot g53
      refine zbt (er := ([], [], [], [], 0)) (dsts := [48, 49, 50, 51, 52, 53, 54, 55, 56, 57, 58, 59, 60, 61, 62, 63, 64, 65, 66, 67, 68, 69, 70, 71, 72, 73, 8]) st45 Tryz.mixed<|zh 0 [] X t_kr t_kr X X (fun hD wD τD hL hS hO  => (zha X))<|zh 1 [0] X t_kr t_kr X X (fun hD wD τD hL hS hO _ _ => (Run.lit (r_eql X X) g51_r))<|zh 2 [0] X t_kr t_kr X X (fun hD wD τD hL hS hO _ _ => (zeT X))<|zaU 3 [0] X t_kr t_kr X X X (fun hD wD τD hL hS hO _ _ => ⟨rfl, (zS X zaw X zbO X)⟩)<|zaU 4 [0, 1] X t_kr t_kr X X X (fun hD wD τD hL hS hO _ _ _ _ => ⟨rfl, (zd (j := 3) (hL.sub hS) (hc38.up le44) X X X zcg)⟩)<|zaU 5 [0, 2] X t_kr t_kr X X X (fun hD wD τD hL hS hO _ _ _ _ => ⟨rfl, (r_len (f29.up (le36.trans le44)) X zaQ)⟩) ?_
      refine zaF 6 (.res (fun h' res_ => Sl LInt h' res_ ([(q.heads.length : Int)])) (fun _ _ _ hl f => f.up hl)) [0, 3] rfl t_kr t_kr ?_ ?_
      ·
       intro hD wD τD hL hS hO _ _ _ _
       have st54 := St.start hS
       refine Z X X X<|zae (L := LInt) (xs := [(q.heads.length : Int)]) (cs := [.int .i64 (q.heads.length : Int)]) st54 (Enc.cons (L := LInt) (vs := [.int .i64 (q.heads.length : Int)]) (x := (q.heads.length : Int)) (h := hD) (X) Enc.nil) X X X ze Tryz.info3 X X X t_kr<|fun v55 w56 h59 le60 f57 st58=> ?_
       exact zr ⟨_, _, rfl, st58, _, rfl, f57⟩
      refine zaF 7 (.det (.bool (zcG (([(q.heads.length : Int)])) (2) (3)))) [0, 4] rfl t_kr t_kr ?_ ?_
      ·
       intro hD wD τD hL hS hO gv6_0 gf6_0 _ _
       have st61 := St.start hS
       refine Z X X X<|zg st61 X X X zfk X (zeq st61.sub _ _ gf6_0)<|fun r62 w63 h64 le65 st66 q67=> ?_
       obtain rfl := q67
       exact zr ⟨_, _, rfl, st66, (), rfl, trivial⟩
      refine zh 8 [5, 0] X t_kr t_kr X X (fun hD wD τD hL hS hO _ _ _ _ => (Run.lit (zhs (v := (.bool _)) X X) g52_r))<|zh 9 [0, 1] X t_kr t_kr X X (fun hD wD τD hL hS hO _ _ _ _ => (zeT X))<|zaU 10 [0] X t_kr t_kr X X X (fun hD wD τD hL hS hO _ _ => ⟨rfl, (zha X)⟩)<|zaU 11 [0, 1] X t_kr t_kr X X X (fun hD wD τD hL hS hO _ _ _ _ => ⟨rfl, (Run.lit (r_eql X X) g53_r)⟩)<|zaU 12 [0, 2] X t_kr t_kr X X X (fun hD wD τD hL hS hO _ _ _ _ => ⟨rfl, (zeT X)⟩)<|zaE 13 [0] X t_kr t_kr X X X X (fun hD wD τD hL hS hO _ _ => X)<|zaE 14 [0, 1] X t_kr t_kr X X X X (fun hD wD τD hL hS hO _ _ _ _ => X)<|zaE 15 [2] X t_kr t_kr X X X X (fun hD wD τD hL hS hO _ _ => X)<|zaE 16 [0, 3] X t_kr t_kr X X X X (fun hD wD τD hL hS hO _ _ _ _ => X)<|zaE 17 [2, 0, 4] X t_kr t_kr X X X X (fun hD wD τD hL hS hO _ _ _ _ _ _ => X)<|zaE 18 [0, 5] X t_kr t_kr X X X X (fun hD wD τD hL hS hO _ _ _ _ => X)<|zaE 19 [0, 6] X t_kr t_kr X X X X (fun hD wD τD hL hS hO _ _ _ _ => X)<|zaE 20 [7] X t_kr t_kr X X X X (fun hD wD τD hL hS hO _ _ => X)<|zaE 21 [0, 8] X t_kr t_kr X X X X (fun hD wD τD hL hS hO _ _ _ _ => X)<|zaE 22 [2, 0, 9] X t_kr t_kr X X X X (fun hD wD τD hL hS hO _ _ _ _ _ _ => X)<|zaE 23 [0, 10] X t_kr t_kr X X X X (fun hD wD τD hL hS hO _ _ _ _ => X)<|zaU 24 [11, 0, 14] X t_kr t_kr X X X (fun hD wD τD hL hS hO _ _ _ _ _ _ => ⟨rfl, (zhs (v := (.bool _)) X X)⟩)<|zh 25 [15, 0] X t_kr t_kr X X (fun hD wD τD hL hS hO _ _ _ _ => (zhs (v := (.bool _)) X X))<|zh 26 [25, 24, 23, 22, 21, 20, 19, 18, 17, 16, 15, 14, 13, 12, 11, 10, 9, 8, 7, 6, 5, 4, 3, 2, 1, 0] X t_kr t_kr X X (fun hD wD τD hL hS hO _ _ _ _ _ _ _ _ _ _ _ _ gv6_0 gf6_0 _ _ _ _ _ _ _ _ _ _ _ _ _ _ _ _ _ _ _ _ _ _ _ _ _ _ _ _ _ _ _ _ _ _ _ _ _ _ => (r_asB X))<|zcj X X X X X X ⟨t_kr, X, t_kr, X, t_kr, X, X, t_kr, zcZ⟩<|fun hE68 w69 _ le70 st71 _ _ _ _ _ _ _ _ _ _ _ _ gv6_0x72 gf6_0x72 _ _ _ _ _ _ _ _ _ _ _ _ _ _ _ _ _ _ _ _ _ _ _ _ _ _ _ _ _ _ _ _ _ _ _ _ _ _ _ _=>AllDeps.fin X ?_
      refine ⟨rfl, hE68, ⟨?_, trivial⟩, ?_, le70, st71⟩
      ·exact zq (by first | exact q_init0 g51 g52 g53 | exact q_init1 g51 g52 g53 hq1 | exact q_init2 g53 | exact q_init3 g53)
      exact zal
     have g53_r := g53
     replace g53 := t_of g53
     have l73 := ((le10.trans le19).trans le36).trans le44
     obtain ⟨q1, hq1⟩ : ∃ y_, (p.questions)[(i - 1)]? = some y_ := t_ge (by omega)
     have l78 := l40.trans le44
     obtain ⟨b74, o75, _, he77, hc76, hr_q1⟩ := Sl.elem (p_f3.up l78) hq1
     obtain ⟨v79, rfl, f80⟩ := hr_q1
     have f80_b := f80.le
     refine zbt (er := ([], [], [], [], 0)) (dsts := [48, 49, 50, 51, 52, 53, 54, 55, 56, 57, 58, 59, 60, 61, 62, 63, 64, 65, 66, 67, 68, 69, 70, 71, 72, 73, 8]) st45 Tryz.mixed<|zh 0 [] X t_kr t_kr X X (fun hD wD τD hL hS hO  => (zha X))<|zh 1 [0] X t_kr t_kr X X (fun hD wD τD hL hS hO _ _ => (Run.lit (r_eql X X) g51_r))<|zh 2 [0] X t_kr t_kr X X (fun hD wD τD hL hS hO _ _ => (zeT X))<|zaU 3 [0] X t_kr t_kr X X X (fun hD wD τD hL hS hO _ _ => ⟨rfl, (zS X zaw X zbO X)⟩)<|zaU 4 [0, 1] X t_kr t_kr X X X (fun hD wD τD hL hS hO _ _ _ _ => ⟨rfl, (zd (j := 3) (hL.sub hS) (hc38.up le44) X X X zcg)⟩)<|zaU 5 [0, 2] X t_kr t_kr X X X (fun hD wD τD hL hS hO _ _ _ _ => ⟨rfl, (r_len (f29.up (le36.trans le44)) X zaQ)⟩) ?_
     refine zaF 6 (.res (fun h' res_ => Sl LInt h' res_ ([(q.heads.length : Int)])) (fun _ _ _ hl f => f.up hl)) [0, 3] rfl t_kr t_kr ?_ ?_
     ·
      intro hD wD τD hL hS hO _ _ _ _
      have st81 := St.start hS
      refine Z X X X<|zae (L := LInt) (xs := [(q.heads.length : Int)]) (cs := [.int .i64 (q.heads.length : Int)]) st81 (Enc.cons (L := LInt) (vs := [.int .i64 (q.heads.length : Int)]) (x := (q.heads.length : Int)) (h := hD) (X) Enc.nil) X X X ze Tryz.info3 X X X t_kr<|fun v82 w83 h86 le87 f84 st85=> ?_
      exact zr ⟨_, _, rfl, st85, _, rfl, f84⟩
     refine zaF 7 (.det (.bool (zcG (([(q.heads.length : Int)])) (2) (3)))) [0, 4] rfl t_kr t_kr ?_ ?_
     ·
      intro hD wD τD hL hS hO gv6_0 gf6_0 _ _
      have st88 := St.start hS
      refine Z X X X<|zg st88 X X X zfk X (zeq st88.sub _ _ gf6_0)<|fun r89 w90 h91 le92 st93 q94=> ?_
      obtain rfl := q94
      exact zr ⟨_, _, rfl, st93, (), rfl, trivial⟩
     refine zh 8 [5, 0] X t_kr t_kr X X (fun hD wD τD hL hS hO _ _ _ _ => (Run.lit (zhs (v := (.bool _)) X X) g52_r))<|zh 9 [0, 1] X t_kr t_kr X X (fun hD wD τD hL hS hO _ _ _ _ => (zeT X))<|zaU 10 [0] X t_kr t_kr X X X (fun hD wD τD hL hS hO _ _ => ⟨rfl, (zha X)⟩)<|zaU 11 [0, 1] X t_kr t_kr X X X (fun hD wD τD hL hS hO _ _ _ _ => ⟨rfl, (Run.lit (r_eql X X) g53_r)⟩)<|zaU 12 [0, 2] X t_kr t_kr X X X (fun hD wD τD hL hS hO _ _ _ _ => ⟨rfl, (zeT X)⟩)<|zaU 13 [0] X t_kr t_kr X X X (fun hD wD τD hL hS hO _ _ => ⟨rfl, (zS X zD X zbl X)⟩)<|zaU 14 [0, 1] X t_kr t_kr X X X (fun hD wD τD hL hS hO _ _ _ _ => ⟨rfl, (zd (j := 3) (hL.sub hS) (hc5.up l73) X X X zbx)⟩)<|zaU 15 [2] X t_kr t_kr X X X (fun hD wD τD hL hS hO _ _ => ⟨rfl, (zha X)⟩)<|zaU 16 [0, 3] X t_kr t_kr X X X (fun hD wD τD hL hS hO _ _ _ _ => ⟨rfl, (r_sub X X t_om)⟩) ?_
     refine zaU 17 [2, 0, 4] rfl t_kr t_kr rfl rfl rfl (fun hD wD τD hL hS hO _ _ _ _ _ _ => ⟨rfl, (zat he77 rfl rfl (hk := (show _ = (((i - 1) : Nat) : Int) by omega)) (hu := zaq) (hz := zbB))⟩) ?_
     refine zaU 18 [0, 5] X t_kr t_kr X X X (fun hD wD τD hL hS hO _ _ _ _ => ⟨rfl, (zS X zaw X zW X)⟩)<|zaU 19 [0, 6] X t_kr t_kr X X X (fun hD wD τD hL hS hO _ _ _ _ => ⟨rfl, (zde (j := 0) (hL.sub hS) hc76 (us := [.int .i64 (q1.at_.chapter), .int .i64 (q1.at_.line), .int .i64 (q1.at_.word)]) X X zaL zW X X)⟩)<|zaU 20 [7] X t_kr t_kr X X X (fun hD wD τD hL hS hO _ _ => ⟨rfl, (zS X zaw X zW X)⟩)<|zaU 21 [0, 8] X t_kr t_kr X X X (fun hD wD τD hL hS hO _ _ _ _ => ⟨rfl, (zde (j := 0) (hL.sub hS) (hc38.up le44) (us := [.int .i64 (q.at_.chapter), .int .i64 (q.at_.line), .int .i64 (q.at_.word)]) X X zaL zW X X)⟩) ?_
     refine zaF 22 (.det (.int .i64 ((orL [cmpI (q1.at_).chapter (q.at_).chapter, cmpI (q1.at_).line (q.at_).line, cmpI (q1.at_).word (q.at_).word])))) [2, 0, 9] rfl t_kr t_kr ?_ ?_
     ·
      intro hD wD τD hL hS hO _ _ _ _ _ _
      have st95 := St.start hS
      refine Z X X X<|zg st95 X X X Tryz.call97 X (c_vote_places st95.sub (a := q1.at_) (b := q.at_))<|fun r96 w97 h98 le99 st100 q101=> ?_
      obtain rfl := q101
      exact zr ⟨_, _, rfl, st100, (), rfl, trivial⟩
     refine zaU 23 [0, 10] X t_kr t_kr X X X (fun hD wD τD hL hS hO _ _ _ _ => ⟨rfl, (r_lss X X)⟩)<|zaU 24 [11, 0, 14] X t_kr t_kr X X X (fun hD wD τD hL hS hO _ _ _ _ _ _ => ⟨rfl, (zfN (v := (.bool _)) X X)⟩)<|zh 25 [15, 0] X t_kr t_kr X X (fun hD wD τD hL hS hO _ _ _ _ => (zhs (v := (.bool _)) X X))<|zh 26 [25, 24, 23, 22, 21, 20, 19, 18, 17, 16, 15, 14, 13, 12, 11, 10, 9, 8, 7, 6, 5, 4, 3, 2, 1, 0] X t_kr t_kr X X (fun hD wD τD hL hS hO _ _ _ _ _ _ _ _ _ _ _ _ gv6_0 gf6_0 _ _ _ _ _ _ _ _ _ _ _ _ _ _ _ _ _ _ _ _ _ _ _ _ _ _ _ _ _ _ _ _ _ _ _ _ _ _ => (r_asB X))<|zcj X X X X X X ⟨t_kr, X, t_kr, X, t_kr, X, X, t_kr, zcZ⟩<|fun hE102 w103 _ le104 st105 _ _ _ _ _ _ _ _ _ _ _ _ gv6_0x106 gf6_0x106 _ _ _ _ _ _ _ _ _ _ _ _ _ _ _ _ _ _ _ _ _ _ _ _ _ _ _ _ _ _ _ _ _ _ _ _ _ _ _ _=>AllDeps.fin X ?_
     refine ⟨rfl, hE102, ⟨?_, trivial⟩, ?_, le104, st105⟩
     ·exact zq (by first | exact q_init0 g51 g52 g53 | exact q_init1 g51 g52 g53 hq1 | exact q_init2 g53 | exact q_init3 g53)
     exact zal
    have g52_r := g52
    refine zbt (er := ([], [], [], [], 0)) (dsts := [48, 49, 50, 51, 52, 53, 54, 55, 56, 57, 58, 59, 60, 61, 62, 63, 64, 65, 66, 67, 68, 69, 70, 71, 72, 73, 8]) st45 Tryz.mixed<|zh 0 [] X t_kr t_kr X X (fun hD wD τD hL hS hO  => (zha X))<|zh 1 [0] X t_kr t_kr X X (fun hD wD τD hL hS hO _ _ => (Run.lit (r_eql X X) g51_r))<|zh 2 [0] X t_kr t_kr X X (fun hD wD τD hL hS hO _ _ => (zeT X))<|zaU 3 [0] X t_kr t_kr X X X (fun hD wD τD hL hS hO _ _ => ⟨rfl, (zS X zaw X zbO X)⟩)<|zaU 4 [0, 1] X t_kr t_kr X X X (fun hD wD τD hL hS hO _ _ _ _ => ⟨rfl, (zd (j := 3) (hL.sub hS) (hc38.up le44) X X X zcg)⟩)<|zaU 5 [0, 2] X t_kr t_kr X X X (fun hD wD τD hL hS hO _ _ _ _ => ⟨rfl, (r_len (f29.up (le36.trans le44)) X zaQ)⟩) ?_
    refine zaF 6 (.res (fun h' res_ => Sl LInt h' res_ ([(q.heads.length : Int)])) (fun _ _ _ hl f => f.up hl)) [0, 3] rfl t_kr t_kr ?_ ?_
    ·
     intro hD wD τD hL hS hO _ _ _ _
     have st107 := St.start hS
     refine Z X X X<|zae (L := LInt) (xs := [(q.heads.length : Int)]) (cs := [.int .i64 (q.heads.length : Int)]) st107 (Enc.cons (L := LInt) (vs := [.int .i64 (q.heads.length : Int)]) (x := (q.heads.length : Int)) (h := hD) (X) Enc.nil) X X X ze Tryz.info3 X X X t_kr<|fun v108 w109 h112 le113 f110 st111=> ?_
     exact zr ⟨_, _, rfl, st111, _, rfl, f110⟩
    refine zaF 7 (.det (.bool (zcG (([(q.heads.length : Int)])) (2) (3)))) [0, 4] rfl t_kr t_kr ?_ ?_
    ·
     intro hD wD τD hL hS hO gv6_0 gf6_0 _ _
     have st114 := St.start hS
     refine Z X X X<|zg st114 X X X zfk X (zeq st114.sub _ _ gf6_0)<|fun r115 w116 h117 le118 st119 q120=> ?_
     obtain rfl := q120
     exact zr ⟨_, _, rfl, st119, (), rfl, trivial⟩
    refine zh 8 [5, 0] X t_kr t_kr X X (fun hD wD τD hL hS hO _ _ _ _ => (Run.lit (zhs (v := (.bool _)) X X) g52_r))<|zh 9 [0, 1] X t_kr t_kr X X (fun hD wD τD hL hS hO _ _ _ _ => (zeT X))<|zaE 10 [0] X t_kr t_kr X X X X (fun hD wD τD hL hS hO _ _ => X)<|zaE 11 [0, 1] X t_kr t_kr X X X X (fun hD wD τD hL hS hO _ _ _ _ => X)<|zaE 12 [0, 2] X t_kr t_kr X X X X (fun hD wD τD hL hS hO _ _ _ _ => X)<|zcp 13 [0] X t_kr t_kr X X X (fun hD wD τD hL hS hO _ _ => X)<|zcp 14 [0, 1] X t_kr t_kr X X X (fun hD wD τD hL hS hO _ _ _ _ => X)<|zcp 15 [2] X t_kr t_kr X X X (fun hD wD τD hL hS hO _ _ => X)<|zcp 16 [0, 3] X t_kr t_kr X X X (fun hD wD τD hL hS hO _ _ _ _ => X)<|zcp 17 [2, 0, 4] X t_kr t_kr X X X (fun hD wD τD hL hS hO _ _ _ _ _ _ => X)<|zcp 18 [0, 5] X t_kr t_kr X X X (fun hD wD τD hL hS hO _ _ _ _ => X)<|zcp 19 [0, 6] X t_kr t_kr X X X (fun hD wD τD hL hS hO _ _ _ _ => X)<|zcp 20 [7] X t_kr t_kr X X X (fun hD wD τD hL hS hO _ _ => X)<|zcp 21 [0, 8] X t_kr t_kr X X X (fun hD wD τD hL hS hO _ _ _ _ => X)<|zcp 22 [2, 0, 9] X t_kr t_kr X X X (fun hD wD τD hL hS hO _ _ _ _ _ _ => X)<|zcp 23 [0, 10] X t_kr t_kr X X X (fun hD wD τD hL hS hO _ _ _ _ => X)<|zaE 24 [11, 0, 14] X t_kr t_kr X X X X (fun hD wD τD hL hS hO _ _ _ _ _ _ => X)<|zh 25 [15, 0] X t_kr t_kr X X (fun hD wD τD hL hS hO _ _ _ _ => (zfN (v := (.bool _)) X X))<|zh 26 [25, 24, 23, 22, 21, 20, 19, 18, 17, 16, 15, 14, 13, 12, 11, 10, 9, 8, 7, 6, 5, 4, 3, 2, 1, 0] X t_kr t_kr X X (fun hD wD τD hL hS hO _ _ _ _ _ _ _ _ _ _ _ _ gv6_0 gf6_0 _ _ _ _ _ _ _ _ _ _ _ _ _ _ _ _ _ _ _ _ _ _ _ _ _ _ _ _ _ _ _ _ _ _ _ _ _ _ => (r_asB X))<|zcj X X X X X X ⟨t_kr, X, t_kr, X, t_kr, X, X, t_kr, zcZ⟩<|fun hE121 w122 _ le123 st124 _ _ _ _ _ _ _ _ _ _ _ _ gv6_0x125 gf6_0x125 _ _ _ _ _ _ _ _ _ _ _ _ _ _ _ _ _ _ _ _ _ _ _ _ _ _ _ _ _ _ _ _ _ _ _ _ _ _ _ _=>AllDeps.fin X ?_
    refine ⟨rfl, hE121, ⟨?_, trivial⟩, ?_, le123, st124⟩
    ·exact zq (by first | exact q_init0 g15 g51 g52 | exact q_init1 g15 g51 g52 hq1 | exact q_init2 g52 | exact q_init3 g52)
    exact zal
   have g51_r := g51
   replace g51 := t_of g51
   refine zbt (er := ([], [], [], [], 0)) (dsts := [48, 49, 50, 51, 52, 53, 54, 55, 56, 57, 58, 59, 60, 61, 62, 63, 64, 65, 66, 67, 68, 69, 70, 71, 72, 73, 8]) st45 Tryz.mixed<|zh 0 [] X t_kr t_kr X X (fun hD wD τD hL hS hO  => (zha X))<|zh 1 [0] X t_kr t_kr X X (fun hD wD τD hL hS hO _ _ => (Run.lit (r_eql X X) g51_r))<|zh 2 [0] X t_kr t_kr X X (fun hD wD τD hL hS hO _ _ => (zeT X))<|zaE 3 [0] X t_kr t_kr X X X X (fun hD wD τD hL hS hO _ _ => X)<|zaE 4 [0, 1] X t_kr t_kr X X X X (fun hD wD τD hL hS hO _ _ _ _ => X)<|zaE 5 [0, 2] X t_kr t_kr X X X X (fun hD wD τD hL hS hO _ _ _ _ => X)<|zaE 6 [0, 3] X t_kr t_kr X X X X (fun hD wD τD hL hS hO _ _ _ _ => X)<|zaE 7 [0, 4] X t_kr t_kr X X X X (fun hD wD τD hL hS hO _ _ _ _ => X)<|zh 8 [5, 0] X t_kr t_kr X X (fun hD wD τD hL hS hO _ _ _ _ => (zfN (v := (.bool _)) X X))<|zh 9 [0, 1] X t_kr t_kr X X (fun hD wD τD hL hS hO _ _ _ _ => (zeT X))<|zaE 10 [0] X t_kr t_kr X X X X (fun hD wD τD hL hS hO _ _ => X)<|zaE 11 [0, 1] X t_kr t_kr X X X X (fun hD wD τD hL hS hO _ _ _ _ => X)<|zaE 12 [0, 2] X t_kr t_kr X X X X (fun hD wD τD hL hS hO _ _ _ _ => X)<|zcp 13 [0] X t_kr t_kr X X X (fun hD wD τD hL hS hO _ _ => X)<|zcp 14 [0, 1] X t_kr t_kr X X X (fun hD wD τD hL hS hO _ _ _ _ => X)<|zcp 15 [2] X t_kr t_kr X X X (fun hD wD τD hL hS hO _ _ => X)<|zcp 16 [0, 3] X t_kr t_kr X X X (fun hD wD τD hL hS hO _ _ _ _ => X)<|zcp 17 [2, 0, 4] X t_kr t_kr X X X (fun hD wD τD hL hS hO _ _ _ _ _ _ => X)<|zcp 18 [0, 5] X t_kr t_kr X X X (fun hD wD τD hL hS hO _ _ _ _ => X)<|zcp 19 [0, 6] X t_kr t_kr X X X (fun hD wD τD hL hS hO _ _ _ _ => X)<|zcp 20 [7] X t_kr t_kr X X X (fun hD wD τD hL hS hO _ _ => X)<|zcp 21 [0, 8] X t_kr t_kr X X X (fun hD wD τD hL hS hO _ _ _ _ => X)<|zcp 22 [2, 0, 9] X t_kr t_kr X X X (fun hD wD τD hL hS hO _ _ _ _ _ _ => X)<|zcp 23 [0, 10] X t_kr t_kr X X X (fun hD wD τD hL hS hO _ _ _ _ => X)<|zaE 24 [11, 0, 14] X t_kr t_kr X X X X (fun hD wD τD hL hS hO _ _ _ _ _ _ => X)<|zh 25 [15, 0] X t_kr t_kr X X (fun hD wD τD hL hS hO _ _ _ _ => (zfN (v := (.bool _)) X X))<|zh 26 [25, 24, 23, 22, 21, 20, 19, 18, 17, 16, 15, 14, 13, 12, 11, 10, 9, 8, 7, 6, 5, 4, 3, 2, 1, 0] X t_kr t_kr X X (fun hD wD τD hL hS hO _ _ _ _ _ _ _ _ _ _ _ _ _ _ _ _ _ _ _ _ _ _ _ _ _ _ _ _ _ _ _ _ _ _ _ _ _ _ _ _ _ _ _ _ _ _ _ _ _ _ _ _ => (r_asB X))<|zcj X X X X X X ⟨t_kr, X, t_kr, X, t_kr, X, X, t_kr, zcZ⟩<|fun hE126 w127 _ le128 st129 _ _ _ _ _ _ _ _ _ _ _ _ _ _ _ _ _ _ _ _ _ _ _ _ _ _ _ _ _ _ _ _ _ _ _ _ _ _ _ _ _ _ _ _ _ _ _ _ _ _ _ _ _ _=> ?_
   refine AllDeps.fin X ?_
   refine ⟨rfl, hE126, ⟨?_, trivial⟩, ?_, le128, st129⟩
   ·exact zq (by first | exact q_init0 %g3 g15 g51 | exact q_init1 %g3 g15 g51 hq1 | exact q_init2 g51 | exact q_init3 g51)
   exact zal
  rintro h47 _ w50 ⟨le48, st49⟩
  refine E<|zm<|W.sr<|O X zaw X zbO X X<|U (j := 3) st49.sub (hc38.up (le44.trans le48)) X X X zcg X<|zaC (f29.up ((le36.trans le44).trans le48)) X zaQ X<|zf X X<|Y<|zH ?_
  refine zao ([8, 9, 10] ++ t_rg 77 26) (G := Nat × Heap) (fun ⟨k, h131⟩ => [(8, .bool (zfD p i q k)), (77, .int .i64 (k : Int))]) (fun ⟨k, h131⟩ w' => Le h47 h131 ∧ St h w h131 w' [[]] ∧ (k ≤ q.heads.length)) (fun ⟨k, h131⟩ => q.heads.length - k) ⟨0, h47⟩ ⟨(zq (by rw [questK_zero])), rfl, trivial⟩ ⟨Le.refl _, st49, zaP⟩ ?_
  rintro ⟨k, h131⟩ _ w134 ⟨le132, st133, hk⟩
  refine W.sr<|zaO X X X<|Y<|zm ?_
  refine zG rfl (fun c135 => ?_) (fun c135 => ?_)
  ·
   refine zx<|E<|zm<|zH<|W.sr<|zf X X ?_
   obtain ⟨hd, hhd⟩ : ∃ y_, (q.heads)[k]? = some y_ := t_ge (by omega)
   have l140 := ((le36.trans le44).trans le48).trans le132
   obtain ⟨b136, o137, _, he139, hc138, hr_hd⟩ := Sl.elem (f29.up l140) hhd
   obtain ⟨rfl, ls141, lu142⟩ := hr_hd
   simp only [big] at ls141
   refine zT he139 X X (hk := X) (hu := zaQ) (hz := zah) X<|zz st133.sub hc138 X zbH zah X X<|zX st133 zeN X X<|fun b143 w144 st145=>zt X X<|zN st145 (k := 1) X X X (za X (za X zau)) zah X X X<|fun w146 st147=> ?_
   obtain ⟨h148, le149, hb150, st152⟩ := st147.freeze (k := 1) rfl
   have hc151 := Cells.of hb150
   refine Y ?_
   refine W.join ([8] ++ t_rg 82 20) (G := Heap) (fun h153 => [(8, .bool (zfD p i q (k + 1)))]) (fun h153 w' => Le h148 h153 ∧ St h w h153 w' [[], []]) ?_ ?_
   ·
    refine zby Tryz.mixed t_kr (Cls h148 _) (Cls.drew st152)<|zdJ X X<|zdJ X X ?_
    refine zdn (d := 83) rfl (fun g157 => ?_) (fun g157 => ?_)
    ·
     refine zk X X X<|zC X X (fun _ hC => (zaz hC.sub hc151 X zbH zah X))<|zk X X X<|zcy X X (fun _ => zaV X Tryz.call98 X) (fun _ hC => Rets.quiet hC (c_vote_head hC.sub (hd := hd) zbk t_u8))<|zdx (v := (.bool _)) X X X<|zdJ X X ?_
     refine zdn (d := 87) rfl (fun g158 => ?_) (fun g158 => ?_)
     ·
      refine zk X X X<|zcr X X<|zk X X X<|u_eql X X X<|zk X X X<|zdJ X X ?_
      refine zey (d := 90) rfl (fun g159 => ?_) (fun g159 => ?_)
      ·
       refine zy X X X X X<|zy X X X X X<|zy X X X X X<|zy X X X X X<|zy X X X X X<|zy X X X X X<|zy X X X X X<|zy X X X X X<|zy X X X X X<|zk X X X<|zdx (v := (.bool _)) X X X<|zdx (v := (.bool _)) X X X<|zgY X X<|zbe ?_
       rintro w160 ⟨h161, s162⟩
       have st163 := st152.call0 s162
       refine ⟨rfl, h161, ⟨?_, trivial⟩, ?_, s162.le, st163⟩
       ·exact zq (by rw [zhV]; first | exact q_step0 g157 g158 g159 hhd | exact q_step1 g157 g158 g159 hhd hh1 | exact q_step2 g159 hhd | exact q_step3 g159)
       exact zal
      refine zk X X X<|zR X zaw X zbO X X<|zk X X X<|have l164:=((le44.trans le48).trans le132).trans le149;zC X X (fun _ hC => (zd (j := 3) hC.sub (hc38.up l164) X X X zcg))<|zk X X X<|zcr X X<|zk X X X<|u_sub X X t_om X<|zk X X X ?_
      obtain ⟨h1, hh1⟩ : ∃ y_, (q.heads)[(k - 1)]? = some y_ := t_ge (by omega)
      obtain ⟨b165, o166, _, he168, hc167, hr_h1⟩ := Sl.elem (f29.up (l140.trans le149)) hh1
      obtain ⟨rfl, ls169, lu170⟩ := hr_h1
      simp only [big] at ls169
      refine zC rfl rfl (fun _ _ => (zat he168 rfl rfl (hk := (show _ = (((k - 1) : Nat) : Int) by omega)) (hu := zaQ) (hz := zah))) ?_
      refine zk X X X<|zC X X (fun _ hC => (zaz hC.sub hc167 X zbH zah X))<|zk X X X<|zC X X (fun _ hC => (zaz hC.sub hc151 X zbH zah X))<|zk X X X<|zcy X X (fun _ => zaV X Tryz.call99 X) (fun _ hC => Rets.quiet hC (c_vote_heads hC.sub (a := h1) zbk t_u8 (b := hd) zbk t_u8))<|zk X X X<|u_lss X X X<|zk X X X<|zdf (v := (.bool _)) X X X<|zdx (v := (.bool _)) X X X<|zgY X X<|zbe ?_
      rintro w171 ⟨h172, s173⟩
      have st174 := st152.call0 s173
      refine ⟨rfl, h172, ⟨?_, trivial⟩, ?_, s173.le, st174⟩
      ·exact zq (by rw [zhV]; first | exact q_step0 g157 g158 g159 hhd | exact q_step1 g157 g158 g159 hhd hh1 | exact q_step2 g159 hhd | exact q_step3 g159)
      exact zal
     refine zy X X X X X<|zy X X X X X<|zy X X X X X<|zam X X X X<|zam X X X X<|zam X X X X<|zam X X X X<|zam X X X X<|zam X X X X<|zam X X X X<|zam X X X X<|zam X X X X<|zy X X X X X<|zdf (v := (.bool _)) X X X<|zgY X X<|zbe ?_
     rintro w175 ⟨h176, s177⟩
     have st178 := st152.call0 s177
     refine ⟨rfl, h176, ⟨?_, trivial⟩, ?_, s177.le, st178⟩
     ·exact zq (by rw [zhV]; first | exact q_step0 g15 g157 g158 hhd | exact q_step1 g15 g157 g158 hhd hh1 | exact q_step2 g158 hhd | exact q_step3 g158)
     exact zal
    refine zy X X X X X<|zy X X X X X<|zdf (v := (.bool _)) X X X<|zdJ X X<|zy X X X X X<|zy X X X X X<|zy X X X X X<|zam X X X X<|zam X X X X<|zam X X X X<|zam X X X X<|zam X X X X<|zam X X X X<|zam X X X X<|zam X X X X<|zam X X X X<|zy X X X X X<|zdf (v := (.bool _)) X X X<|zgY X X<|zbe ?_
    rintro w179 ⟨h180, s181⟩
    have st182 := st152.call0 s181
    refine ⟨rfl, h180, ⟨?_, trivial⟩, ?_, s181.le, st182⟩
    ·exact zq (by rw [zhV]; first | exact q_step0 %g3 g15 g157 hhd | exact q_step1 %g3 g15 g157 hhd hh1 | exact q_step2 g157 hhd | exact q_step3 g157)
    exact zal
   rintro h153 _ w156 ⟨le154, st155⟩
   refine zK<|E<|zl<|zay X X t_om X<|zf X X<|Y ?_
   refine ⟨⟨k + 1, h153⟩, ⟨rfl, rfl, trivial⟩, ?_, ⟨((le132.trans le149).trans le154), st155.take 1, ?_⟩, ?_⟩
   ·exact zal
   ·first | omega | (simp; omega)
   show q.heads.length - ((k + 1)) < q.heads.length - k
   omega
  refine zaA<|zo<|zo<|zak<|E<|W.sr<|zU X X<|zbr X X<|Y ?_
  refine zad rfl (fun c183 => ?_) (fun c183 => ?_)
  ·
   refine W.sr<|zt X X<|Y<|zw<|zI<|zc<|zc<|zI<|zc<|zb zdM ?_
   refine ⟨h131, _, rfl, st133.done, ?_⟩
   refine zac ?_
   (refine (zgc hz (poll_q (i := i) ?_)).symm; rw [quest_eq hq (show q.heads.length = k by omega)]; simpa using c183)
  refine zx<|zK<|E<|zl<|zay X X t_om X<|zf X X<|Y ?_
  have l184 := (((le19.trans le36).trans le44).trans le48).trans le132
  refine ⟨⟨i + 1, h131⟩, ⟨rfl, trivial⟩, ?_, ⟨l184, st133.take 0, ?_, ?_⟩, ?_⟩
  ·exact zal
  ·first | omega | (simp; omega)
  ·exact zcU hA (by rw [quest_eq hq (show q.heads.length = k by omega)]; simpa using c183)
  show p.questions.length - ((i + 1)) < p.questions.length - i
  omega
 refine zaA<|zo<|zo<|zak<|E<|zm<|W.sr<|O X zD X zbi X X<|U (j := 4) st20.sub (hc5.up (le10.trans le19)) X X X zbF X<|have l185:=l14.trans le19;zaC (p_f4.up l185) X zan X<|zf X X<|Y<|zH ?_
 refine zao ([2, 11, 13] ++ t_rg 109 15) (G := Nat × Heap) (fun ⟨j, h186⟩ => [(109, .int .i64 (j : Int))]) (fun ⟨j, h186⟩ w' => Le h18 h186 ∧ St h w h186 w' [] ∧ (j ≤ p.voters.length) ∧ (∀ i, i < j → zeb p i = true)) (fun ⟨j, h186⟩ => p.voters.length - j) ⟨0, h18⟩ ⟨rfl, trivial⟩ ⟨Le.refl _, st20, zaP, zaP⟩ ?_
 rintro ⟨j, h186⟩ _ w189 ⟨le187, st188, hj, hV⟩
 refine W.sr<|zaO X X X<|Y<|zm ?_
 refine zG rfl (fun c190 => ?_) (fun c190 => ?_)
 ·
  refine zx<|E<|zm<|zH<|zm ?_
  obtain ⟨v, hv⟩ : ∃ y, (p.voters)[j]? = some y := ⟨_, List.getElem?_eq_getElem (by omega)⟩
  refine zl<|zf X X<|zt X X<|Y<|W.sr<|have l191:=l185.trans le187;zz st188.sub (K0.up l191) X Tryz.isAgg163 Tryz.sizeOf163 X X<|zf X X<|Y<|zH ?_
  refine zao ([2, 13] ++ t_rg 113 10) (G := Nat × Heap) (fun ⟨k, h192⟩ => [(113, .int .i64 (k : Int))]) (fun ⟨k, h192⟩ w' => Le h186 h192 ∧ St h w h192 w' [] ∧ (k ≤ 5) ∧ (∀ m, m < k → zbV p v j m = true)) (fun ⟨k, h192⟩ => 5 - k) ⟨0, h186⟩ ⟨rfl, trivial⟩ ⟨Le.refl _, st188, zaP, zaP⟩ ?_
  rintro ⟨k, h192⟩ _ w195 ⟨le193, st194, hk5, hK⟩
  refine W.sr<|zaO X X X<|Y<|zm ?_
  refine zG rfl (fun c196 => ?_) (fun c196 => ?_)
  ·
   refine zx<|E<|zm<|zH<|zm ?_
   rcases (show (k : Int) = 0 ∨ (k : Int) = 1 ∨ (k : Int) = 2 ∨ (k : Int) = 3 ∨ (k : Int) = 4 by omega) with hk197 | hk197 | hk197 | hk197 | hk197
   ·
    refine zl ?_
    refine zi rfl rfl (zgo (us := [.func (.func 261) #[] #[]]) rfl rfl (show _ = ((0 : Nat) : Int) by rw [hk197]; rfl) rfl zdZ Tryz.isAgg162 zdL rfl) ?_
    refine zX st194 Tryz.zeroValue162 X X<|fun b198 w199 st200=>zN st200 (k := 0) X X X (za X zau) zdL X X X<|fun w201 st202=> ?_
    obtain ⟨h203, le204, hb205, st207⟩ := st202.freeze (k := 0) rfl
    have hc206 := Cells.of hb205
    refine Y<|W.sr<|O X zcP X Tryz.sizeOf160 X X<|U (j := 0) st207.sub hc206 X X X Tryz.isAgg160 X<|have l208:=(((le10.trans le19).trans le187).trans le193).trans le204;zz st207.sub (hc5.up l208) X zbn zaI X X<|zf X X ?_
    have l209 := (l191.trans le193).trans le204
    refine zcM (fs := []) (cs := []) st207 rfl rfl rfl rfl Tryz.call261 rfl (c_vote_asked_1 st207.sub (p := p) (p_f0.up l209) (p_f1.up l209) (p_f2.up l209) (p_f3.up l209) (p_f4.up l209) _ (by omega)) ?_
    intro r210 w211 h212 le213 st214 q215
    obtain rfl := q215
    refine zbr X X<|Y ?_
    refine zad rfl (fun c216 => ?_) (fun c216 => ?_)
    ·
     refine W.sr<|zt X X<|Y<|zw<|zI<|zc<|zc<|zI<|zI<|zc<|zc<|zI<|zc<|zb zdM ?_
     refine ⟨h212, _, rfl, st214.done, ?_⟩
     refine zac ?_
     (refine (zgc hz (ask_no (k := k) hv (by have q_ := c216; rw [Int.toNat_natCast, hv] at q_; first | (obtain rfl : k = 0 := (by omega); simpa [zbV, inAll_one] using q_) | (obtain rfl : k = 1 := (by omega); simpa [zbV, inAll_one] using q_) | (obtain rfl : k = 2 := (by omega); simpa [zbV, inAll_one] using q_) | (obtain rfl : k = 3 := (by omega); simpa [zbV, inAll_one] using q_) | (obtain rfl : k = 4 := (by omega); simpa [zbV, inAll_one] using q_)))).symm)
    refine zx<|zK<|E<|zl<|zay X X t_om X<|zf X X<|Y ?_
    refine ⟨⟨k + 1, h212⟩, ⟨rfl, trivial⟩, ?_, ⟨((le193.trans le204).trans le213), st214.take 0, ?_, ?_⟩, ?_⟩
    ·exact zal
    ·first | omega | (simp; omega)
    ·exact zcU hK (by have q_ := c216; rw [Int.toNat_natCast, hv] at q_; first | (obtain rfl : k = 0 := (by omega); simpa [zbV, inAll_one] using q_) | (obtain rfl : k = 1 := (by omega); simpa [zbV, inAll_one] using q_) | (obtain rfl : k = 2 := (by omega); simpa [zbV, inAll_one] using q_) | (obtain rfl : k = 3 := (by omega); simpa [zbV, inAll_one] using q_) | (obtain rfl : k = 4 := (by omega); simpa [zbV, inAll_one] using q_))
    show 5 - ((k + 1)) < 5 - k
    omega
   ·
    refine zl ?_
    refine zi rfl rfl (zgo (us := [.func (.func 262) #[] #[]]) rfl rfl (show _ = ((1 : Nat) : Int) by rw [hk197]; rfl) rfl zdZ Tryz.isAgg162 zdL rfl) ?_
    refine zX st194 Tryz.zeroValue162 X X<|fun b217 w218 st219=>zN st219 (k := 0) X X X (za X zau) zdL X X X<|fun w220 st221=> ?_
    obtain ⟨h222, le223, hb224, st226⟩ := st221.freeze (k := 0) rfl
    have hc225 := Cells.of hb224
    refine Y<|W.sr<|O X zcP X Tryz.sizeOf160 X X<|U (j := 0) st226.sub hc225 X X X Tryz.isAgg160 X<|have l227:=(((le10.trans le19).trans le187).trans le193).trans le223;zz st226.sub (hc5.up l227) X zbn zaI X X<|zf X X ?_
    have l228 := (l191.trans le193).trans le223
    refine zcM (fs := []) (cs := []) st226 rfl rfl rfl rfl Tryz.call262 rfl (c_vote_asked_2 st226.sub (p := p) (p_f0.up l228) (p_f1.up l228) (p_f2.up l228) (p_f3.up l228) (p_f4.up l228) _ (by omega)) ?_
    intro r229 w230 h231 le232 st233 q234
    obtain rfl := q234
    refine zbr X X<|Y ?_
    refine zad rfl (fun c235 => ?_) (fun c235 => ?_)
    ·
     refine W.sr<|zt X X<|Y<|zw<|zI<|zc<|zc<|zI<|zI<|zc<|zc<|zI<|zc<|zb zdM ?_
     refine ⟨h231, _, rfl, st233.done, ?_⟩
     refine zac ?_
     (refine (zgc hz (ask_no (k := k) hv (by have q_ := c235; rw [Int.toNat_natCast, hv] at q_; first | (obtain rfl : k = 0 := (by omega); simpa [zbV, inAll_one] using q_) | (obtain rfl : k = 1 := (by omega); simpa [zbV, inAll_one] using q_) | (obtain rfl : k = 2 := (by omega); simpa [zbV, inAll_one] using q_) | (obtain rfl : k = 3 := (by omega); simpa [zbV, inAll_one] using q_) | (obtain rfl : k = 4 := (by omega); simpa [zbV, inAll_one] using q_)))).symm)
    refine zx<|zK<|E<|zl<|zay X X t_om X<|zf X X<|Y ?_
    refine ⟨⟨k + 1, h231⟩, ⟨rfl, trivial⟩, ?_, ⟨((le193.trans le223).trans le232), st233.take 0, ?_, ?_⟩, ?_⟩
    ·exact zal
    ·first | omega | (simp; omega)
    ·exact zcU hK (by have q_ := c235; rw [Int.toNat_natCast, hv] at q_; first | (obtain rfl : k = 0 := (by omega); simpa [zbV, inAll_one] using q_) | (obtain rfl : k = 1 := (by omega); simpa [zbV, inAll_one] using q_) | (obtain rfl : k = 2 := (by omega); simpa [zbV, inAll_one] using q_) | (obtain rfl : k = 3 := (by omega); simpa [zbV, inAll_one] using q_) | (obtain rfl : k = 4 := (by omega); simpa [zbV, inAll_one] using q_))
    show 5 - ((k + 1)) < 5 - k
    omega
   ·
    refine zl ?_
    refine zi rfl rfl (zgo (us := [.func (.func 263) #[] #[]]) rfl rfl (show _ = ((2 : Nat) : Int) by rw [hk197]; rfl) rfl zdZ Tryz.isAgg162 zdL rfl) ?_
    refine zX st194 Tryz.zeroValue162 X X<|fun b236 w237 st238=>zN st238 (k := 0) X X X (za X zau) zdL X X X<|fun w239 st240=> ?_
    obtain ⟨h241, le242, hb243, st245⟩ := st240.freeze (k := 0) rfl
    have hc244 := Cells.of hb243
    refine Y<|W.sr<|O X zcP X Tryz.sizeOf160 X X<|U (j := 0) st245.sub hc244 X X X Tryz.isAgg160 X<|have l246:=(((le10.trans le19).trans le187).trans le193).trans le242;zz st245.sub (hc5.up l246) X zbn zaI X X<|zf X X ?_
    have l247 := (l191.trans le193).trans le242
    refine zcM (fs := []) (cs := []) st245 rfl rfl rfl rfl Tryz.call263 rfl (c_vote_asked_3 st245.sub (p := p) (p_f0.up l247) (p_f1.up l247) (p_f2.up l247) (p_f3.up l247) (p_f4.up l247) _ (by omega)) ?_
    intro r248 w249 h250 le251 st252 q253
    obtain rfl := q253
    refine zbr X X<|Y ?_
    refine zad rfl (fun c254 => ?_) (fun c254 => ?_)
    ·
     refine W.sr<|zt X X<|Y<|zw<|zI<|zc<|zc<|zI<|zI<|zc<|zc<|zI<|zc<|zb zdM ?_
     refine ⟨h250, _, rfl, st252.done, ?_⟩
     refine zac ?_
     (refine (zgc hz (ask_no (k := k) hv (by have q_ := c254; rw [Int.toNat_natCast, hv] at q_; first | (obtain rfl : k = 0 := (by omega); simpa [zbV, inAll_one] using q_) | (obtain rfl : k = 1 := (by omega); simpa [zbV, inAll_one] using q_) | (obtain rfl : k = 2 := (by omega); simpa [zbV, inAll_one] using q_) | (obtain rfl : k = 3 := (by omega); simpa [zbV, inAll_one] using q_) | (obtain rfl : k = 4 := (by omega); simpa [zbV, inAll_one] using q_)))).symm)
    refine zx<|zK<|E<|zl<|zay X X t_om X<|zf X X<|Y ?_
    refine ⟨⟨k + 1, h250⟩, ⟨rfl, trivial⟩, ?_, ⟨((le193.trans le242).trans le251), st252.take 0, ?_, ?_⟩, ?_⟩
    ·exact zal
    ·first | omega | (simp; omega)
    ·exact zcU hK (by have q_ := c254; rw [Int.toNat_natCast, hv] at q_; first | (obtain rfl : k = 0 := (by omega); simpa [zbV, inAll_one] using q_) | (obtain rfl : k = 1 := (by omega); simpa [zbV, inAll_one] using q_) | (obtain rfl : k = 2 := (by omega); simpa [zbV, inAll_one] using q_) | (obtain rfl : k = 3 := (by omega); simpa [zbV, inAll_one] using q_) | (obtain rfl : k = 4 := (by omega); simpa [zbV, inAll_one] using q_))
    show 5 - ((k + 1)) < 5 - k
    omega
   ·
    refine zl ?_
    refine zi rfl rfl (zgo (us := [.func (.func 264) #[] #[]]) rfl rfl (show _ = ((3 : Nat) : Int) by rw [hk197]; rfl) rfl zdZ Tryz.isAgg162 zdL rfl) ?_
    refine zX st194 Tryz.zeroValue162 X X<|fun b255 w256 st257=>zN st257 (k := 0) X X X (za X zau) zdL X X X<|fun w258 st259=> ?_
    obtain ⟨h260, le261, hb262, st264⟩ := st259.freeze (k := 0) rfl
    have hc263 := Cells.of hb262
    refine Y<|W.sr<|O X zcP X Tryz.sizeOf160 X X<|U (j := 0) st264.sub hc263 X X X Tryz.isAgg160 X<|have l265:=(((le10.trans le19).trans le187).trans le193).trans le261;zz st264.sub (hc5.up l265) X zbn zaI X X<|zf X X ?_
    have l266 := (l191.trans le193).trans le261
    refine zcM (fs := []) (cs := []) st264 rfl rfl rfl rfl Tryz.call264 rfl (c_vote_asked_4 st264.sub (p := p) (p_f0.up l266) (p_f1.up l266) (p_f2.up l266) (p_f3.up l266) (p_f4.up l266) _ (by omega) (by intro u hu_; exact asked_len hv (hK 2 (by omega)))) ?_
    intro r267 w268 h269 le270 st271 q272
    obtain rfl := q272
    refine zbr X X<|Y ?_
    refine zad rfl (fun c273 => ?_) (fun c273 => ?_)
    ·
     refine W.sr<|zt X X<|Y<|zw<|zI<|zc<|zc<|zI<|zI<|zc<|zc<|zI<|zc<|zb zdM ?_
     refine ⟨h269, _, rfl, st271.done, ?_⟩
     refine zac ?_
     (refine (zgc hz (ask_no (k := k) hv (by have q_ := c273; rw [Int.toNat_natCast, hv] at q_; first | (obtain rfl : k = 0 := (by omega); simpa [zbV, inAll_one] using q_) | (obtain rfl : k = 1 := (by omega); simpa [zbV, inAll_one] using q_) | (obtain rfl : k = 2 := (by omega); simpa [zbV, inAll_one] using q_) | (obtain rfl : k = 3 := (by omega); simpa [zbV, inAll_one] using q_) | (obtain rfl : k = 4 := (by omega); simpa [zbV, inAll_one] using q_)))).symm)
    refine zx<|zK<|E<|zl<|zay X X t_om X<|zf X X<|Y ?_
    refine ⟨⟨k + 1, h269⟩, ⟨rfl, trivial⟩, ?_, ⟨((le193.trans le261).trans le270), st271.take 0, ?_, ?_⟩, ?_⟩
    ·exact zal
    ·first | omega | (simp; omega)
    ·exact zcU hK (by have q_ := c273; rw [Int.toNat_natCast, hv] at q_; first | (obtain rfl : k = 0 := (by omega); simpa [zbV, inAll_one] using q_) | (obtain rfl : k = 1 := (by omega); simpa [zbV, inAll_one] using q_) | (obtain rfl : k = 2 := (by omega); simpa [zbV, inAll_one] using q_) | (obtain rfl : k = 3 := (by omega); simpa [zbV, inAll_one] using q_) | (obtain rfl : k = 4 := (by omega); simpa [zbV, inAll_one] using q_))
    show 5 - ((k + 1)) < 5 - k
    omega
   refine zl ?_
   refine zi rfl rfl (zgo (us := [.func (.func 265) #[] #[]]) rfl rfl (show _ = ((4 : Nat) : Int) by rw [hk197]; rfl) rfl zdZ Tryz.isAgg162 zdL rfl) ?_
   refine zX st194 Tryz.zeroValue162 X X<|fun b274 w275 st276=>zN st276 (k := 0) X X X (za X zau) zdL X X X<|fun w277 st278=> ?_
   obtain ⟨h279, le280, hb281, st283⟩ := st278.freeze (k := 0) rfl
   have hc282 := Cells.of hb281
   refine Y<|W.sr<|O X zcP X Tryz.sizeOf160 X X<|U (j := 0) st283.sub hc282 X X X Tryz.isAgg160 X<|have l284:=(((le10.trans le19).trans le187).trans le193).trans le280;zz st283.sub (hc5.up l284) X zbn zaI X X<|zf X X ?_
   have l285 := (l191.trans le193).trans le280
   refine zcM (fs := []) (cs := []) st283 rfl rfl rfl rfl Tryz.call265 rfl (c_vote_asked_5 st283.sub (p := p) (p_f0.up l285) (p_f1.up l285) (p_f2.up l285) (p_f3.up l285) (p_f4.up l285) _ (by omega)) ?_
   intro r286 w287 h288 le289 st290 q291
   obtain rfl := q291
   refine zbr X X<|Y ?_
   refine zad rfl (fun c292 => ?_) (fun c292 => ?_)
   ·
    refine W.sr<|zt X X<|Y<|zw<|zI<|zc<|zc<|zI<|zI<|zc<|zc<|zI<|zc<|zb zdM ?_
    refine ⟨h288, _, rfl, st290.done, ?_⟩
    refine zac ?_
    (refine (zgc hz (ask_no (k := k) hv (by have q_ := c292; rw [Int.toNat_natCast, hv] at q_; first | (obtain rfl : k = 0 := (by omega); simpa [zbV, inAll_one] using q_) | (obtain rfl : k = 1 := (by omega); simpa [zbV, inAll_one] using q_) | (obtain rfl : k = 2 := (by omega); simpa [zbV, inAll_one] using q_) | (obtain rfl : k = 3 := (by omega); simpa [zbV, inAll_one] using q_) | (obtain rfl : k = 4 := (by omega); simpa [zbV, inAll_one] using q_)))).symm)
   refine zx<|zK<|E<|zl<|zay X X t_om X<|zf X X<|Y ?_
   refine ⟨⟨k + 1, h288⟩, ⟨rfl, trivial⟩, ?_, ⟨((le193.trans le280).trans le289), st290.take 0, ?_, ?_⟩, ?_⟩
   ·exact zal
   ·first | omega | (simp; omega)
   ·exact zcU hK (by have q_ := c292; rw [Int.toNat_natCast, hv] at q_; first | (obtain rfl : k = 0 := (by omega); simpa [zbV, inAll_one] using q_) | (obtain rfl : k = 1 := (by omega); simpa [zbV, inAll_one] using q_) | (obtain rfl : k = 2 := (by omega); simpa [zbV, inAll_one] using q_) | (obtain rfl : k = 3 := (by omega); simpa [zbV, inAll_one] using q_) | (obtain rfl : k = 4 := (by omega); simpa [zbV, inAll_one] using q_))
   show 5 - ((k + 1)) < 5 - k
   omega
  refine zaA<|zo<|zo<|zak<|zK<|E<|zl<|zay X X t_om X<|zf X X<|Y ?_
  refine ⟨⟨j + 1, h192⟩, ⟨rfl, trivial⟩, ?_, ⟨(le187.trans le193), st194, ?_, ?_⟩, ?_⟩
  ·exact zal
  ·first | omega | (simp; omega)
  ·exact zcU hV (ask_all hv hK (by omega))
  show p.voters.length - ((j + 1)) < p.voters.length - j
  omega
 refine zaA<|zo<|zo<|zak<|E<|W.sr<|zt X X<|Y<|zw<|zb zdM ?_
 refine ⟨h186, _, rfl, st188.done, ?_⟩
 refine zac ?_
 (refine (check_yes hz (poll_true ?_ ?_ hA ?_ hV ?_)).symm <;> omega)
end Go.Pk

namespace Go.Pk
open Go Go.RowKit Go.Proofs
theorem zer {h : Heap} {w : World} (hs : Sub h w) {s_v : Value} {s : (List Int)} (s_f : Sl LInt h s_v s) (hl : s.length * 8 ≤ 140737488355328) : Calls Tryz.prog 109 #[s_v] w (fun e_ w' => ∃ h' res_ o_, e_ = .returned res_ ∧ Le h h' ∧ St h w h' w' [o_] ∧ OSl LInt 3 h' res_ (s) o_) := by
 refine zL (n := 8) Tryz.func109 X X X<|have st0:=t_s0 hs;have s_f_b:=s_f.le;W.sr<|zcv X X<|Y<|zm<|W.sr<|zO (v := s_v) X X ?_
 obtain ⟨nb1, hn2, hn2_r⟩ := Sl.nilb (P := Tryz.prog) s_f
 refine zi X X (hn2_r ze X X)<|Y ?_
 refine zad rfl (fun c3 => ?_) (fun c3 => ?_)
 ·
  refine W.sr<|zcv X X<|Y<|zw<|zc<|zb Tryz.results109 ?_
  have st4 := st0.snoc
  have f5 := OSl.nil LInt 3 h
  refine ⟨h, _, _, rfl, Le.refl _, st4, OSl.to f5 ?_⟩
  simp_all
 refine zx<|E<|W.sr<|zic (L := LInt) st0 X ⟨_, zn⟩ ze<|fun v6 o7 w8 f9 st10=>zO (v := s_v) X X ?_
 refine zcN (k := 0) (nb := 8) st10 f9 rfl s_f rfl rfl rfl ze Tryz.info3 rfl rfl rfl (by decide) rfl t_om t_om ?_
 intro v11 o12 w13 _ e14 f15 st16
 subst e14
 refine zaa (v := v11) X X<|Y<|zw<|zb Tryz.results109 ?_
 refine ⟨h, _, _, rfl, Le.refl _, st16, OSl.to f15 ?_⟩
 simp
set_option maxHeartbeats 4000000 in
theorem zix : ∀ (n_ : Nat) {h0 h : Heap} {w0 w : World} {rest : Own} {now_v : Value} {now : (List Int)} (now_f : Sl LInt h now_v now) {left_v : Value} {left : (List Int)} (left_f : Sl LInt h left_v left) {p_b : Nat} {p : Poll} {p_v0 : Value} (p_f0 : Sl LChapter h p_v0 p.text.chapters) {p_v1 : Value} (p_f1 : Sl LRule h p_v1 p.lexicon.rules) {p_v2 : Value} (p_f2 : Sl LDecision h p_v2 p.lexicon.decisions) {p_v3 : Value} (p_f3 : Sl LQuestion h p_v3 p.questions) {p_v4 : Value} (p_f4 : Sl LVoter h p_v4 p.voters) (p_c : Cells h p_b 0 [p_v0, p_v1, p_v2, p_v3, p_v4]) {l : Nat} {y_b : Nat} (y_c : Cells h y_b 0 [.func (.yield l) #[] #[]]) {m_b : Nat} (m_c : Cells h m_b 0 [(.func (.func 128) #[] #[.pointer (some ⟨p_b, 0, none⟩), .pointer (some ⟨y_b, 0, none⟩), .pointer (some ⟨m_b, 0, none⟩)])]) {J Jx : List (List Int) → Heap → Own → Prop} (hJm : ∀ xs h1 h2 o, J xs h1 o → Le h1 h2 → J xs h2 o) (hJxm : ∀ xs h1 h2 o, Jx xs h1 o → Le h1 h2 → Jx xs h2 o) {done : List (List Int)} (hJ0 : J done h rest) (hY : ∀ pre x h1 w1 B rest us, Le h h1 → J pre h1 rest → St h0 w0 h1 w1 (B ++ rest) → (∃ u_, us = [u_] ∧ Sl LInt h1 u_ x ∧ (zB p)[pre.length]? = some x) → Yields Tryz.prog l us.toArray w1 fun v w2 => ∃ h2 rest2, Le h1 h2 ∧ St h0 w0 h2 w2 (B ++ rest2) ∧ ((v = .bool true ∧ J (pre ++ [x]) h2 rest2) ∨ (v = .bool false ∧ Jx (pre ++ [x]) h2 rest2))) (hp : zcF p = true) (hn : NowOk p now) (hw : OnWay p done now) (hm : p.questions.length ≤ now.length + n_) (hl : left = leftL p now) (st0 : St h0 w0 h w rest), Calls Tryz.prog 128 #[now_v, left_v, .pointer (some ⟨p_b, 0, none⟩), .pointer (some ⟨y_b, 0, none⟩), .pointer (some ⟨m_b, 0, none⟩)] w (fun e_ w' => ∃ h' rest' b_, e_ = .returned (.bool b_) ∧ Le h h' ∧ St h0 w0 h' w' rest' ∧ (b_ = true → J (done ++ zce p now) h' rest') ∧ (b_ = false → ∃ pre, Jx pre h' rest')) := by
 intro n_
 induction n_ using Nat.strongRecOn with
 | _ n_ ih_ =>
 intro h0 h w0 w rest now_v now now_f left_v left left_f p_b p p_v0 p_f0 p_v1 p_f1 p_v2 p_f2 p_v3 p_f3 p_v4 p_f4 p_c l y_b y_c m_b m_c J Jx hJm hJxm done hJ0 hY hp hn hw hm hl st0
 refine zL (n := 83) Tryz.func128 X X X<|have now_f_b:=now_f.le;have left_f_b:=left_f.le;have p_f0_b:=p_f0.le;have p_f1_b:=p_f1.le;have p_f2_b:=p_f2.le;have p_f3_b:=p_f3.le;have p_f4_b:=p_f4.le;have st1:=St.start st0.sub;have hnl:=hn.len;W.sr<|zF X X<|Y<|W.scope<|W.sr<|zO (v := now_v) X X<|zaC now_f X ze X<|zt X X<|Y<|zm<|W.sr<|zf X X<|O X zeM X zaI X X<|O X zD X zbl X X<|U (j := 3) st1.sub p_c X X X zbx X ?_
 refine zaC p_f3 X zaq X<|zcX X X X<|Y ?_
 refine zG rfl (fun c2 => ?_) (fun c2 => ?_)
 ·
  refine W.sr<|U (j := 0) st1.sub y_c X X X Tryz.isAgg111 X<|zO (v := now_v) X X ?_
  have st11 := st0.over st1
  have hlq : now.length = p.questions.length := by omega
  have hone := truths_one hn hlq
  have hJc := hJm _ _ _ _ hJ0 (Le.refl _)
  have hAc : ∃ u_, [now_v] = [u_] ∧ Sl LInt h u_ now ∧ (zB p)[done.length]? = some now := ⟨_, rfl, now_f.up (Le.refl _), onway_at hw hone⟩
  refine zeH rfl rfl rfl rfl rfl (hY _ _ _ _ [] rest _ (Le.refl _) hJc st11 hAc) ?_
  intro yb3 w4 h5 rest6 le7 st8 hj9 hx10
  refine zF X X<|Y<|zw<|zc<|zeu<|zb Tryz.results128 ?_
  exact ⟨_, _, _, rfl, le7, st8, fun e_ => by rw [hone]; exact hj9 e_, fun e_ => ⟨_, hx10 e_⟩⟩
 refine zx<|E<|zm<|W.label<|E<|zm<|W.sr<|O X zeM X zaI X X<|O X zD X zbl X X<|U (j := 3) st1.sub p_c X X X zbx X<|zf X X ?_
 obtain ⟨q, hq⟩ : ∃ y_, (p.questions)[now.length]? = some y_ := t_ge (by omega)
 obtain ⟨b12, o13, _, he15, hc14, hr_q⟩ := Sl.elem p_f3 hq
 obtain ⟨v16, rfl, f17⟩ := hr_q
 have f17_b := f17.le
 refine zi rfl rfl (zat he15 rfl rfl (hk := (show _ = ((now.length : Nat) : Int) by rfl)) (hu := zaq) (hz := zbB)) ?_
 refine O X zaw X zbO X X<|U (j := 3) st1.sub hc14 X X X zcg X<|zaC f17 X zaQ X<|zf X X<|Y<|zH ?_
 have st18 := st0.over st1
 refine zao ([7, 9, 10, 11, 12] ++ t_rg 32 51) (G := Nat × Own × Heap) (fun ⟨hh, rest, h19⟩ => [(32, .int .i64 (hh : Int))]) (fun ⟨hh, rest, h19⟩ w' => Le h h19 ∧ St h0 w0 h19 w' (rest) ∧ (hh ≤ q.heads.length) ∧ (J (done ++ zgR p now hh) h19 rest)) (fun ⟨hh, rest, h19⟩ => q.heads.length - hh) ⟨0, rest, h⟩ ⟨rfl, trivial⟩ ⟨Le.refl _, st18, zaP, (by simpa [zgR] using hJm _ _ _ _ hJ0 (Le.refl _))⟩ ?_
 rintro ⟨hh, rest, h19⟩ _ w22 ⟨le20, st21, hhl, hJ⟩
 have st23 := St.start st21.sub
 refine W.sr<|zaO X X X<|Y<|zm ?_
 refine zG rfl (fun c24 => ?_) (fun c24 => ?_)
 ·
  refine zx<|E<|zm<|zH<|W.sr<|zf X X<|zt X X<|Y<|W.sr<|zO (v := left_v) X X ?_
  refine zaB rfl rfl (zaV rfl Tryz.call109 rfl) ((zer st23.sub (left_f.up le20) (by have q_ := zck hp; rw [hl, ziu]; omega)).mono ?_)
  rintro _ w26 ⟨h27, v25, o30, rfl, le28, s32, f31⟩
  refine ⟨_, rfl, ?_⟩
  have st29 := st23.call s32
  refine zaa (v := v25) X X<|Y<|zm<|W.sr<|O X zeM X zaI X X<|O X zD X zbi X X<|have l33:=le20.trans le28;U (j := 4) st29.sub (p_c.up l33) X X X zbF X<|zaC (p_f4.up l33) X zan X<|zf X X<|Y<|zH ?_
  refine zao ([11, 12] ++ t_rg 41 32) (G := Nat × List (Nat × Obj) × Heap) (fun ⟨i, o_10, h34⟩ => [(41, .int .i64 (i : Int))]) (fun ⟨i, o_10, h34⟩ w' => Le h27 h34 ∧ St h19 w22 h34 w' [o_10] ∧ (OSl LInt 3 h34 v25 ((zga p now (hh : Int) i)) o_10) ∧ (i ≤ p.voters.length) ∧ (∀ v ∈ p.voters.take i, (zbb v (now ++ [(hh : Int)]) : Int) ≤ v.wrong)) (fun ⟨i, o_10, h34⟩ => p.voters.length - i) ⟨0, o30, h27⟩ ⟨rfl, trivial⟩ ⟨Le.refl _, st29, (OSl.to f31 (by rw [leftM_zero]; exact hl)), zaP, (by intro v_ hv_; simp at hv_)⟩ ?_
  rintro ⟨i, o_10, h34⟩ _ w37 ⟨le35, st36, hO_10, hi, hwr⟩
  refine W.sr<|zaO X X X<|Y<|zm ?_
  refine zG rfl (fun c38 => ?_) (fun c38 => ?_)
  ·
   refine zx<|E<|zm<|zH<|W.sr<|zf X X ?_
   obtain ⟨v, hv⟩ : ∃ y_, (p.voters)[i]? = some y_ := t_ge (by omega)
   have l43 := l33.trans le35
   obtain ⟨b39, o40, _, he42, hc41, hr_v⟩ := Sl.elem (p_f4.up l43) hv
   obtain ⟨v44, rfl, f45⟩ := hr_v
   have f45_b := f45.le
   refine zT he42 X X (hk := X) (hu := zan) (hz := zbq) X<|zz st36.sub hc41 X Tryz.isAgg79 zbq X X<|zX st36 Tryz.zeroValue79 X X<|fun b46 w47 st48=>zt X X<|zN st48 (k := 1) X X X (za X (za X (za f45.one zau))) zbq X X X<|fun w49 st50=> ?_
   obtain ⟨h51, le52, hb53, st55⟩ := st50.freeze (k := 1) rfl
   have hc54 := Cells.of hb53
   refine Y<|zm<|W.sr<|O X zaW X zbs X X<|U (j := 2) st55.sub hc54 X X X zbI X<|zf X X ?_
   obtain ⟨a, ha⟩ : ∃ y_, (v.votes)[now.length]? = some y_ := t_ge (by have q_ := (zfa hp (List.mem_of_getElem? hv)).2.2.1; omega)
   obtain ⟨b56, o57, _, he59, hc58, hr_a⟩ := Sl.elem (f45.up le52) ha
   obtain rfl := hr_a
   refine zi rfl rfl (zat he59 rfl rfl (hk := (show _ = ((now.length : Nat) : Int) by rfl)) (hu := ze) (hz := zn)) ?_
   refine U (j := 0) st55.sub hc58 X X X zA X<|zaO X X X<|zU X X ?_
   refine zab (d := 52) rfl (fun g60 => ?_) (fun g60 => ?_)
   ·
    refine M X X X X X<|M X X X X X<|M X X X X X<|M X X X X X<|M X X X X X<|M X X X X X<|M X X X X X<|zQ (v := (.bool _)) X X X<|Y ?_
    refine zad rfl (fun c61 => ?_) (fun c61 => ?_)
    ·
     refine zaA<|zo<|zak<|E<|zl<|zay X X t_om X<|zf X X<|Y ?_
     refine ⟨⟨i + 1, o_10, h51⟩, ⟨rfl, trivial⟩, ?_, ⟨(le35.trans le52), st55.take 1, ?_, ?_, ?_⟩, ?_⟩
     ·exact zal
     ·refine OSl.to (hO_10.up le52) ?_
      exact (leftM_skip hv ha (.inl (by assumption))).symm
     ·first | omega | (simp; omega)
     ·exact all_snoc hwr hv (left_skip hn (List.mem_of_getElem? hv) ha (.inl (by assumption)))
     show p.voters.length - ((i + 1)) < p.voters.length - i
     omega
    cases c61
   refine Z X X X<|O X zaW X zbs X X<|Z X X X<|U (j := 2) st55.sub hc54 X X X zbI X<|Z X X X<|zf X X<|Z X X X ?_
   refine zi rfl rfl (zat he59 rfl rfl (hk := (show _ = ((now.length : Nat) : Int) by rfl)) (hu := ze) (hz := zn)) ?_
   refine Z X X X<|U (j := 0) st55.sub hc58 X X X zA X<|Z X X X<|zf X X<|Z X X X<|zcX X X X<|zP (v := (.bool _)) X X X<|Y ?_
   refine zG rfl (fun c62 => ?_) (fun c62 => ?_)
   ·
    refine zaA<|zo<|zak<|E<|zl<|zay X X t_om X<|zf X X<|Y ?_
    refine ⟨⟨i + 1, o_10, h51⟩, ⟨rfl, trivial⟩, ?_, ⟨(le35.trans le52), st55.take 1, ?_, ?_, ?_⟩, ?_⟩
    ·exact zal
    ·refine OSl.to (hO_10.up le52) ?_
     exact (leftM_skip hv ha (.inr (by assumption))).symm
    ·first | omega | (simp; omega)
    ·exact all_snoc hwr hv (left_skip hn (List.mem_of_getElem? hv) ha (.inr (by assumption)))
    show p.voters.length - ((i + 1)) < p.voters.length - i
    omega
   refine zx<|E<|W.sr<|zO (v := v25) X X<|zf X X ?_
   obtain ⟨x, hx⟩ : ∃ y_, ((zga p now (hh : Int) i))[i]? = some y_ := t_ge (by rw [zgK]; omega)
   obtain ⟨b63, o64, cur65, _, e68, he66, hr_x, hc67⟩ := OSl.elem (hO_10.up le52) hx
   subst e68
   obtain rfl := hr_x
   refine zT he66 X X (hk := X) (hu := ze) (hz := zn) X<|zi X X (zcJ (j := 0) (st55.get (k := 0) X) hc67 X X X zA) ?_
   refine zi rfl rfl (r_sub rfl rfl (by have q_ := left_bound hp hn (List.mem_of_getElem? hv); have q2_ := left_at hv hx; omega)) ?_
   obtain ⟨b69, o70, cur71, _, e74, he72, hr_x, hc73⟩ := OSl.elem (hO_10.up le52) hx
   obtain ⟨hb75, hc76⟩ : b63 = b69 ∧ cur65 = cur71 := by cases e74; exact ⟨rfl, rfl⟩
   subst hb75
   subst hc76
   obtain rfl := hr_x
   refine zT he72 X X (hk := X) (hu := ze) (hz := zn) X ?_
   refine zek (k := 0) st55 (hO_10.up le52) rfl (by rw [zgK]; omega) he72 rfl rfl (rfl) zn ?_
   intro o77 w78 _ e79 f80 st81
   subst e79
   refine Y<|W.sr<|zO (v := v25) X X<|zf X X ?_
   obtain ⟨z, hz⟩ : ∃ y_, (((zga p now (hh : Int) i).set i (x - 1)))[i]? = some y_ := t_ge (by simp only [List.length_set, zgK]; omega)
   obtain ⟨b82, o83, cur84, _, e87, he85, hr_z, hc86⟩ := OSl.elem f80 hz
   subst e87
   obtain rfl := hr_z
   refine zT he85 X X (hk := X) (hu := ze) (hz := zn) X<|zi X X (zcJ (j := 0) (st81.get (k := 0) X) hc86 X X X zA)<|zaO X X X<|Y ?_
   refine zG rfl (fun c88 => ?_) (fun c88 => ?_)
   ·
    refine zaA<|zhj X<|zo<|zo<|zhj X<|zo<|zak<|E<|zl<|zay X X t_om X<|zf X X<|Y ?_
    have st89 := st21.over st81
    have l90 := l43.trans le52
    refine ⟨⟨hh + 1, rest, h51⟩, ⟨rfl, trivial⟩, ?_, ⟨l90, st89, ?_, ?_⟩, ?_⟩
    ·exact zal
    ·first | omega | (simp; omega)
    ·rw [ziC, truthsFrom_none (List.mem_of_getElem? hv) (left_neg ha (by omega) (by first | assumption | omega) (by rw [← left_at hv hx]; exact set_at hz) c88), List.append_nil]; exact hJm _ _ _ _ hJ ((le28.trans le35).trans le52)
    show q.heads.length - ((hh + 1)) < q.heads.length - hh
    omega
   refine zx<|zK<|E<|zl<|zay X X t_om X<|zf X X<|Y ?_
   refine ⟨⟨i + 1, [(b82, .cells cur84 3)], h51⟩, ⟨rfl, trivial⟩, ?_, ⟨(le35.trans le52), st81.take 1, ?_, ?_, ?_⟩, ?_⟩
   ·exact zal
   ·refine OSl.to f80 ?_
    rw [left_at hv hx]; exact (leftM_less hv ha (by assumption) (by assumption)).symm
   ·first | omega | (simp; omega)
   ·exact all_snoc hwr hv (left_pos ha (by assumption) (by assumption) (by rw [← left_at hv hx]; exact set_at hz) c88)
   show p.voters.length - ((i + 1)) < p.voters.length - i
   omega
  refine zaA<|zo<|zo<|zak<|E<|zm ?_
  have st91 : St h0 w0 h34 _ (o_10 :: rest) := st21.keep st36
  have l92 := l33.trans le35
  refine zbt (er := ([], [], [], [], 0)) (dsts := [73, 74, 75, 76, 77, 78, 79, 80, 81]) st91 Tryz.mixed<|zh 0 [] X t_kr t_kr X X (fun hD wD τD hL hS hO  => (zd (j := 0) (hL.sub hS) (m_c.up l92) X X X Tryz.isAgg47))<|zh 1 [] X t_kr t_kr X X (fun hD wD τD hL hS hO  => (zeZ (v := now_v) X))<|zcz<|zh 3 [] X t_kr t_kr X X (fun hD wD τD hL hS hO  => (zha X)) ?_
  refine zaF 4 (.res (fun h' res_ => Sl LInt h' res_ ([(hh : Int)])) (fun _ _ _ hl f => f.up hl)) [0] rfl t_kr t_kr ?_ ?_
  ·
   intro hD wD τD hL hS hO _ _
   have st93 := St.start hS
   refine zae (L := LInt) (xs := [(hh : Int)]) (cs := [.int .i64 (hh : Int)]) st93 (Enc.cons (L := LInt) (vs := [.int .i64 (hh : Int)]) (x := (hh : Int)) (h := hD) (X) Enc.nil) X X X ze Tryz.info3 X X X t_kr<|fun v94 w95 h98 le99 f96 st97=> ?_
   exact zr ⟨_, _, rfl, st97, _, rfl, f96⟩
  refine zcz<|zh 6 [] X t_kr t_kr X X (fun hD wD τD hL hS hO  => (zeZ (v := v25) X))<|zcz<|zcz<|zcj X X X X X X ⟨t_kr, X, t_kr, X, t_kr, X, X, t_kr, (zbP X (zbP X (zbP X (zbP X zcZ))))⟩<|fun hE101 w102 _ le103 st104 _ _=> ?_
  have l105 := l92.trans le103
  refine zaB rfl rfl (zaV rfl Tryz.call109 rfl) ((zer st104.sub (now_f.up l105) (by have q_ := zck hp; omega)).mono ?_)
  rintro _ w107 ⟨h108, v106, o111, rfl, le109, s113, f112⟩
  refine ⟨_, rfl, ?_⟩
  have st110 := st104.call s113
  have st114 : St h0 w0 h108 _ (o_10 :: o111 :: rest) := St.mid (A := [o_10]) st110
  refine zr ⟨_, rfl, _, _, le109, st114, ?_⟩
  intro hE116 w117 _ le118 st119 gv4_0x115 gf4_0x115
  refine zcN (k := 1) (nb := 8) st119 (f112.up le118) rfl gf4_0x115 rfl rfl rfl ze Tryz.info3 rfl rfl rfl (by decide) rfl (by first | omega | (simp only [zgK, ziu, List.length_append, List.length_cons, List.length_nil]; have q_ := zck hp; omega)) (by first | omega | (simp only [zgK, ziu, List.length_append, List.length_cons, List.length_nil]; have q_ := zck hp; omega)) ?_
  intro v120 o121 w122 _ e123 f124 st125
  subst e123
  refine zr ⟨_, rfl, _, _, Le.refl _, st125, ?_⟩
  intro hE127 w128 _ le129 st130 _ _ _ _
  obtain ⟨h131, le132, f133, st134⟩ := OSl.freeze (k := 1) st130 (f124.up le129) rfl (by first | omega | (simp only [zgK, ziu, List.length_append, List.length_cons, List.length_nil]; have q_ := zck hp; omega))
  obtain ⟨h135, le136, f137, st138⟩ := OSl.freeze (k := 0) st134 (hO_10.up ((((le103.trans le109).trans le118).trans le129).trans le132)) rfl (by first | omega | (simp only [zgK, ziu, List.length_append, List.length_cons, List.length_nil]; have q_ := zck hp; omega))
  have f139 := Sl.to f137 (show _ = leftL p (now ++ [(hh : Int)]) from leftM_all now _ (by omega))
  have st141 := st138.tl.tl
  refine zaB rfl rfl (zbN (fs := []) (cs := [.pointer (some ⟨p_b, 0, none⟩), .pointer (some ⟨y_b, 0, none⟩), .pointer (some ⟨m_b, 0, none⟩)]) rfl rfl Tryz.call128 rfl) ((ih_ (n_ - 1) (by omega) (f133.up le136) f139 (p := p) (p_f0.up (((((l105.trans le109).trans le118).trans le129).trans le132).trans le136)) (p_f1.up (((((l105.trans le109).trans le118).trans le129).trans le132).trans le136)) (p_f2.up (((((l105.trans le109).trans le118).trans le129).trans le132).trans le136)) (p_f3.up (((((l105.trans le109).trans le118).trans le129).trans le132).trans le136)) (p_f4.up (((((l105.trans le109).trans le118).trans le129).trans le132).trans le136)) (p_c.up (((((l105.trans le109).trans le118).trans le129).trans le132).trans le136)) (y_c.up (((((l105.trans le109).trans le118).trans le129).trans le132).trans le136)) (m_c.up (((((l105.trans le109).trans le118).trans le129).trans le132).trans le136)) hJm hJxm (hJm _ _ _ _ hJ (((((((le28.trans le35).trans le103).trans le109).trans le118).trans le129).trans le132).trans le136)) (fun a_ b_ c_ d_ e_ f_ g_ l_ => hY a_ b_ c_ d_ e_ f_ g_ ((((((l105.trans le109).trans le118).trans le129).trans le132).trans le136).trans l_)) hp (now_snoc hn hq (by omega) (fun v_ hv_ => hwr v_ (by rw [List.take_of_length_le (by omega)]; exact hv_))) (onway_next hw hq (by omega)) (by simp only [List.length_append, List.length_cons, List.length_nil]; omega) rfl st141).mono ?_)
  rintro _ w142 ⟨h143, rest144, b145, rfl, le146, st147, hj148, hx149⟩
  refine ⟨_, rfl, ?_⟩
  refine zr ⟨_, rfl, _, _, ((le132.trans le136).trans le146), st147, ?_⟩
  intro hE151 w152 _ le153 st154 
  refine zbr X X ?_
  refine zr ⟨_, rfl, _, _, Le.refl _, st154, ?_⟩
  intro hE155 w156 _ le157 st158 _ _ _ _ _ _ gv4_0x159 gf4_0x159 _ _
  refine AllDeps.fin X<|E ?_
  refine zad rfl (fun c160 => ?_) (fun c160 => ?_)
  ·
   refine W.sr<|zF X X<|Y<|zw<|zI<|zc<|zc<|zI<|zc<|zeu<|zb Tryz.results128 ?_
   exact ⟨_, _, false, rfl, ((((((((l105.trans le109).trans le118).trans le129).trans le132).trans le136).trans le146).trans le153).trans le157), st158, fun e_ => (by cases e_), fun _ => (hx149 (by simpa using c160)).elim fun p_ q_ => ⟨p_, hJxm _ _ _ _ q_ (le153.trans le157)⟩⟩
  refine zx<|zK<|E<|zl<|zay X X t_om X<|zf X X<|Y ?_
  have l161 := (((((((l105.trans le109).trans le118).trans le129).trans le132).trans le136).trans le146).trans le153).trans le157
  refine ⟨⟨hh + 1, rest144, hE155⟩, ⟨rfl, trivial⟩, ?_, ⟨l161, st158, ?_, ?_⟩, ?_⟩
  ·exact zal
  ·first | omega | (simp; omega)
  ·rw [ziC, ← List.append_assoc]; exact hJm _ _ _ _ (hj148 (by simpa using c160)) (le153.trans le157)
  show q.heads.length - ((hh + 1)) < q.heads.length - hh
  omega
 refine zaA<|zo<|zo<|zak<|E<|W.sr<|zF X X<|Y<|zw<|zeu<|have st162:=st21.over st23;zb Tryz.results128 ?_
 exact ⟨_, _, true, rfl, le20, st162, fun _ => by rw [truthsK_all hq (show q.heads.length = hh by omega)]; exact hJm _ _ _ _ hJ (Le.refl _), fun e_ => (by cases e_)⟩
theorem zgA {h0 h : Heap} {w0 w : World} {rest : Own} {l : Nat} {p_b : Nat} {p : Poll} {p_v0 : Value} (p_f0 : Sl LChapter h p_v0 p.text.chapters) {p_v1 : Value} (p_f1 : Sl LRule h p_v1 p.lexicon.rules) {p_v2 : Value} (p_f2 : Sl LDecision h p_v2 p.lexicon.decisions) {p_v3 : Value} (p_f3 : Sl LQuestion h p_v3 p.questions) {p_v4 : Value} (p_f4 : Sl LVoter h p_v4 p.voters) (p_c : Cells h p_b 0 [p_v0, p_v1, p_v2, p_v3, p_v4]) {J Jx : List (List Int) → Heap → Own → Prop} (hJm : ∀ xs h1 h2 o, J xs h1 o → Le h1 h2 → J xs h2 o) (hJxm : ∀ xs h1 h2 o, Jx xs h1 o → Le h1 h2 → Jx xs h2 o) (hJ0 : J [] h rest) (hY : ∀ pre x h1 w1 B rest us, Le h h1 → J pre h1 rest → St h0 w0 h1 w1 (B ++ rest) → (∃ u_, us = [u_] ∧ Sl LInt h1 u_ x ∧ (zB p)[pre.length]? = some x) → Yields Tryz.prog l us.toArray w1 fun v w2 => ∃ h2 rest2, Le h1 h2 ∧ St h0 w0 h2 w2 (B ++ rest2) ∧ ((v = .bool true ∧ J (pre ++ [x]) h2 rest2) ∨ (v = .bool false ∧ Jx (pre ++ [x]) h2 rest2))) (hp : zcF p = true) (st0 : St h0 w0 h w rest) : Calls Tryz.prog 127 #[.func (.yield l) #[] #[], .pointer (some ⟨p_b, 0, none⟩)] w (fun e_ w' => ∃ h' rest' v_, e_ = .returned v_ ∧ Le h h' ∧ St h0 w0 h' w' rest' ∧ ((∃ xs, xs = zB p ∧ J xs h' rest') ∨ (∃ pre, Jx pre h' rest'))) := by
 refine zL (n := 31) Tryz.func127 X X X<|have p_f0_b:=p_f0.le;have p_f1_b:=p_f1.le;have p_f2_b:=p_f2.le;have p_f3_b:=p_f3.le;have p_f4_b:=p_f4.le;have st1:=St.start st0.sub;have hpl:=zck hp;W.sr<|zJ st1 (v := (.func (.yield l) #[] #[])) (cs := [(.func (.yield l) #[] #[])]) X X X<|fun b2 w3 h4 le5 hc6 st7=>Y<|W.sr<|O X zeM X zaI X X<|O X zD X zbi X X<|U (j := 4) st7.sub (p_c.up le5) X X X zbF X<|zaC (p_f4.up le5) X zan X ?_
 refine OpsL.makeInts (m := p.voters.length) st7 rfl ze Tryz.info3 rfl rfl rfl rfl (by show 8 * (p.voters.length) ≤ 281474976710656; omega) (by omega) ?_
 intro v8 o9 w10 f11 st12
 refine zaa (v := v8) X X<|Y<|zm<|W.sr<|O X zeM X zaI X X<|O X zD X zbi X X<|U (j := 4) st12.sub (p_c.up le5) X X X zbF X<|zaC (p_f4.up le5) X zan X<|zf X X<|Y<|zH ?_
 refine zao ([4, 5] ++ t_rg 16 11) (G := Nat × List (Nat × Obj) × Heap) (fun ⟨i, o_3, h13⟩ => [(16, .int .i64 (i : Int))]) (fun ⟨i, o_3, h13⟩ w' => Le h4 h13 ∧ St h w h13 w' [o_3] ∧ (OSl LInt 3 h13 v8 ((zhk p i)) o_3) ∧ (i ≤ p.voters.length)) (fun ⟨i, o_3, h13⟩ => p.voters.length - i) ⟨0, o9, h4⟩ ⟨rfl, trivial⟩ ⟨Le.refl _, st12, (OSl.to f11 (by rw [startL_zero])), zaP⟩ ?_
 rintro ⟨i, o_3, h13⟩ _ w16 ⟨le14, st15, hO_3, hi⟩
 refine W.sr<|zaO X X X<|Y<|zm ?_
 refine zG rfl (fun c17 => ?_) (fun c17 => ?_)
 ·
  refine zx<|E<|zm<|zH<|W.sr<|zf X X ?_
  obtain ⟨v, hv⟩ : ∃ y_, (p.voters)[i]? = some y_ := t_ge (by omega)
  have l22 := le5.trans le14
  obtain ⟨b18, o19, _, he21, hc20, hr_v⟩ := Sl.elem (p_f4.up l22) hv
  obtain ⟨v23, rfl, f24⟩ := hr_v
  have f24_b := f24.le
  refine zT he21 X X (hk := X) (hu := zan) (hz := zbq) X<|zz st15.sub hc20 X Tryz.isAgg79 zbq X X<|zX st15 Tryz.zeroValue79 X X<|fun b25 w26 st27=>zt X X<|zN st27 (k := 1) X X X (za X (za X (za f24.one zau))) zbq X X X<|fun w28 st29=> ?_
  obtain ⟨h30, le31, hb32, st34⟩ := st29.freeze (k := 1) rfl
  have hc33 := Cells.of hb32
  refine Y<|zl<|zO (v := v8) X X<|zf X X<|O X zaW X zn X X<|U (j := 1) st34.sub hc33 X X X zA X ?_
  obtain ⟨y35, hy35⟩ : ∃ y_, ((zhk p i))[i]? = some y_ := t_ge (by rw [startL_len (by omega)]; omega)
  obtain ⟨b36, o37, cur38, _, e41, he39, hr_y35, hc40⟩ := OSl.elem (hO_3.up le31) hy35
  subst e41
  obtain rfl := hr_y35
  refine zT he39 X X (hk := X) (hu := ze) (hz := zn) X ?_
  refine zek (k := 0) st34 (hO_3.up le31) rfl (by rw [startL_len (by omega)]; omega) he39 rfl rfl (rfl) zn ?_
  intro o42 w43 _ e44 f45 st46
  subst e44
  refine zr<|zK<|E<|zl<|zay X X t_om X<|zf X X<|Y ?_
  refine ⟨⟨i + 1, o42, h30⟩, ⟨rfl, trivial⟩, ?_, ⟨(le14.trans le31), st46.take 1, ?_, ?_⟩, ?_⟩
  ·exact zal
  ·refine OSl.to f45 ?_
   exact startL_set hv
  ·first | omega | (simp; omega)
  show p.voters.length - ((i + 1)) < p.voters.length - i
  omega
 refine zaA<|zo<|zo<|zak<|E<|W.sr<|zX st15 Tryz.zeroValue47 X X<|fun b47 w48 st49=>Y<|W.sr<|zcH X X X<|zaM st49 (k := 1) X X X X Tryz.sizeOf47 X X X<|fun w50 st51=> ?_
 obtain ⟨h52, le53, hb54, st56⟩ := st51.freeze (k := 1) rfl
 have hc55 := Cells.of hb54
 refine Y<|zl<|U (j := 0) st56.sub hc55 X X X Tryz.isAgg47 X<|zO (v := v8) X X ?_
 obtain ⟨h57, le58, f59, st60⟩ := OSl.freeze (k := 0) st56 (hO_3.up le53) rfl (by rw [startL_len (by omega)]; omega)
 have f61 := Sl.to f59 (show _ = leftL p [] from startL_all (by omega))
 have st62 := st0.over st60
 refine zaB rfl rfl (zbN (fs := []) (cs := [.pointer (some ⟨p_b, 0, none⟩), .pointer (some ⟨b2, 0, none⟩), .pointer (some ⟨b47, 0, none⟩)]) rfl rfl Tryz.call128 rfl) ((zix p.questions.length (Sl.nil _ _) f61 (p := p) (p_f0.up (((le5.trans le14).trans le53).trans le58)) (p_f1.up (((le5.trans le14).trans le53).trans le58)) (p_f2.up (((le5.trans le14).trans le53).trans le58)) (p_f3.up (((le5.trans le14).trans le53).trans le58)) (p_f4.up (((le5.trans le14).trans le53).trans le58)) (p_c.up (((le5.trans le14).trans le53).trans le58)) (hc6.up ((le14.trans le53).trans le58)) (hc55.up le58) hJm hJxm (hJm _ _ _ _ hJ0 (((le5.trans le14).trans le53).trans le58)) (fun a_ b_ c_ d_ e_ f_ g_ l_ => hY a_ b_ c_ d_ e_ f_ g_ ((((le5.trans le14).trans le53).trans le58).trans l_)) hp (now_nil hp) (onway_nil p) (by omega) rfl st62).mono ?_)
 rintro _ w63 ⟨h64, rest65, b66, rfl, le67, st68, hj69, hx70⟩
 refine ⟨_, rfl, ?_⟩
 refine zr<|Post.end0 Tryz.results127 ?_
 refine ⟨_, _, _, rfl, ((((le5.trans le14).trans le53).trans le58).trans le67), st68, ?_⟩
 cases e_ : b66
 ·exact .inr (hx70 e_)
 exact .inl ⟨_, rfl, by rw [← truthsFrom_nil]; exact hj69 e_⟩
end Go.Pk
