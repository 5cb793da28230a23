/- A PART OF THE PROOF: contracts of functions, each walked once (much of it printed by a program of the author's own). -/
import Derived.Test.YtfpiiheehdedmaaGreatDoorT2
import Derived.Test.YtfpiiheehdedmaaGreatDoorT3
import Derived.Test.YtfpiiheehdedmaaGreatDoorT8
import Derived.Test.YtfpiiheehdedmaaGreatDoorT7
import Derived.Test.YtfpiiheehdedmaaGreatDoorT1
set_option linter.unusedSimpArgs false
set_option linter.unusedVariables false
set_option maxRecDepth 4000
namespace Go.Pk
open Go Go.RowKit Go.Proofs
theorem zdy {h : Heap} {w : World} (hs : Sub h w) (n : Int) (lo : Int) (hi : Int) : Calls Tryz.prog 57 #[.int .i64 n, .int .i64 lo, .int .i64 hi] w (Rets h w (fun _ _ res_ => res_ = .bool (inB n lo hi))) := by
 refine zP (n := 15) Tryz.func57 X X X<|have st0:=t_s0 hs;W.sr<|zF X X<|Y<|W.sr<|zh X X<|zh X X<|zhq X X X<|zS X X ?_
 refine zY (d := 10) rfl (fun g1 => ?_) (fun g1 => ?_)
 ·
  refine Z X X X<|zh X X<|Z X X X<|zh X X<|Z X X X<|zi X X (r_leq X X)<|zT (v := (.bool _)) X X X<|zF X X<|Y<|zw<|zb Tryz.results57 ?_
  refine ⟨h, _, rfl, st0.done, ?_⟩
  refine zx ?_
  first | (simp_all [inB]; done) | (simp_all [inB]; omega)
 refine M X X X X X<|M X X X X X<|M X X X X X<|zN (v := (.bool _)) X X X<|zF X X<|Y<|zw<|zb Tryz.results57 ?_
 refine ⟨h, _, rfl, st0.done, ?_⟩
 refine zx ?_
 first | (simp_all [inB]; done) | (simp_all [inB]; omega)
set_option maxHeartbeats 4000000 in
theorem c_postilref07_Poll {h : Heap} {w : World} (hs : Sub h w) {p : Poll} {p_v0 : Value} (p_f0 : Sl LChapter h p_v0 p.text.chapters) {p_v1 : Value} (p_f1 : Sl LRule h p_v1 p.lexicon.rules) {p_v2 : Value} (p_f2 : Sl LDecision h p_v2 p.lexicon.decisions) {p_v3 : Value} (p_f3 : Sl LQuestion h p_v3 p.questions) {p_v4 : Value} (p_f4 : Sl LVoter h p_v4 p.voters) (ht : zbm p.text = true) : Calls Tryz.prog 105 #[.agg #[p_v0, p_v1, p_v2, p_v3, p_v4]] w (Rets h w (fun _ _ res_ => res_ = .bool (zcJ p))) := by
 refine zP (n := 162) Tryz.func105 X X X<|have st0:=t_s0 hs;have p_f0_b:=p_f0.le;have p_f1_b:=p_f1.le;have p_f2_b:=p_f2.le;have p_f3_b:=p_f3.le;have p_f4_b:=p_f4.le;W.sr<|zJ st0 (cs := [p_v0, p_v1, p_v2, p_v3, p_v4]) X X X<|fun b1 w2 h3 le4 hc5 st6=>zF X X<|Y<|zj<|W.sr<|E X zt X zbe X X<|U (j := 3) st6.sub hc5 X X X zby X<|zaH (p_f3.up le4) X zaq X<|zdm X X X<|zS X X ?_
 refine zY (d := 14) rfl (fun g7 => ?_) (fun g7 => ?_)
 ·
  refine M X X X X X<|M X X X X X<|M X X X X X<|M X X X X X<|zT (v := (.bool _)) X X X<|Y ?_
  refine zae rfl (fun c8 => ?_) (fun c8 => ?_)
  ·
   refine W.sr<|zF X X<|Y<|zw<|zd<|zb zei ?_
   refine ⟨h3, _, rfl, st6.done, ?_⟩
   refine zx ?_
   first | (simp_all [zcJ]; done) | (simp_all [zcJ]; omega)
  cases c8
 refine Z X X X<|E X zt X zaL X X<|Z X X X<|U (j := 4) st6.sub hc5 X X X zbj X<|Z X X X<|zaH (p_f4.up le4) X zaa X<|Z X X X<|zdm X X X<|zN (v := (.bool _)) X X X<|Y ?_
 refine zC rfl (fun c9 => ?_) (fun c9 => ?_)
 ·
  refine W.sr<|zF X X<|Y<|zw<|zd<|zb zei ?_
  refine ⟨h3, _, rfl, st6.done, ?_⟩
  refine zx ?_
  first | (simp_all [zcJ]; done) | (simp_all [zcJ]; omega)
 refine zy<|O<|zj<|W.sr<|zq X X<|Y<|zG ?_
 refine zax ([2, 3, 4, 5] ++ t_rg 20 75) (G := Nat × Heap) (fun ⟨i, h10⟩ => [(3, .int .i64 (i : Int))]) (fun ⟨i, h10⟩ w' => Le h3 h10 ∧ St h w h10 w' [] ∧ (i ≤ p.questions.length) ∧ (∀ j, j < i → zdN p j = true)) (fun ⟨i, h10⟩ => p.questions.length - i) ⟨0, h3⟩ ⟨rfl, trivial⟩ ⟨Le.refl _, st6, zaW, zaW⟩ ?_
 rintro ⟨i, h10⟩ _ w13 ⟨le11, st12, hi, hA⟩
 refine zj<|W.sr<|zh X X<|E X zt X zbe X X<|U (j := 3) st12.sub (hc5.up le11) X X X zby X<|have l14:=le4.trans le11;zaH (p_f3.up l14) X zaq X<|zaX X X X<|Y ?_
 refine zC rfl (fun c15 => ?_) (fun c15 => ?_)
 ·
  refine zy<|O<|zj<|zG<|W.sr<|E X zt X zbe X X<|U (j := 3) st12.sub (hc5.up le11) X X X zby X<|zh X X ?_
  obtain ⟨q, hq⟩ : ∃ y_, (p.questions)[i]? = some y_ := t_ge (by omega)
  obtain ⟨b16, o17, _, he19, hc18, hr_q⟩ := Sl.elem (p_f3.up l14) hq
  obtain ⟨v20, rfl, f21⟩ := hr_q
  have f21_b := f21.le
  refine zU he19 X X (hk := X) (hu := zaq) (hz := zbR) X<|zr st12.sub hc18 X Tryz.isAgg84 zbR X X<|zQ st12 Tryz.zeroValue84 X X<|fun b22 w23 st24=>zI st24 (k := 0) X X X (za X (za X (za X (za f21.one zan)))) zbR X X X<|fun w25 st26=> ?_
  obtain ⟨h27, le28, hb29, st31⟩ := st26.freeze (k := 0) rfl
  have hc30 := Cells.of hb29
  refine Y<|zj<|zj ?_
  refine W.join (t_rg 32 30) (G := Heap) (fun h32 => [(61, .bool (!(zej p i q)))]) (fun h32 w' => Le h27 h32 ∧ St h w h32 w' [[]]) ?_ ?_
  ·
   refine zbX Tryz.mixed t_kr (Cls h27 _) (Cls.drew st31)<|zZ X zt X zaA X X<|zH X X (fun _ hC => (zcD (j := 0) hC.sub (hc5.up (le11.trans le28)) (us := [p_v0]) X X zbk zaA X X))<|zZ X zaF X zW X X<|zH X X (fun _ hC => (zcD (j := 0) hC.sub hc30 (us := [.int .i64 (q.at_.chapter), .int .i64 (q.at_.line), .int .i64 (q.at_.word)]) X X zaQ zW X X))<|have l36:=l14.trans le28;zcW X X (fun _ => zaV X Tryz.call113 X) (fun _ hC => Rets.quiet hC (zhv hC.sub (t := p.text) (p_f0.up l36) (p := q.at_)))<|u_not X X<|zhr X X ?_
   refine zgc (d := 38) rfl (fun g37 => ?_) (fun g37 => ?_)
   ·
    refine zL X X X X X<|zL X X X X X<|zL X X X X X<|zap X X X X<|zap X X X X<|zap X X X X<|zap X X X X<|zap X X X X<|zap X X X X<|zap X X X X<|zap X X X X<|zap X X X X<|zap X X X X<|zap X X X X<|zL X X X X X<|zfP (v := (.bool _)) X X X<|zhr X X<|zL X X X X X<|zL X X X X X<|zL X X X X X<|zL X X X X X<|zL X X X X X<|zfP (v := (.bool _)) X X X<|zbC ?_
    rintro w38 ⟨h39, s40⟩
    have st41 := st31.call0 s40
    refine ⟨rfl, h39, ⟨?_, trivial⟩, ?_, s40.le, st41⟩
    ·exact zx (by simp only [zej]; first | (simp_all; done) | (rw [hq1]; simp_all; done) | (simp_all; omega))
    exact zau
   refine zD X X X<|zde X X<|zD X X X<|u_gtr X X X<|zD X X X<|zhr X X ?_
   refine ziq (d := 41) rfl (fun g42 => ?_) (fun g42 => ?_)
   ·
    refine zD X X X<|zZ X zt X zbe X X<|zD X X X<|zH X X (fun _ hC => (zf (j := 3) hC.sub (hc5.up (le11.trans le28)) X X X zby))<|zD X X X<|zde X X<|zD X X X<|u_sub X X t_om X<|zD X X X ?_
    obtain ⟨q1, hq1⟩ : ∃ y_, (p.questions)[(i - 1)]? = some y_ := t_ge (by omega)
    obtain ⟨b43, o44, _, he46, hc45, hr_q1⟩ := Sl.elem (p_f3.up l36) hq1
    obtain ⟨v47, rfl, f48⟩ := hr_q1
    have f48_b := f48.le
    refine zH rfl rfl (fun _ _ => (zav he46 rfl rfl (hk := (show _ = (((i - 1) : Nat) : Int) by omega)) (hu := zaq) (hz := zbR))) ?_
    refine zD X X X<|zZ X zaF X zW X X<|zD X X X<|zH X X (fun _ hC => (zcD (j := 0) hC.sub hc45 (us := [.int .i64 (q1.at_.chapter), .int .i64 (q1.at_.line), .int .i64 (q1.at_.word)]) X X zaQ zW X X))<|zD X X X<|zZ X zaF X zW X X<|zD X X X<|zH X X (fun _ hC => (zcD (j := 0) hC.sub hc30 (us := [.int .i64 (q.at_.chapter), .int .i64 (q.at_.line), .int .i64 (q.at_.word)]) X X zaQ zW X X))<|zD X X X<|zcW X X (fun _ => zaV X Tryz.call146 X) (fun _ hC => Rets.quiet hC (c_postilref01_Before hC.sub (a := q1.at_) (b := q.at_)))<|zD X X X<|u_not X X<|zD X X X<|zfP (v := (.bool _)) X X X<|zef (v := (.bool _)) X X X<|zhr X X ?_
    refine zgc (d := 55) rfl (fun g49 => ?_) (fun g49 => ?_)
    ·
     refine zL X X X X X<|zL X X X X X<|zL X X X X X<|zL X X X X X<|zL X X X X X<|zfP (v := (.bool _)) X X X<|zbC ?_
     rintro w50 ⟨h51, s52⟩
     have st53 := st31.call0 s52
     refine ⟨rfl, h51, ⟨?_, trivial⟩, ?_, s52.le, st53⟩
     ·exact zx (by simp only [zej]; first | (simp_all; done) | (rw [hq1]; simp_all; done) | (simp_all; omega))
     exact zau
    refine zD X X X<|zZ X zaF X zch X X<|zD X X X<|zH X X (fun _ hC => (zf (j := 3) hC.sub hc30 X X X zcy))<|zD X X X<|u_len (f21.up le28) X zaZ X<|zD X X X<|zcW X X (fun _ => zaV X Tryz.call57 X) (fun _ hC => Rets.quiet hC (zdy hC.sub _ _ _))<|zD X X X<|u_not X X<|zef (v := (.bool _)) X X X<|zbC ?_
    rintro w54 ⟨h55, s56⟩
    have st57 := st31.call0 s56
    refine ⟨rfl, h55, ⟨?_, trivial⟩, ?_, s56.le, st57⟩
    ·exact zx (by simp only [zej]; first | (simp_all; done) | (rw [hq1]; simp_all; done) | (simp_all; omega))
    exact zau
   refine zL X X X X X<|zL X X X X X<|zL X X X X X<|zL X X X X X<|zL X X X X X<|zL X X X X X<|zL X X X X X<|zL X X X X X<|zL X X X X X<|zL X X X X X<|zL X X X X X<|zD X X X<|zef (v := (.bool _)) X X X<|zef (v := (.bool _)) X X X<|zhr X X<|zD X X X<|zZ X zaF X zch X X<|zD X X X<|zH X X (fun _ hC => (zf (j := 3) hC.sub hc30 X X X zcy))<|zD X X X<|u_len (f21.up le28) X zaZ X<|zD X X X<|zcW X X (fun _ => zaV X Tryz.call57 X) (fun _ hC => Rets.quiet hC (zdy hC.sub _ _ _))<|zD X X X<|u_not X X<|zef (v := (.bool _)) X X X<|zbC ?_
   rintro w58 ⟨h59, s60⟩
   have st61 := st31.call0 s60
   refine ⟨rfl, h59, ⟨?_, trivial⟩, ?_, s60.le, st61⟩
   ·exact zx (by simp only [zej]; first | (simp_all; done) | (rw [hq1]; simp_all; done) | (simp_all; omega))
   exact zau
  rintro h32 _ w35 ⟨le33, st34⟩
  refine O ?_
  refine zae rfl (fun c62 => ?_) (fun c62 => ?_)
  ·
   refine W.sr<|zF X X<|Y<|zw<|zd<|zK<|zd<|zd<|zK<|zd<|zb zei ?_
   refine ⟨h32, _, rfl, st34.done, ?_⟩
   refine zx ?_
   exact (poll_q (quest_no hq (by simpa using c62))).symm
  refine zy<|O<|zj ?_
  have hq0 := quest_ok (p := p) (i := i) (q := q) (by simpa using c62)
  refine zn<|zq X X<|Y<|zG ?_
  refine zax ([2, 5] ++ t_rg 62 33) (G := Nat × Heap) (fun ⟨k, h63⟩ => [(5, .int .i64 (k : Int))]) (fun ⟨k, h63⟩ w' => Le h32 h63 ∧ St h w h63 w' [[]] ∧ (k ≤ q.heads.length) ∧ (∀ j, j < k → zcY q.heads j = true)) (fun ⟨k, h63⟩ => q.heads.length - k) ⟨0, h32⟩ ⟨rfl, trivial⟩ ⟨Le.refl _, st34, zaW, zaW⟩ ?_
  rintro ⟨k, h63⟩ _ w66 ⟨le64, st65, hk, hB⟩
  refine zj<|W.sr<|zh X X<|E X zaF X zch X X<|U (j := 3) st65.sub (hc30.up (le33.trans le64)) X X X zcy X<|zaH (f21.up ((le28.trans le33).trans le64)) X zaZ X<|zaX X X X<|Y ?_
  refine zC rfl (fun c67 => ?_) (fun c67 => ?_)
  ·
   refine zy<|O<|zj<|zG<|zj ?_
   refine W.join (t_rg 69 26) (G := Heap) (fun h68 => [(94, .bool (!(zcY q.heads k)))]) (fun h68 w' => Le h63 h68 ∧ St h w h68 w' [[]]) ?_ ?_
   ·
    refine zbX Tryz.mixed t_kr (Cls h63 _) (Cls.drew st65)<|zZ X zaF X zch X X<|zH X X (fun _ hC => (zf (j := 3) hC.sub (hc30.up (le33.trans le64)) X X X zcy))<|zde X X ?_
    obtain ⟨hd, hhd⟩ : ∃ y_, (q.heads)[k]? = some y_ := t_ge (by omega)
    obtain ⟨b72, o73, _, he75, hc74, hr_hd⟩ := Sl.elem (f21.up ((le28.trans le33).trans le64)) hhd
    obtain ⟨rfl, ls76, lu77⟩ := hr_hd
    simp only [big] at ls76
    refine zbZ he75 X X (hk := X) (hu := zaZ) (hz := zai) X<|zH X X (fun _ hC => (zat hC.sub hc74 X zbQ zai X))<|zcW X X (fun _ => zaV X Tryz.call147 X) (fun _ hC => Rets.quiet hC (zeD hC.sub (hd := hd) zbr t_u8))<|u_not X X<|zhr X X ?_
    refine zgc (d := 76) rfl (fun g78 => ?_) (fun g78 => ?_)
    ·
     refine zL X X X X X<|zL X X X X X<|zL X X X X X<|zap X X X X<|zap X X X X<|zap X X X X<|zap X X X X<|zap X X X X<|zap X X X X<|zap X X X X<|zap X X X X<|zap X X X X<|zap X X X X<|zap X X X X<|zap X X X X<|zap X X X X<|zL X X X X X<|zfP (v := (.bool _)) X X X<|zbC ?_
     rintro w79 ⟨h80, s81⟩
     have st82 := st65.call0 s81
     refine ⟨rfl, h80, ⟨?_, trivial⟩, ?_, s81.le, st82⟩
     ·exact zx (by simp only [zcY, hhd]; first | (simp_all; done) | (rw [hh1]; simp_all; done) | (simp_all; omega))
     exact zau
    refine zD X X X<|zde X X<|zD X X X<|u_gtr X X X<|zD X X X<|zhr X X ?_
    refine ziq (d := 79) rfl (fun g83 => ?_) (fun g83 => ?_)
    ·
     refine zD X X X<|zZ X zaF X zch X X<|zD X X X<|zH X X (fun _ hC => (zf (j := 3) hC.sub (hc30.up (le33.trans le64)) X X X zcy))<|zD X X X<|zde X X<|zD X X X<|u_sub X X t_om X<|zD X X X ?_
     obtain ⟨h1, hh1⟩ : ∃ y_, (q.heads)[(k - 1)]? = some y_ := t_ge (by omega)
     obtain ⟨b84, o85, _, he87, hc86, hr_h1⟩ := Sl.elem (f21.up ((le28.trans le33).trans le64)) hh1
     obtain ⟨rfl, ls88, lu89⟩ := hr_h1
     simp only [big] at ls88
     refine zH rfl rfl (fun _ _ => (zav he87 rfl rfl (hk := (show _ = (((k - 1) : Nat) : Int) by omega)) (hu := zaZ) (hz := zai))) ?_
     refine zD X X X<|zH X X (fun _ hC => (zat hC.sub hc86 X zbQ zai X))<|zD X X X<|zZ X zaF X zch X X<|zD X X X<|zH X X (fun _ hC => (zf (j := 3) hC.sub (hc30.up (le33.trans le64)) X X X zcy))<|zD X X X<|zde X X<|zD X X X<|zbZ he75 X X (hk := X) (hu := zaZ) (hz := zai) X<|zD X X X<|zH X X (fun _ hC => (zat hC.sub hc74 X zbQ zai X))<|zD X X X<|zcW X X (fun _ => zaV X Tryz.call148 X) (fun _ hC => Rets.quiet hC (c_postilref04_Less hC.sub (a := h1) zbr t_u8 (b := hd) zbr t_u8))<|zD X X X<|u_not X X<|zD X X X<|zfP (v := (.bool _)) X X X<|zef (v := (.bool _)) X X X<|zbC ?_
     rintro w90 ⟨h91, s92⟩
     have st93 := st65.call0 s92
     refine ⟨rfl, h91, ⟨?_, trivial⟩, ?_, s92.le, st93⟩
     ·exact zx (by simp only [zcY, hhd]; first | (simp_all; done) | (rw [hh1]; simp_all; done) | (simp_all; omega))
     exact zau
    refine zL X X X X X<|zL X X X X X<|zL X X X X X<|zL X X X X X<|zL X X X X X<|zL X X X X X<|zL X X X X X<|zL X X X X X<|zL X X X X X<|zL X X X X X<|zL X X X X X<|zL X X X X X<|zL X X X X X<|zD X X X<|zef (v := (.bool _)) X X X<|zef (v := (.bool _)) X X X<|zbC ?_
    rintro w94 ⟨h95, s96⟩
    have st97 := st65.call0 s96
    refine ⟨rfl, h95, ⟨?_, trivial⟩, ?_, s96.le, st97⟩
    ·exact zx (by simp only [zcY, hhd]; first | (simp_all; done) | (rw [hh1]; simp_all; done) | (simp_all; omega))
    exact zau
   rintro h68 _ w71 ⟨le69, st70⟩
   refine O ?_
   refine zae rfl (fun c98 => ?_) (fun c98 => ?_)
   ·
    refine W.sr<|zF X X<|Y<|zw<|zK<|zd<|zd<|zK<|zK<|zd<|zd<|zK<|zd<|zb zei ?_
    refine ⟨h68, _, rfl, st70.done, ?_⟩
    refine zx ?_
    exact (poll_q2 hq (k := k) (by simpa using c98)).symm
   refine zy<|zO<|O<|zn<|zh X X<|zaM X X t_om X<|zq X X<|Y ?_
   refine ⟨⟨k + 1, h68⟩, ⟨rfl, trivial⟩, ?_, ⟨(le64.trans le69), st70, ?_, ?_⟩, ?_⟩
   ·exact zau
   ·first | omega | (simp; omega)
   ·exact zdf hB (by simpa using c98)
   show q.heads.length - ((k + 1)) < q.heads.length - k
   omega
  refine zaI<|zm<|zm<|zam<|zO<|O<|zn<|zh X X<|zaM X X t_om X<|zq X X<|Y ?_
  have hqi : zdN p i = true := by simp only [zdN, hq, hq0.1, hq0.2.1, hq0.2.2, Bool.and_true, Bool.true_and]; exact zgJ hB (by omega)
  have l99 := ((le11.trans le28).trans le33).trans le64
  refine ⟨⟨i + 1, h63⟩, ⟨rfl, trivial⟩, ?_, ⟨l99, st65.take 0, ?_, ?_⟩, ?_⟩
  ·exact zau
  ·first | omega | (simp; omega)
  ·exact zdf hA hqi
  show p.questions.length - ((i + 1)) < p.questions.length - i
  omega
 refine zaI<|zm<|zm<|zam<|O<|zj<|W.sr<|zq X X<|Y<|zG ?_
 refine zax ([2, 6, 7, 8, 9] ++ t_rg 95 67) (G := Nat × Heap) (fun ⟨i, h100⟩ => [(6, .int .i64 (i : Int))]) (fun ⟨i, h100⟩ w' => Le h10 h100 ∧ St h w h100 w' [] ∧ (i ≤ p.voters.length) ∧ (∀ j, j < i → zdM p j = true)) (fun ⟨i, h100⟩ => p.voters.length - i) ⟨0, h10⟩ ⟨rfl, trivial⟩ ⟨Le.refl _, st12, zaW, zaW⟩ ?_
 rintro ⟨i, h100⟩ _ w103 ⟨le101, st102, hj, hV⟩
 refine zj<|W.sr<|zh X X<|E X zt X zaL X X<|U (j := 4) st102.sub (hc5.up (le11.trans le101)) X X X zbj X<|have l104:=l14.trans le101;zaH (p_f4.up l104) X zaa X<|zaX X X X<|Y ?_
 refine zC rfl (fun c105 => ?_) (fun c105 => ?_)
 ·
  refine zy<|O<|zj<|zG<|W.sr<|E X zt X zaL X X<|U (j := 4) st102.sub (hc5.up (le11.trans le101)) X X X zbj X<|zh X X ?_
  obtain ⟨v, hv⟩ : ∃ y_, (p.voters)[i]? = some y_ := t_ge (by omega)
  obtain ⟨b106, o107, _, he109, hc108, hr_v⟩ := Sl.elem (p_f4.up l104) hv
  obtain ⟨v110, rfl, f111⟩ := hr_v
  have f111_b := f111.le
  refine zU he109 X X (hk := X) (hu := zaa) (hz := zaT) X<|zr st102.sub hc108 X zdU zaT X X<|zQ st102 zdt X X<|fun b112 w113 st114=>zI st114 (k := 0) X X X (za X (za X (za f111.one zan))) zaT X X X<|fun w115 st116=> ?_
  obtain ⟨h117, le118, hb119, st121⟩ := st116.freeze (k := 0) rfl
  have hc120 := Cells.of hb119
  refine Y<|zj<|zj ?_
  refine W.join (t_rg 107 19) (G := Heap) (fun h122 => [(125, .bool (!(voteB p v)))]) (fun h122 w' => Le h117 h122 ∧ St h w h122 w' [[]]) ?_ ?_
  ·
   refine zn<|E X zaz X zl X X<|U (j := 0) st121.sub hc120 X X X zz X<|ze st121 X X X Tryz.call57 X (zdy st121.sub _ _ _)<|fun r126 w127 h128 le129 st130 q131=> ?_
   obtain rfl := q131
   refine zbl X X<|zS X X ?_
   refine zaw (d := 111) rfl (fun g132 => ?_) (fun g132 => ?_)
   ·
    refine M X X X X X<|M X X X X X<|M X X X X X<|M X X X X X<|zT (v := (.bool _)) X X X<|zS X X<|M X X X X X<|M X X X X X<|M X X X X X<|M X X X X X<|M X X X X X<|M X X X X X<|M X X X X X<|zT (v := (.bool _)) X X X<|zp ?_
    refine ⟨rfl, h128, ⟨?_, trivial⟩, ?_, le129, st130⟩
    ·exact zx (by simp only [voteB]; first | (simp_all; done) | (simp_all; omega))
    exact zau
   refine Z X X X<|E X zaz X zl X X<|Z X X X<|U (j := 1) st130.sub (hc120.up le129) X X X zz X<|Z X X X<|ze st130 X X X Tryz.call57 X (zdy st130.sub _ _ _)<|fun r133 w134 h135 le136 st137 q138=> ?_
   obtain rfl := q138
   refine Z X X X<|zbl X X<|zN (v := (.bool _)) X X X<|zS X X ?_
   refine zaw (d := 117) rfl (fun g139 => ?_) (fun g139 => ?_)
   ·
    refine M X X X X X<|M X X X X X<|M X X X X X<|M X X X X X<|M X X X X X<|M X X X X X<|M X X X X X<|zT (v := (.bool _)) X X X<|zp ?_
    refine ⟨rfl, h135, ⟨?_, trivial⟩, ?_, (le129.trans le136), st137⟩
    ·exact zx (by simp only [voteB]; first | (simp_all; done) | (simp_all; omega))
    exact zau
   refine Z X X X<|E X zaz X zbs X X<|Z X X X<|U (j := 2) st137.sub (hc120.up (le129.trans le136)) X X X zce X<|Z X X X<|zaH (f111.up ((le118.trans le129).trans le136)) X zg X<|Z X X X<|E X zt X zbe X X<|Z X X X<|have l140:=(((le11.trans le101).trans le118).trans le129).trans le136;U (j := 3) st137.sub (hc5.up l140) X X X zby X<|Z X X X<|have l141:=((l104.trans le118).trans le129).trans le136;zaH (p_f3.up l141) X zaq X<|Z X X X<|zcf X X X<|zN (v := (.bool _)) X X X<|zp ?_
   refine ⟨rfl, h135, ⟨?_, trivial⟩, ?_, (le129.trans le136), st137⟩
   ·exact zx (by simp only [voteB]; first | (simp_all; done) | (simp_all; omega))
   exact zau
  rintro h122 _ w125 ⟨le123, st124⟩
  refine O ?_
  refine zae rfl (fun c142 => ?_) (fun c142 => ?_)
  ·
   refine W.sr<|zF X X<|Y<|zw<|zd<|zK<|zd<|zd<|zK<|zd<|zb zei ?_
   refine ⟨h122, _, rfl, st124.done, ?_⟩
   refine zx ?_
   exact (poll_v (vote_no hv (by simpa using c142))).symm
  refine zy<|O<|zj<|zj ?_
  have hv0 := vote_ok (p := p) (v := v) (by simpa using c142)
  refine zn<|zq X X<|Y<|zG ?_
  refine zax ([2, 8] ++ t_rg 126 14) (G := Nat × Heap) (fun ⟨k, h143⟩ => [(8, .int .i64 (k : Int))]) (fun ⟨k, h143⟩ w' => Le h122 h143 ∧ St h w h143 w' [[]] ∧ (k ≤ i) ∧ (((p.voters.take k).all fun u => decide (u.id ≠ v.id)) = true)) (fun ⟨k, h143⟩ => i - k) ⟨0, h122⟩ ⟨rfl, trivial⟩ ⟨Le.refl _, st124, zaW, zaW⟩ ?_
  rintro ⟨k, h143⟩ _ w146 ⟨le144, st145, hk, hI⟩
  refine zj<|W.sr<|zh X X<|zh X X<|zaX X X X<|Y ?_
  refine zC rfl (fun c147 => ?_) (fun c147 => ?_)
  ·
   refine zy<|O<|zj<|zG<|zj<|zbX Tryz.mixed t_kr (Cls h143 _) (Cls.drew st145)<|zZ X zt X zaL X X<|have l148:=(((le11.trans le101).trans le118).trans le123).trans le144;zH X X (fun _ hC => (zf (j := 4) hC.sub (hc5.up l148) X X X zbj))<|zde X X ?_
   obtain ⟨u, hu⟩ : ∃ y_, (p.voters)[k]? = some y_ := t_ge (by omega)
   have l153 := ((l104.trans le118).trans le123).trans le144
   obtain ⟨b149, o150, _, he152, hc151, hr_u⟩ := Sl.elem (p_f4.up l153) hu
   obtain ⟨v154, rfl, f155⟩ := hr_u
   have f155_b := f155.le
   refine zbZ he152 X X (hk := X) (hu := zaa) (hz := zaT) X<|zZ X zaz X zl X X<|zH X X (fun _ hC => (zf (j := 0) hC.sub hc151 X X X zz))<|zZ X zaz X zl X X<|zH X X (fun _ hC => (zf (j := 0) hC.sub (hc120.up (le123.trans le144)) X X X zz))<|u_eql X X X<|zbC ?_
   rintro w156 ⟨h157, s158⟩
   have st159 := st145.call0 s158
   refine O ?_
   refine zC rfl (fun c160 => ?_) (fun c160 => ?_)
   ·
    refine W.sr<|zF X X<|Y<|zw<|zK<|zd<|zd<|zK<|zd<|zK<|zd<|zd<|zK<|zd<|zb zei ?_
    refine ⟨h157, _, rfl, st159.done, ?_⟩
    refine zx ?_
    (refine (poll_v3 hv hu ?_ ?_).symm <;> first | omega | assumption)
   refine zy<|zO<|O<|zn<|zh X X<|zaM X X t_om X<|zq X X<|Y ?_
   refine ⟨⟨k + 1, h157⟩, ⟨rfl, trivial⟩, ?_, ⟨(le144.trans s158.le), st159, ?_, ?_⟩, ?_⟩
   ·exact zau
   ·first | omega | (simp; omega)
   ·rw [all_snocB hu, hI]; simp_all
   show i - ((k + 1)) < i - k
   omega
  refine zaI<|zm<|zm<|zam<|O<|W.sr<|zq X X<|Y<|zG ?_
  refine zax ([2, 9] ++ t_rg 140 22) (G := Nat × Heap) (fun ⟨m, h161⟩ => [(9, .int .i64 (m : Int))]) (fun ⟨m, h161⟩ w' => Le h143 h161 ∧ St h w h161 w' [[]] ∧ (m ≤ v.votes.length) ∧ (∀ j, j < m → zeU p v j = true)) (fun ⟨m, h161⟩ => v.votes.length - m) ⟨0, h143⟩ ⟨rfl, trivial⟩ ⟨Le.refl _, st145, zaW, zaW⟩ ?_
  rintro ⟨m, h161⟩ _ w164 ⟨le162, st163, hm, hN⟩
  refine zj<|W.sr<|zh X X<|E X zaz X zbs X X<|U (j := 2) st163.sub (hc120.up ((le123.trans le144).trans le162)) X X X zce X<|have l165:=((le118.trans le123).trans le144).trans le162;zaH (f111.up l165) X zg X<|zaX X X X<|Y ?_
  refine zC rfl (fun c166 => ?_) (fun c166 => ?_)
  ·
   refine zy<|O<|zj<|zG<|zj<|zbX Tryz.mixed t_kr (Cls h161 _) (Cls.drew st163)<|zZ X zaz X zbs X X<|zH X X (fun _ hC => (zf (j := 2) hC.sub (hc120.up ((le123.trans le144).trans le162)) X X X zce))<|zde X X ?_
   obtain ⟨n, hn⟩ : ∃ y_, (v.votes)[m]? = some y_ := t_ge (by omega)
   obtain ⟨b167, o168, _, he170, hc169, hr_n⟩ := Sl.elem (f111.up l165) hn
   obtain rfl := hr_n
   refine zbZ he170 X X (hk := X) (hu := zg) (hz := zl) X<|zH X X (fun _ hC => (zf (j := 0) hC.sub hc169 X X X zz))<|zZ X zt X zbe X X<|have l171:=((((le11.trans le101).trans le118).trans le123).trans le144).trans le162;zH X X (fun _ hC => (zf (j := 3) hC.sub (hc5.up l171) X X X zby))<|zde X X ?_
   obtain ⟨qk, hqk⟩ : ∃ y_, (p.questions)[m]? = some y_ := t_ge (by omega)
   have l176 := (((l104.trans le118).trans le123).trans le144).trans le162
   obtain ⟨b172, o173, _, he175, hc174, hr_qk⟩ := Sl.elem (p_f3.up l176) hqk
   obtain ⟨v177, rfl, f178⟩ := hr_qk
   have f178_b := f178.le
   refine zbZ he175 X X (hk := X) (hu := zaq) (hz := zbR) X<|zZ X zaF X zch X X<|zH X X (fun _ hC => (zf (j := 3) hC.sub hc174 X X X zcy))<|u_len f178 X zaZ X<|u_sub X X t_om X<|zcW X X (fun _ => zaV X Tryz.call57 X) (fun _ hC => Rets.quiet hC (zdy hC.sub _ _ _))<|u_not X X<|zbC ?_
   rintro w179 ⟨h180, s181⟩
   have st182 := st163.call0 s181
   refine O ?_
   refine zae rfl (fun c183 => ?_) (fun c183 => ?_)
   ·
    refine W.sr<|zF X X<|Y<|zw<|zK<|zd<|zd<|zK<|zK<|zd<|zd<|zK<|zd<|zb zei ?_
    refine ⟨h180, _, rfl, st182.done, ?_⟩
    refine zx ?_
    (refine (poll_v2 hv (k := m) ?_).symm; simp only [zeU, hn, hqk]; simp_all)
   refine zy<|zO<|O<|zn<|zh X X<|zaM X X t_om X<|zq X X<|Y ?_
   refine ⟨⟨m + 1, h180⟩, ⟨rfl, trivial⟩, ?_, ⟨(le162.trans s181.le), st182, ?_, ?_⟩, ?_⟩
   ·exact zau
   ·first | omega | (simp; omega)
   ·exact zdf hN (by simp only [zeU, hn, hqk]; simp_all)
   show v.votes.length - ((m + 1)) < v.votes.length - m
   omega
  refine zaI<|zm<|zm<|zam<|zO<|O<|zn<|zh X X<|zaM X X t_om X<|zq X X<|Y ?_
  have hvi : zdM p i = true := by simp only [zdM, hv, zfp, hv0.1, hv0.2.1, decide_eq_true hv0.2.2, Bool.and_true, Bool.true_and, Bool.and_eq_true]; exact ⟨zgJ hN (by omega), by rw [← hI]; congr 1; rw [show k = i by omega]⟩
  have l184 := (((le101.trans le118).trans le123).trans le144).trans le162
  refine ⟨⟨i + 1, h161⟩, ⟨rfl, trivial⟩, ?_, ⟨l184, st163.take 0, ?_, ?_⟩, ?_⟩
  ·exact zau
  ·first | omega | (simp; omega)
  ·exact zdf hV hvi
  show p.voters.length - ((i + 1)) < p.voters.length - i
  omega
 refine zaI<|zm<|zm<|zam<|O<|W.sr<|zF X X<|Y<|zw<|zb zei ?_
 refine ⟨h100, _, rfl, st102.done, ?_⟩
 refine zx ?_
 (refine (poll_true ?_ ?_ hA ?_ hV ?_).symm <;> omega)
theorem c_postilref07_Check {h : Heap} {w : World} (hs : Sub h w) {p : Poll} {p_v0 : Value} (p_f0 : Sl LChapter h p_v0 p.text.chapters) {p_v1 : Value} (p_f1 : Sl LRule h p_v1 p.lexicon.rules) {p_v2 : Value} (p_f2 : Sl LDecision h p_v2 p.lexicon.decisions) {p_v3 : Value} (p_f3 : Sl LQuestion h p_v3 p.questions) {p_v4 : Value} (p_f4 : Sl LVoter h p_v4 p.voters) : Calls Tryz.prog 59 #[.agg #[p_v0, p_v1, p_v2, p_v3, p_v4]] w (Rets h w (fun _ _ res_ => res_ = .int .i64 (zbM p))) := by
 refine zP (n := 15) Tryz.func59 X X X<|have st0:=t_s0 hs;have p_f0_b:=p_f0.le;have p_f1_b:=p_f1.le;have p_f2_b:=p_f2.le;have p_f3_b:=p_f3.le;have p_f4_b:=p_f4.le;W.sr<|zJ st0 (cs := [p_v0, p_v1, p_v2, p_v3, p_v4]) X X X<|fun b1 w2 h3 le4 hc5 st6=>zq X X<|Y<|zj<|W.sr<|E X zt X zaA X X<|zal (j := 0) st6.sub hc5 (us := [p_v0]) X X zbk zaA X X X<|E X zt X zaC X X<|zal (j := 1) st6.sub hc5 (us := [p_v1, p_v2]) X X zbL zaC X X X<|ze st6 X X X Tryz.call104 X (c_postilref04_Check st6.sub (t := p.text) (p_f0.up le4) (x := p.lexicon) (p_f1.up le4) (p_f2.up le4))<|fun r7 w8 h9 le10 st11 q12=> ?_
 obtain rfl := q12
 refine zq X X<|Y<|W.sr<|zh X X<|zcf X X X<|Y ?_
 refine zC rfl (fun c13 => ?_) (fun c13 => ?_)
 ·
  refine W.sr<|zh X X<|zq X X<|Y<|zw<|zd<|zb Tryz.results59 ?_
  refine ⟨h9, _, rfl, st11.done, ?_⟩
  refine zah ?_
  simp_all [zbM]
 refine zy<|O<|zj<|W.sr<|zr st11.sub (hc5.up le10) X zaE zad X X ?_
 have l14 := le4.trans le10
 refine ze st11 rfl rfl rfl Tryz.call105 rfl (c_postilref07_Poll st11.sub (p := p) (p_f0.up l14) (p_f1.up l14) (p_f2.up l14) (p_f3.up l14) (p_f4.up l14) (by exact zdW (by simpa using c13))) ?_
 intro r15 w16 h17 le18 st19 q20
 obtain rfl := q20
 refine zbl X X<|Y ?_
 refine zae rfl (fun c21 => ?_) (fun c21 => ?_)
 ·
  refine W.sr<|zq X X<|Y<|zw<|zd<|zb Tryz.results59 ?_
  refine ⟨h17, _, rfl, st19.done, ?_⟩
  refine zah ?_
  simp_all [zbM]
 refine zy<|O<|W.sr<|zq X X<|Y<|zw<|zb Tryz.results59 ?_
 refine ⟨h17, _, rfl, st19.done, ?_⟩
 refine zah ?_
 simp_all [zbM]
end Go.Pk

namespace Go.Pk
open Go Go.RowKit Go.Proofs
end Go.Pk

namespace Go.Pk
open Go Go.RowKit Go.Proofs
end Go.Pk

namespace Go.Pk
open Go Go.RowKit Go.Proofs
end Go.Pk

namespace Go.Pk
open Go Go.RowKit Go.Proofs
end Go.Pk

namespace Go.Pk
open Go Go.RowKit Go.Proofs
theorem c_vote_in_1 {h : Heap} {w : World} (hs : Sub h w) (n : Int) {lo_b : Nat} {lo : Int} (lo_c : Cells h lo_b 0 [.int .i64 lo]) {hi_b : Nat} {hi : Int} (hi_c : Cells h hi_b 0 [.int .i64 hi]) : Calls Tryz.prog 102 #[.int .i64 n, .pointer (some ⟨lo_b, 0, none⟩), .pointer (some ⟨hi_b, 0, none⟩)] w (Rets h w (fun _ _ res_ => res_ = .bool ((decide (n < lo) || decide (hi < n))))) := by
 refine zP (n := 13) Tryz.func102 X X X<|have st0:=t_s0 hs;W.sr<|zF X X<|Y<|W.sr<|zh X X<|U (j := 0) st0.sub lo_c X X X zz X<|zaX X X X<|zS X X ?_
 refine zY (d := 8) rfl (fun g1 => ?_) (fun g1 => ?_)
 ·
  refine M X X X X X<|M X X X X X<|M X X X X X<|zT (v := (.bool _)) X X X<|zF X X<|Y<|zw<|zb Tryz.results102 ?_
  refine ⟨h, _, rfl, st0.done, ?_⟩
  refine zx ?_
  first | (simp_all; done) | (simp_all; omega)
 refine Z X X X<|zh X X<|Z X X X<|U (j := 0) st0.sub hi_c X X X zz X<|Z X X X<|zdm X X X<|zN (v := (.bool _)) X X X<|zF X X<|Y<|zw<|zb Tryz.results102 ?_
 refine ⟨h, _, rfl, st0.done, ?_⟩
 refine zx ?_
 first | (simp_all; done) | (simp_all; omega)
theorem zes {h : Heap} {w : World} (hs : Sub h w) (lo : Int) (hi : Int) {all__v : Value} {all_ : (List Int)} (all__f : Sl LInt h all__v all_) : Calls Tryz.prog 55 #[.int .i64 lo, .int .i64 hi, all__v] w (Rets h w (fun _ _ res_ => res_ = .bool (zcK all_ lo hi))) := by
 refine zP (n := 11) Tryz.func55 X X X<|have st0:=t_s0 hs;have all__f_b:=all__f.le;W.sr<|zJ st0 (cs := [.int .i64 lo]) X X X<|fun b1 w2 h3 le4 hc5 st6=>zJ st6 (cs := [.int .i64 hi]) X X X<|fun b7 w8 h9 le10 hc11 st12=>zF X X<|Y<|W.sr<|zR (v := all__v) X X<|zcL X X X ?_
 have l13 := le4.trans le10
 refine ze st12 rfl rfl rfl Tryz.call101 rfl (zdo st12.sub (all__f.up l13) (fun x_ => (decide ((x_) < (lo)) || decide ((hi) < (x_)))) Tryz.call102 (fun x_ h_ w_ vs_ le_ hs_ hx_ hr_ u_ hu_ => by cases hu_; cases hr_; exact c_vote_in_1 hs_ _ (lo := lo) ((hc5.up le10).up le_) (hi := hi) (hc11.up le_))) ?_
 intro r14 w15 h16 le17 st18 q19
 obtain rfl := q19
 refine zbl X X<|zF X X<|Y<|zw<|zb Tryz.results55 ?_
 refine ⟨h16, _, rfl, st18.done, ?_⟩
 refine zx ?_
 exact inAll_eq all_ lo hi
theorem zio {h : Heap} {w : World} (hs : Sub h w) (x : Int) (x_l : 0 ≤ x ∧ x ≤ 255) : Calls Tryz.prog 189 #[.int .u8 x] w (Rets h w (fun _ _ res_ => res_ = .bool (false))) := by
 refine zP (n := 6) Tryz.func189 X X X<|have st0:=t_s0 hs;W.sr<|zF X X<|Y<|W.sr<|zh X X<|zh X X<|zcf X X X<|zF X X<|Y<|zw<|zb Tryz.results189 ?_
 refine ⟨h, _, rfl, st0.done, ?_⟩
 refine zx ?_
 simp
theorem zic {h : Heap} {w : World} (hs : Sub h w) (x : Str) (x_le : x.length ≤ 281474976710656) : Calls Tryz.prog 188 #[strV x] w (Rets h w (fun _ _ res_ => res_ = .bool (false))) := by
 refine zP (n := 6) Tryz.func188 X X X<|have st0:=t_s0 hs;W.sr<|zF X X<|Y<|W.sr<|zcn X X<|zcn X X<|zi X X (r_sneq X X)<|zF X X<|Y<|zw<|zb Tryz.results188 ?_
 refine ⟨h, _, rfl, st0.done, ?_⟩
 refine zx ?_
 simp
theorem c_cmp_Compare_uint8 {h : Heap} {w : World} (hs : Sub h w) (a : Int) (a_l : 0 ≤ a ∧ a ≤ 255) (b : Int) (b_l : 0 ≤ b ∧ b ≤ 255) : Calls Tryz.prog 142 #[.int .u8 a, .int .u8 b] w (Rets h w (fun _ _ res_ => res_ = .int .i64 (cmpI a b))) := by
 refine zP (n := 20) Tryz.func142 X X X<|have st0:=t_s0 hs;W.sr<|zq X X<|Y<|W.sr<|zh X X ?_
 refine ze st0 rfl rfl rfl Tryz.call189 rfl (zio st0.sub _ (by omega)) ?_
 intro r1 w2 h3 le4 st5 q6
 obtain rfl := q6
 refine zF X X<|Y<|W.sr<|zh X X ?_
 refine ze st5 rfl rfl rfl Tryz.call189 rfl (zio st5.sub _ (by omega)) ?_
 intro r7 w8 h9 le10 st11 q12
 obtain rfl := q12
 refine zF X X<|Y<|zj<|W.sr<|zS X X<|Y ?_
 refine zae rfl (fun c13 => ?_) (fun c13 => ?_)
 ·
  refine zj<|W.sr<|zS X X<|Y ?_
  refine zae rfl (fun c14 => ?_) (fun c14 => ?_)
  ·
   refine W.sr<|zq X X<|Y<|zw<|zd<|zd<|zb zfx ?_
   refine ⟨h9, _, rfl, st11.done, ?_⟩
   refine zah ?_
   all_goals (unfold cmpI; repeat' split)
   all_goals (first | omega | simp_all | rfl)
  refine zy<|O<|W.sr<|zq X X<|Y<|zw<|zd<|zb zfx ?_
  refine ⟨h9, _, rfl, st11.done, ?_⟩
  refine zah ?_
  all_goals (unfold cmpI; repeat' split)
  all_goals (first | omega | simp_all | rfl)
 refine zy<|O<|zj<|W.sr<|zS X X<|Y ?_
 refine zae rfl (fun c15 => ?_) (fun c15 => ?_)
 ·
  refine W.sr<|zq X X<|Y<|zw<|zd<|zb zfx ?_
  refine ⟨h9, _, rfl, st11.done, ?_⟩
  refine zah ?_
  all_goals (unfold cmpI; repeat' split)
  all_goals (first | omega | simp_all | rfl)
 refine zy<|O<|zj<|W.sr<|zh X X<|zh X X<|zaX X X X<|Y ?_
 refine zC rfl (fun c16 => ?_) (fun c16 => ?_)
 ·
  refine W.sr<|zq X X<|Y<|zw<|zd<|zb zfx ?_
  refine ⟨h9, _, rfl, st11.done, ?_⟩
  refine zah ?_
  all_goals (unfold cmpI; repeat' split)
  all_goals (first | omega | simp_all | rfl)
 refine zy<|O<|zj<|W.sr<|zh X X<|zh X X<|zdm X X X<|Y ?_
 refine zC rfl (fun c17 => ?_) (fun c17 => ?_)
 ·
  refine W.sr<|zq X X<|Y<|zw<|zd<|zb zfx ?_
  refine ⟨h9, _, rfl, st11.done, ?_⟩
  refine zah ?_
  all_goals (unfold cmpI; repeat' split)
  all_goals (first | omega | simp_all | rfl)
 refine zy<|O<|W.sr<|zq X X<|Y<|zw<|zb zfx ?_
 refine ⟨h9, _, rfl, st11.done, ?_⟩
 refine zah ?_
 all_goals (unfold cmpI; repeat' split)
 all_goals (first | omega | simp_all | rfl)
theorem c_cmp_Compare_string {h : Heap} {w : World} (hs : Sub h w) (a : Str) (a_le : a.length ≤ 281474976710656) (b : Str) (b_le : b.length ≤ 281474976710656) : Calls Tryz.prog 141 #[strV a, strV b] w (Rets h w (fun _ _ res_ => res_ = .int .i64 (cmpT a b))) := by
 refine zP (n := 20) Tryz.func141 X X X<|have st0:=t_s0 hs;W.sr<|zq X X<|Y<|W.sr<|zcn X X<|ze st0 X X X Tryz.call188 X (zic st0.sub _ zbr)<|fun r1 w2 h3 le4 st5 q6=> ?_
 obtain rfl := q6
 refine zF X X<|Y<|W.sr<|zcn X X<|ze st5 X X X Tryz.call188 X (zic st5.sub _ zbr)<|fun r7 w8 h9 le10 st11 q12=> ?_
 obtain rfl := q12
 refine zF X X<|Y<|zj<|W.sr<|zS X X<|Y ?_
 refine zae rfl (fun c13 => ?_) (fun c13 => ?_)
 ·
  refine zj<|W.sr<|zS X X<|Y ?_
  refine zae rfl (fun c14 => ?_) (fun c14 => ?_)
  ·
   refine W.sr<|zq X X<|Y<|zw<|zd<|zd<|zb zfy ?_
   refine ⟨h9, _, rfl, st11.done, ?_⟩
   refine zah ?_
   all_goals simp_all [cmpT, sLt]
  refine zy<|O<|W.sr<|zq X X<|Y<|zw<|zd<|zb zfy ?_
  refine ⟨h9, _, rfl, st11.done, ?_⟩
  refine zah ?_
  all_goals simp_all [cmpT, sLt]
 refine zy<|O<|zj<|W.sr<|zS X X<|Y ?_
 refine zae rfl (fun c15 => ?_) (fun c15 => ?_)
 ·
  refine W.sr<|zq X X<|Y<|zw<|zd<|zb zfy ?_
  refine ⟨h9, _, rfl, st11.done, ?_⟩
  refine zah ?_
  all_goals simp_all [cmpT, sLt]
 refine zy<|O<|zj<|W.sr<|zcn X X<|zcn X X<|zi X X (r_slss X X)<|Y ?_
 refine zae rfl (fun c16 => ?_) (fun c16 => ?_)
 ·
  refine W.sr<|zq X X<|Y<|zw<|zd<|zb zfy ?_
  refine ⟨h9, _, rfl, st11.done, ?_⟩
  refine zah ?_
  all_goals simp_all [cmpT, sLt]
 refine zy<|O<|zj<|W.sr<|zcn X X<|zcn X X<|zi X X (r_sgtr X X)<|Y ?_
 refine zae rfl (fun c17 => ?_) (fun c17 => ?_)
 ·
  refine W.sr<|zq X X<|Y<|zw<|zd<|zb zfy ?_
  refine ⟨h9, _, rfl, st11.done, ?_⟩
  refine zah ?_
  all_goals simp_all [cmpT, sLt]
 refine zy<|O<|W.sr<|zq X X<|Y<|zw<|zb zfy ?_
 refine ⟨h9, _, rfl, st11.done, ?_⟩
 refine zah ?_
 all_goals simp_all [cmpT, sLt]
theorem zjm {h : Heap} {w : World} (hs : Sub h w) {l_v : Value} {l : (List Int)} (l_f : Sl LInt h l_v l) : Calls Tryz.prog 65 #[l_v] w (Rets h w (fun _ _ res_ => res_ = .int .i64 ((orL l)))) := by
 refine zP (n := 18) Tryz.func65 X X X<|have st0:=t_s0 hs;have l_f_b:=l_f.le;W.sr<|zq X X<|Y<|W.sr<|zq X X<|Y<|zj<|W.sr<|zR (v := l_v) X X<|zaH l_f X zg X<|zh X X<|Y<|zG ?_
 refine zax ([2, 5] ++ t_rg 8 9) (G := Nat × Heap) (fun ⟨k, h1⟩ => [(8, .int .i64 (k : Int))]) (fun ⟨k, h1⟩ w' => Le h h1 ∧ St h w h1 w' [] ∧ (k ≤ l.length) ∧ (orL l = orL (l.drop k))) (fun ⟨k, h1⟩ => l.length - k) ⟨0, h⟩ ⟨rfl, trivial⟩ ⟨Le.refl _, st0, zaW, (by rfl)⟩ ?_
 rintro ⟨k, h1⟩ _ w4 ⟨le2, st3, hk, he⟩
 refine W.sr<|zaX X X X<|Y<|zj ?_
 refine zC rfl (fun c5 => ?_) (fun c5 => ?_)
 ·
  refine zy<|O<|zj<|zG<|W.sr ?_
  obtain ⟨a, ha⟩ : ∃ y_, (l)[k]? = some y_ := t_ge (by omega)
  obtain ⟨b6, o7, _, he9, hc8, hr_a⟩ := Sl.elem (l_f.up le2) ha
  obtain rfl := hr_a
  refine zU he9 X X (hk := X) (hu := zg) (hz := zl) X<|U (j := 0) st3.sub hc8 X X X zz X<|zq X X<|Y<|W.sr<|zh X X<|zh X X<|zcf X X X<|Y ?_
  refine zC rfl (fun c10 => ?_) (fun c10 => ?_)
  ·
   refine W.sr<|zh X X<|zq X X<|Y<|zw<|zK<|zd<|zd<|zK<|zd<|zb Tryz.results65 ?_
   refine ⟨h1, _, rfl, st3.done, ?_⟩
   refine zah ?_
   rw [he, orL_drop ha, if_pos (by simpa using c10)]
  refine zy<|zO<|O<|zn<|zaM X X t_om X<|zh X X<|Y ?_
  refine ⟨⟨k + 1, h1⟩, ⟨rfl, trivial⟩, ?_, ⟨le2, st3, ?_, ?_⟩, ?_⟩
  ·exact zau
  ·first | omega | (simp; omega)
  ·rw [he, orL_drop ha, if_neg (by simpa using c10)]
  show l.length - ((k + 1)) < l.length - k
  omega
 refine zaI<|zm<|zm<|zam<|O<|W.sr<|zh X X<|zq X X<|Y<|zw<|zb Tryz.results65 ?_
 refine ⟨h1, _, rfl, st3.done, ?_⟩
 refine zah ?_
 rw [he, List.drop_eq_nil_of_le (by omega)]; rfl
theorem c_vote_places {h : Heap} {w : World} (hs : Sub h w) {a : Place} {b : Place} : Calls Tryz.prog 97 #[.agg #[.int .i64 a.chapter, .int .i64 a.line, .int .i64 a.word], .agg #[.int .i64 b.chapter, .int .i64 b.line, .int .i64 b.word]] w (Rets h w (fun _ _ res_ => res_ = .int .i64 ((orL [cmpI a.chapter b.chapter, cmpI a.line b.line, cmpI a.word b.word])))) := by
 refine zP (n := 22) Tryz.func97 X X X<|have st0:=t_s0 hs;W.sr<|zJ st0 (cs := [.int .i64 (a.chapter), .int .i64 (a.line), .int .i64 (a.word)]) X X X<|fun b1 w2 h3 le4 hc5 st6=>zJ st6 (cs := [.int .i64 (b.chapter), .int .i64 (b.line), .int .i64 (b.word)]) X X X<|fun b7 w8 h9 le10 hc11 st12=>zq X X<|Y<|zj<|zbg (er := ([], [], [], [], 0)) (dsts := [5, 6, 7, 8, 9, 10, 11, 12, 13, 14, 15, 16, 17, 18, 19, 20, 21, 4]) st12 Tryz.mixed<|zc 0 [] X t_kr t_kr X X (fun hD wD τD hL hS hO  => (zB X zao X zl X))<|zc 1 [0] X t_kr t_kr X X (fun hD wD τD hL hS hO _ _ => (zf (j := 0) (hL.sub hS) (hc5.up le10) X X X zz))<|zc 2 [] X t_kr t_kr X X (fun hD wD τD hL hS hO  => (zB X zao X zl X))<|zc 3 [0] X t_kr t_kr X X (fun hD wD τD hL hS hO _ _ => (zf (j := 0) (hL.sub hS) hc11 X X X zz)) ?_
 refine zas 4 (.det (.int .i64 (cmpI ((a.chapter)) ((b.chapter))))) [2, 0] rfl t_kr t_kr ?_ ?_
 ·
  intro hD wD τD hL hS hO _ _ _ _
  have st13 := St.start hS
  refine ze st13 X X X Tryz.call106 X (zeX st13.sub _ _)<|fun r14 w15 h16 le17 st18 q19=> ?_
  obtain rfl := q19
  exact zp ⟨_, _, rfl, st18, (), rfl, trivial⟩
 refine zc 5 [] X t_kr t_kr X X (fun hD wD τD hL hS hO  => (zB X zao X zl X))<|zc 6 [0] X t_kr t_kr X X (fun hD wD τD hL hS hO _ _ => (zf (j := 1) (hL.sub hS) (hc5.up le10) X X X zz))<|zc 7 [] X t_kr t_kr X X (fun hD wD τD hL hS hO  => (zB X zao X zl X))<|zc 8 [0] X t_kr t_kr X X (fun hD wD τD hL hS hO _ _ => (zf (j := 1) (hL.sub hS) hc11 X X X zz)) ?_
 refine zas 9 (.det (.int .i64 (cmpI ((a.line)) ((b.line))))) [2, 0, 4] rfl t_kr t_kr ?_ ?_
 ·
  intro hD wD τD hL hS hO _ _ _ _ _ _
  have st20 := St.start hS
  refine ze st20 X X X Tryz.call106 X (zeX st20.sub _ _)<|fun r21 w22 h23 le24 st25 q26=> ?_
  obtain rfl := q26
  exact zp ⟨_, _, rfl, st25, (), rfl, trivial⟩
 refine zc 10 [] X t_kr t_kr X X (fun hD wD τD hL hS hO  => (zB X zao X zl X))<|zc 11 [0] X t_kr t_kr X X (fun hD wD τD hL hS hO _ _ => (zf (j := 2) (hL.sub hS) (hc5.up le10) X X X zz))<|zc 12 [] X t_kr t_kr X X (fun hD wD τD hL hS hO  => (zB X zao X zl X))<|zc 13 [0] X t_kr t_kr X X (fun hD wD τD hL hS hO _ _ => (zf (j := 2) (hL.sub hS) hc11 X X X zz)) ?_
 refine zas 14 (.det (.int .i64 (cmpI ((a.word)) ((b.word))))) [2, 0, 4] rfl t_kr t_kr ?_ ?_
 ·
  intro hD wD τD hL hS hO _ _ _ _ _ _
  have st27 := St.start hS
  refine ze st27 X X X Tryz.call106 X (zeX st27.sub _ _)<|fun r28 w29 h30 le31 st32 q33=> ?_
  obtain rfl := q33
  exact zp ⟨_, _, rfl, st32, (), rfl, trivial⟩
 refine zas 15 (.res (fun h' res_ => Sl LInt h' res_ ([(cmpI ((a.chapter)) ((b.chapter))), (cmpI ((a.line)) ((b.line))), (cmpI ((a.word)) ((b.word)))])) (fun _ _ _ hl f => f.up hl)) [10, 5, 0] rfl t_kr t_kr ?_ ?_
 ·
  intro hD wD τD hL hS hO _ _ _ _ _ _
  have st34 := St.start hS
  refine zac (L := LInt) (xs := [(cmpI ((a.chapter)) ((b.chapter))), (cmpI ((a.line)) ((b.line))), (cmpI ((a.word)) ((b.word)))]) (cs := [.int .i64 (cmpI ((a.chapter)) ((b.chapter))), .int .i64 (cmpI ((a.line)) ((b.line))), .int .i64 (cmpI ((a.word)) ((b.word)))]) st34 (Enc.cons (L := LInt) (vs := [.int .i64 (cmpI ((a.chapter)) ((b.chapter)))]) (x := (cmpI ((a.chapter)) ((b.chapter)))) (h := hD) (X) (Enc.cons (L := LInt) (vs := [.int .i64 (cmpI ((a.line)) ((b.line)))]) (x := (cmpI ((a.line)) ((b.line)))) (h := hD) (X) (Enc.cons (L := LInt) (vs := [.int .i64 (cmpI ((a.word)) ((b.word)))]) (x := (cmpI ((a.word)) ((b.word)))) (h := hD) (X) Enc.nil))) X X X zg Tryz.info3 X X X t_kr<|fun v35 w36 h39 le40 f37 st38=> ?_
  exact zp ⟨_, _, rfl, st38, _, rfl, f37⟩
 refine zas 16 (.det (.int .i64 ((orL (([(cmpI ((a.chapter)) ((b.chapter))), (cmpI ((a.line)) ((b.line))), (cmpI ((a.word)) ((b.word)))])))))) [0, 1] rfl t_kr t_kr ?_ ?_
 ·
  intro hD wD τD hL hS hO gv15_0 gf15_0 _ _
  have st41 := St.start hS
  refine ze st41 X X X Tryz.call65 X (zjm st41.sub gf15_0)<|fun r42 w43 h44 le45 st46 q47=> ?_
  obtain rfl := q47
  exact zp ⟨_, _, rfl, st46, (), rfl, trivial⟩
 refine zc 17 [16, 15, 14, 13, 12, 11, 10, 9, 8, 7, 6, 5, 4, 3, 2, 1, 0] X t_kr t_kr X X (fun hD wD τD hL hS hO _ _ _ _ _ _ _ _ _ _ _ _ _ _ _ _ _ _ _ _ _ _ _ _ _ _ _ _ _ _ gv15_0 gf15_0 _ _ => (r_asI X))<|zbP X X X X X X ⟨t_kr, X, t_kr, X, t_kr, X, X, t_kr, zcu⟩<|fun hE48 w49 _ le50 st51 _ _ _ _ _ _ _ _ _ _ _ _ _ _ _ _ _ _ _ _ _ _ _ _ _ _ _ _ _ _ gv15_0x52 gf15_0x52 _ _ _ _=>AllDeps.fin X<|O<|zw<|zb Tryz.results97 ?_
 refine ⟨hE48, _, rfl, st51.done, ?_⟩
 refine zah ?_
 rfl
theorem c_vote_heads {h : Heap} {w : World} (hs : Sub h w) {a : Head} (a_l1 : a.stem.length ≤ 281474976710656) (a_l2 : 0 ≤ a.mark ∧ a.mark ≤ 255) {b : Head} (b_l1 : b.stem.length ≤ 281474976710656) (b_l2 : 0 ≤ b.mark ∧ b.mark ≤ 255) : Calls Tryz.prog 99 #[.agg #[strV a.stem, .int .u8 a.mark], .agg #[strV b.stem, .int .u8 b.mark]] w (Rets h w (fun _ _ res_ => res_ = .int .i64 ((orL [cmpT a.stem b.stem, cmpI a.mark b.mark])))) := by
 refine zP (n := 17) Tryz.func99 X X X<|have st0:=t_s0 hs;W.sr<|zJ st0 (cs := [strV (a.stem), .int .u8 (a.mark)]) X X X<|fun b1 w2 h3 le4 hc5 st6=>zJ st6 (cs := [strV (b.stem), .int .u8 (b.mark)]) X X X<|fun b7 w8 h9 le10 hc11 st12=>zq X X<|Y<|zj<|zbg (er := ([], [], [], [], 0)) (dsts := [5, 6, 7, 8, 9, 10, 11, 12, 13, 14, 15, 16, 4]) st12 Tryz.mixed<|zc 0 [] X t_kr t_kr X X (fun hD wD τD hL hS hO  => (zB X zbn X zak X))<|zc 1 [0] X t_kr t_kr X X (fun hD wD τD hL hS hO _ _ => (zf (j := 0) (hL.sub hS) (hc5.up le10) X X X zaD))<|zc 2 [] X t_kr t_kr X X (fun hD wD τD hL hS hO  => (zB X zbn X zak X))<|zc 3 [0] X t_kr t_kr X X (fun hD wD τD hL hS hO _ _ => (zf (j := 0) (hL.sub hS) hc11 X X X zaD)) ?_
 refine zas 4 (.det (.int .i64 (cmpT ((a.stem)) ((b.stem))))) [2, 0] rfl t_kr t_kr ?_ ?_
 ·
  intro hD wD τD hL hS hO _ _ _ _
  have st13 := St.start hS
  refine ze st13 X X X Tryz.call141 X (c_cmp_Compare_string st13.sub _ zbr _ zbr)<|fun r14 w15 h16 le17 st18 q19=> ?_
  obtain rfl := q19
  exact zp ⟨_, _, rfl, st18, (), rfl, trivial⟩
 refine zc 5 [] X t_kr t_kr X X (fun hD wD τD hL hS hO  => (zB X zbn X zbu X))<|zc 6 [0] X t_kr t_kr X X (fun hD wD τD hL hS hO _ _ => (zf (j := 1) (hL.sub hS) (hc5.up le10) X X X zbV))<|zc 7 [] X t_kr t_kr X X (fun hD wD τD hL hS hO  => (zB X zbn X zbu X))<|zc 8 [0] X t_kr t_kr X X (fun hD wD τD hL hS hO _ _ => (zf (j := 1) (hL.sub hS) hc11 X X X zbV)) ?_
 refine zas 9 (.det (.int .i64 (cmpI ((a.mark)) ((b.mark))))) [2, 0, 4] rfl t_kr t_kr ?_ ?_
 ·
  intro hD wD τD hL hS hO _ _ _ _ _ _
  have st20 := St.start hS
  refine ze st20 rfl rfl rfl Tryz.call142 rfl (c_cmp_Compare_uint8 st20.sub _ (by omega) _ (by omega)) ?_
  intro r21 w22 h23 le24 st25 q26
  obtain rfl := q26
  exact zp ⟨_, _, rfl, st25, (), rfl, trivial⟩
 refine zas 10 (.res (fun h' res_ => Sl LInt h' res_ ([(cmpT ((a.stem)) ((b.stem))), (cmpI ((a.mark)) ((b.mark)))])) (fun _ _ _ hl f => f.up hl)) [5, 0] rfl t_kr t_kr ?_ ?_
 ·
  intro hD wD τD hL hS hO _ _ _ _
  have st27 := St.start hS
  refine zac (L := LInt) (xs := [(cmpT ((a.stem)) ((b.stem))), (cmpI ((a.mark)) ((b.mark)))]) (cs := [.int .i64 (cmpT ((a.stem)) ((b.stem))), .int .i64 (cmpI ((a.mark)) ((b.mark)))]) st27 (Enc.cons (L := LInt) (vs := [.int .i64 (cmpT ((a.stem)) ((b.stem)))]) (x := (cmpT ((a.stem)) ((b.stem)))) (h := hD) (X) (Enc.cons (L := LInt) (vs := [.int .i64 (cmpI ((a.mark)) ((b.mark)))]) (x := (cmpI ((a.mark)) ((b.mark)))) (h := hD) (X) Enc.nil)) X X X zg Tryz.info3 X X X t_kr<|fun v28 w29 h32 le33 f30 st31=> ?_
  exact zp ⟨_, _, rfl, st31, _, rfl, f30⟩
 refine zas 11 (.det (.int .i64 ((orL (([(cmpT ((a.stem)) ((b.stem))), (cmpI ((a.mark)) ((b.mark)))])))))) [0, 1] rfl t_kr t_kr ?_ ?_
 ·
  intro hD wD τD hL hS hO gv10_0 gf10_0 _ _
  have st34 := St.start hS
  refine ze st34 X X X Tryz.call65 X (zjm st34.sub gf10_0)<|fun r35 w36 h37 le38 st39 q40=> ?_
  obtain rfl := q40
  exact zp ⟨_, _, rfl, st39, (), rfl, trivial⟩
 refine zc 12 [11, 10, 9, 8, 7, 6, 5, 4, 3, 2, 1, 0] X t_kr t_kr X X (fun hD wD τD hL hS hO _ _ _ _ _ _ _ _ _ _ _ _ _ _ _ _ _ _ _ _ gv10_0 gf10_0 _ _ => (r_asI X))<|zbP X X X X X X ⟨t_kr, X, t_kr, X, t_kr, X, X, t_kr, zcu⟩<|fun hE41 w42 _ le43 st44 _ _ _ _ _ _ _ _ _ _ _ _ _ _ _ _ _ _ _ _ gv10_0x45 gf10_0x45 _ _ _ _=>AllDeps.fin X<|O<|zw<|zb Tryz.results99 ?_
 refine ⟨hE41, _, rfl, st44.done, ?_⟩
 refine zah ?_
 rfl
theorem c_vote_head_1 {h : Heap} {w : World} (hs : Sub h w) (b : Int) (b_l : 0 ≤ b ∧ b ≤ 255) : Calls Tryz.prog 140 #[.int .u8 b] w (Rets h w (fun _ _ res_ => res_ = .bool ((decide (b < 97) || decide (122 < b))))) := by
 refine zP (n := 9) Tryz.func140 X X X<|have st0:=t_s0 hs;W.sr<|zF X X<|Y<|W.sr<|zh X X<|zaX X X X<|zS X X ?_
 refine zY (d := 5) rfl (fun g1 => ?_) (fun g1 => ?_)
 ·
  refine M X X X X X<|M X X X X X<|zT (v := (.bool _)) X X X<|zF X X<|Y<|zw<|zb Tryz.results140 ?_
  refine ⟨h, _, rfl, st0.done, ?_⟩
  refine zx ?_
  first | (simp_all; done) | (simp_all; omega)
 refine Z X X X<|zh X X<|Z X X X<|zdm X X X<|zN (v := (.bool _)) X X X<|zF X X<|Y<|zw<|zb Tryz.results140 ?_
 refine ⟨h, _, rfl, st0.done, ?_⟩
 refine zx ?_
 first | (simp_all; done) | (simp_all; omega)
theorem c_vote_head {h : Heap} {w : World} (hs : Sub h w) {hd : Head} (hd_l1 : hd.stem.length ≤ 281474976710656) (hd_l2 : 0 ≤ hd.mark ∧ hd.mark ≤ 255) : Calls Tryz.prog 98 #[.agg #[strV hd.stem, .int .u8 hd.mark]] w (Rets h w (fun _ _ res_ => res_ = .bool (zea hd))) := by
 refine zP (n := 22) Tryz.func98 X X X<|have st0:=t_s0 hs;W.sr<|zJ st0 (cs := [strV (hd.stem), .int .u8 (hd.mark)]) X X X<|fun b1 w2 h3 le4 hc5 st6=>zF X X<|Y<|W.sr<|E X zbn X zak X X<|U (j := 0) st6.sub hc5 X X X zaD X<|zcx X zaB X<|zac (L := LInt) (xs := [((hd.stem).length : Int)]) (cs := [.int .i64 ((hd.stem).length : Int)]) st6 (Enc.cons (L := LInt) (vs := [.int .i64 ((hd.stem).length : Int)]) (x := ((hd.stem).length : Int)) (h := h3) (X) Enc.nil) X X X zg Tryz.info3 X X X t_kr<|fun v7 w8 h11 le12 f9 st10=>ze st10 X X X zfm X (zes st10.sub _ _ f9)<|fun r13 w14 h15 le16 st17 q18=> ?_
 obtain rfl := q18
 refine zS X X ?_
 refine zaw (d := 8) rfl (fun g19 => ?_) (fun g19 => ?_)
 ·
  refine Z X X X<|E X zbn X zbu X X<|Z X X X<|U (j := 1) st17.sub (hc5.up (le12.trans le16)) X X X zbV X<|Z X X X ?_
  refine zi rfl rfl (zfW rfl rfl zbU (IntWalk.i64_in _ (by omega))) ?_
  refine Z X X X<|zac (L := LInt) (xs := [(hd.mark)]) (cs := [.int .i64 (hd.mark)]) st17 (Enc.cons (L := LInt) (vs := [.int .i64 (hd.mark)]) (x := (hd.mark)) (h := h15) (X) Enc.nil) X X X zg Tryz.info3 X X X t_kr<|fun v20 w21 h24 le25 f22 st23=>Z X X X<|ze st23 X X X zfm X (zes st23.sub _ _ f22)<|fun r26 w27 h28 le29 st30 q31=> ?_
  obtain rfl := q31
  refine zT (v := (.bool _)) X X X<|zS X X ?_
  refine zaw (d := 15) rfl (fun g32 => ?_) (fun g32 => ?_)
  ·
   refine Z X X X<|E X zbn X zak X X<|Z X X X<|have l33:=((le12.trans le16).trans le25).trans le29;U (j := 0) st30.sub (hc5.up l33) X X X zaD X<|Z X X X ?_
   refine OpsL.strBytes st30 (s := (hd.stem)) rfl (by first | assumption | omega | (simp; omega)) rfl zaB Tryz.underlying215 Tryz.underlying5 zbu ?_
   intro v34 w35 h36 le37 f38 st39
   refine Z X X X ?_
   refine ze st39 rfl rfl rfl Tryz.call139 rfl (zeg st39.sub f38 (fun x_ => (decide ((x_) < 97) || decide (122 < (x_)))) Tryz.call140 (fun x_ h_ w_ vs_ le_ hs_ hx_ hr_ u_ hu_ => by cases hu_; obtain ⟨hr1_, hr2_⟩ := hr_; cases hr1_; exact c_vote_head_1 hs_ _ hr2_)) ?_
   intro r40 w41 h42 le43 st44 q45
   obtain rfl := q45
   refine Z X X X<|zbl X X<|zT (v := (.bool _)) X X X<|zF X X<|Y<|zw<|zb Tryz.results98 ?_
   refine ⟨h42, _, rfl, st44.done, ?_⟩
   refine zx ?_
   simp_all [zea, wordB_eq, inAll_one]
  refine M X X X X X<|M X X X X X<|M X X X X X<|M X X X X X<|M X X X X X<|zN (v := (.bool _)) X X X<|zF X X<|Y<|zw<|zb Tryz.results98 ?_
  refine ⟨h28, _, rfl, st30.done, ?_⟩
  refine zx ?_
  simp_all [zea, wordB_eq, inAll_one]
 refine M X X X X X<|M X X X X X<|M X X X X X<|M X X X X X<|M X X X X X<|zN (v := (.bool _)) X X X<|zS X X<|M X X X X X<|M X X X X X<|M X X X X X<|M X X X X X<|M X X X X X<|zN (v := (.bool _)) X X X<|zF X X<|Y<|zw<|zb Tryz.results98 ?_
 refine ⟨h15, _, rfl, st17.done, ?_⟩
 refine zx ?_
 simp_all [zea, wordB_eq, inAll_one]
theorem c_vote_asked_1 {h : Heap} {w : World} (hs : Sub h w) {p : Poll} {p_v0 : Value} (p_f0 : Sl LChapter h p_v0 p.text.chapters) {p_v1 : Value} (p_f1 : Sl LRule h p_v1 p.lexicon.rules) {p_v2 : Value} (p_f2 : Sl LDecision h p_v2 p.lexicon.decisions) {p_v3 : Value} (p_f3 : Sl LQuestion h p_v3 p.questions) {p_v4 : Value} (p_f4 : Sl LVoter h p_v4 p.voters) (i : Int) (hi : 0 ≤ i ∧ i < (p.voters.length : Int)) : Calls Tryz.prog 261 #[.agg #[p_v0, p_v1, p_v2, p_v3, p_v4], .int .i64 i] w (Rets h w (fun _ _ res_ => res_ = .bool ((match p.voters[i.toNat]? with | some v => inB v.id 0 9999 | none => true)))) := by
 refine zP (n := 13) Tryz.func261 X X X ?_
 have st0 := t_s0 hs
 have p_f0_b := p_f0.le
 have p_f1_b := p_f1.le
 have p_f2_b := p_f2.le
 have p_f3_b := p_f3.le
 have p_f4_b := p_f4.le
 obtain ⟨v, hv⟩ : ∃ v, p.voters[i.toNat]? = some v := ⟨_, List.getElem?_eq_getElem (by omega)⟩
 refine W.sr<|zJ st0 (cs := [p_v0, p_v1, p_v2, p_v3, p_v4]) X X X<|fun b1 w2 h3 le4 hc5 st6=>zF X X<|Y<|W.sr<|E X zt X zaL X X<|U (j := 4) st6.sub hc5 X X X zbj X<|zh X X ?_
 obtain ⟨b7, o8, _, he10, hc9, hr_v⟩ := Sl.elem (p_f4.up le4) hv
 obtain ⟨v11, rfl, f12⟩ := hr_v
 have f12_b := f12.le
 refine zi rfl rfl (zav he10 rfl rfl (hk := (show _ = ((i.toNat : Nat) : Int) by omega)) (hu := zaa) (hz := zaT)) ?_
 refine E X zaz X zl X X<|U (j := 0) st6.sub hc9 X X X zz X<|zac (L := LInt) (xs := [(v.id)]) (cs := [.int .i64 (v.id)]) st6 (Enc.cons (L := LInt) (vs := [.int .i64 (v.id)]) (x := (v.id)) (h := h3) (X) Enc.nil) X X X zg Tryz.info3 X X X t_kr<|fun v13 w14 h17 le18 f15 st16=>ze st16 X X X zfm X (zes st16.sub _ _ f15)<|fun r19 w20 h21 le22 st23 q24=> ?_
 obtain rfl := q24
 refine zF X X<|Y<|zw<|zb Tryz.results261 ?_
 refine ⟨h21, _, rfl, st23.done, ?_⟩
 refine zx ?_
 simp [hv, inAll_one]
theorem c_vote_asked_2 {h : Heap} {w : World} (hs : Sub h w) {p : Poll} {p_v0 : Value} (p_f0 : Sl LChapter h p_v0 p.text.chapters) {p_v1 : Value} (p_f1 : Sl LRule h p_v1 p.lexicon.rules) {p_v2 : Value} (p_f2 : Sl LDecision h p_v2 p.lexicon.decisions) {p_v3 : Value} (p_f3 : Sl LQuestion h p_v3 p.questions) {p_v4 : Value} (p_f4 : Sl LVoter h p_v4 p.voters) (i : Int) (hi : 0 ≤ i ∧ i < (p.voters.length : Int)) : Calls Tryz.prog 262 #[.agg #[p_v0, p_v1, p_v2, p_v3, p_v4], .int .i64 i] w (Rets h w (fun _ _ res_ => res_ = .bool ((match p.voters[i.toNat]? with | some v => inB v.wrong 0 6 | none => true)))) := by
 refine zP (n := 13) Tryz.func262 X X X ?_
 have st0 := t_s0 hs
 have p_f0_b := p_f0.le
 have p_f1_b := p_f1.le
 have p_f2_b := p_f2.le
 have p_f3_b := p_f3.le
 have p_f4_b := p_f4.le
 obtain ⟨v, hv⟩ : ∃ v, p.voters[i.toNat]? = some v := ⟨_, List.getElem?_eq_getElem (by omega)⟩
 refine W.sr<|zJ st0 (cs := [p_v0, p_v1, p_v2, p_v3, p_v4]) X X X<|fun b1 w2 h3 le4 hc5 st6=>zF X X<|Y<|W.sr<|E X zt X zaL X X<|U (j := 4) st6.sub hc5 X X X zbj X<|zh X X ?_
 obtain ⟨b7, o8, _, he10, hc9, hr_v⟩ := Sl.elem (p_f4.up le4) hv
 obtain ⟨v11, rfl, f12⟩ := hr_v
 have f12_b := f12.le
 refine zi rfl rfl (zav he10 rfl rfl (hk := (show _ = ((i.toNat : Nat) : Int) by omega)) (hu := zaa) (hz := zaT)) ?_
 refine E X zaz X zl X X<|U (j := 1) st6.sub hc9 X X X zz X<|zac (L := LInt) (xs := [(v.wrong)]) (cs := [.int .i64 (v.wrong)]) st6 (Enc.cons (L := LInt) (vs := [.int .i64 (v.wrong)]) (x := (v.wrong)) (h := h3) (X) Enc.nil) X X X zg Tryz.info3 X X X t_kr<|fun v13 w14 h17 le18 f15 st16=>ze st16 X X X zfm X (zes st16.sub _ _ f15)<|fun r19 w20 h21 le22 st23 q24=> ?_
 obtain rfl := q24
 refine zF X X<|Y<|zw<|zb Tryz.results262 ?_
 refine ⟨h21, _, rfl, st23.done, ?_⟩
 refine zx ?_
 simp [hv, inAll_one]
theorem c_vote_asked_3 {h : Heap} {w : World} (hs : Sub h w) {p : Poll} {p_v0 : Value} (p_f0 : Sl LChapter h p_v0 p.text.chapters) {p_v1 : Value} (p_f1 : Sl LRule h p_v1 p.lexicon.rules) {p_v2 : Value} (p_f2 : Sl LDecision h p_v2 p.lexicon.decisions) {p_v3 : Value} (p_f3 : Sl LQuestion h p_v3 p.questions) {p_v4 : Value} (p_f4 : Sl LVoter h p_v4 p.voters) (i : Int) (hi : 0 ≤ i ∧ i < (p.voters.length : Int)) : Calls Tryz.prog 263 #[.agg #[p_v0, p_v1, p_v2, p_v3, p_v4], .int .i64 i] w (Rets h w (fun _ _ res_ => res_ = .bool ((match p.voters[i.toNat]? with | some v => decide (v.votes.length = p.questions.length) | none => true)))) := by
 refine zP (n := 16) Tryz.func263 X X X ?_
 have st0 := t_s0 hs
 have p_f0_b := p_f0.le
 have p_f1_b := p_f1.le
 have p_f2_b := p_f2.le
 have p_f3_b := p_f3.le
 have p_f4_b := p_f4.le
 obtain ⟨v, hv⟩ : ∃ v, p.voters[i.toNat]? = some v := ⟨_, List.getElem?_eq_getElem (by omega)⟩
 refine W.sr<|zJ st0 (cs := [p_v0, p_v1, p_v2, p_v3, p_v4]) X X X<|fun b1 w2 h3 le4 hc5 st6=>zF X X<|Y<|zj<|zbX Tryz.mixed t_kr (Cls h3 _) (Cls.drew st6)<|zZ X zt X zaL X X<|zH X X (fun _ hC => (zf (j := 4) hC.sub hc5 X X X zbj))<|zde X X ?_
 obtain ⟨b7, o8, _, he10, hc9, hr_v⟩ := Sl.elem (p_f4.up le4) hv
 obtain ⟨v11, rfl, f12⟩ := hr_v
 have f12_b := f12.le
 refine zH rfl rfl (fun _ _ => (zav he10 rfl rfl (hk := (show _ = ((i.toNat : Nat) : Int) by omega)) (hu := zaa) (hz := zaT))) ?_
 refine zZ X zaz X zbs X X<|zH X X (fun _ hC => (zf (j := 2) hC.sub hc9 X X X zce))<|u_len f12 X zg X<|zZ X zt X zbe X X<|zH X X (fun _ hC => (zf (j := 3) hC.sub hc5 X X X zby))<|u_len (p_f3.up le4) X zaq X<|u_eql X X X<|u_asB X X<|zbC ?_
 rintro w13 ⟨h14, s15⟩
 have st16 := st6.call0 s15
 refine O<|zw<|zb Tryz.results263 ?_
 refine ⟨h14, _, rfl, st16.done, ?_⟩
 refine zx ?_
 simp only [hv]; rw [Bool.eq_iff_iff]; simp only [decide_eq_true_eq]; omega
theorem c_vote_asked_4 {h : Heap} {w : World} (hs : Sub h w) {p : Poll} {p_v0 : Value} (p_f0 : Sl LChapter h p_v0 p.text.chapters) {p_v1 : Value} (p_f1 : Sl LRule h p_v1 p.lexicon.rules) {p_v2 : Value} (p_f2 : Sl LDecision h p_v2 p.lexicon.decisions) {p_v3 : Value} (p_f3 : Sl LQuestion h p_v3 p.questions) {p_v4 : Value} (p_f4 : Sl LVoter h p_v4 p.voters) (i : Int) (hi : 0 ≤ i ∧ i < (p.voters.length : Int)) (hvl : ∀ v ∈ p.voters, v.votes.length = p.questions.length ∨ p.voters[i.toNat]? ≠ some v) : Calls Tryz.prog 264 #[.agg #[p_v0, p_v1, p_v2, p_v3, p_v4], .int .i64 i] w (Rets h w (fun _ _ res_ => res_ = .bool ((match p.voters[i.toNat]? with | some v => zhy p v | none => true)))) := by
 refine zP (n := 32) Tryz.func264 X X X ?_
 have st0 := t_s0 hs
 have p_f0_b := p_f0.le
 have p_f1_b := p_f1.le
 have p_f2_b := p_f2.le
 have p_f3_b := p_f3.le
 have p_f4_b := p_f4.le
 obtain ⟨v, hv⟩ : ∃ v, p.voters[i.toNat]? = some v := ⟨_, List.getElem?_eq_getElem (by omega)⟩
 have hvq : v.votes.length = p.questions.length := by rcases hvl v (List.mem_of_getElem? hv) with q_ | q_; exact q_; exact absurd hv q_
 refine W.sr<|zJ st0 (cs := [p_v0, p_v1, p_v2, p_v3, p_v4]) X X X<|fun b1 w2 h3 le4 hc5 st6=>zF X X<|Y<|zj<|W.sr<|E X zt X zaL X X<|U (j := 4) st6.sub hc5 X X X zbj X<|zh X X ?_
 obtain ⟨b7, o8, _, he10, hc9, hr_v⟩ := Sl.elem (p_f4.up le4) hv
 obtain ⟨v11, rfl, f12⟩ := hr_v
 have f12_b := f12.le
 refine zi rfl rfl (zav he10 rfl rfl (hk := (show _ = ((i.toNat : Nat) : Int) by omega)) (hu := zaa) (hz := zaT)) ?_
 refine E X zaz X zbs X X<|U (j := 2) st6.sub hc9 X X X zce X<|zaH f12 X zg X<|zh X X<|Y<|zG ?_
 refine zax ([4, 5, 6] ++ t_rg 14 18) (G := Nat × Heap) (fun ⟨k, h13⟩ => [(14, .int .i64 (k : Int))]) (fun ⟨k, h13⟩ w' => Le h3 h13 ∧ St h w h13 w' [] ∧ (k ≤ v.votes.length) ∧ (∀ j, j < k → zeU p v j = true)) (fun ⟨k, h13⟩ => v.votes.length - k) ⟨0, h3⟩ ⟨rfl, trivial⟩ ⟨Le.refl _, st6, zaW, zaW⟩ ?_
 rintro ⟨k, h13⟩ _ w16 ⟨le14, st15, hk, hN⟩
 refine W.sr<|zaX X X X<|Y<|zj ?_
 refine zC rfl (fun c17 => ?_) (fun c17 => ?_)
 ·
  refine zy<|O<|zj<|zG<|W.sr<|zh X X ?_
  obtain ⟨n, hn⟩ : ∃ y_, (v.votes)[k]? = some y_ := t_ge (by omega)
  obtain ⟨b18, o19, _, he21, hc20, hr_n⟩ := Sl.elem (f12.up le14) hn
  obtain rfl := hr_n
  refine zU he21 X X (hk := X) (hu := zg) (hz := zl) X<|U (j := 0) st15.sub hc20 X X X zz X<|zq X X<|zq X X<|Y<|W.sr<|E X zt X zbe X X<|U (j := 3) st15.sub (hc5.up le14) X X X zby X<|zh X X ?_
  obtain ⟨q, hq⟩ : ∃ y_, (p.questions)[k]? = some y_ := t_ge (by omega)
  have l26 := le4.trans le14
  obtain ⟨b22, o23, _, he25, hc24, hr_q⟩ := Sl.elem (p_f3.up l26) hq
  obtain ⟨v27, rfl, f28⟩ := hr_q
  have f28_b := f28.le
  refine zU he25 X X (hk := X) (hu := zaq) (hz := zbR) X<|E X zaF X zch X X<|U (j := 3) st15.sub hc24 X X X zcy X<|zaH f28 X zaZ X<|ziC X X t_om X<|zh X X<|zac (L := LInt) (xs := [n]) (cs := [.int .i64 n]) st15 (Enc.cons (L := LInt) (vs := [.int .i64 n]) (x := n) (h := h13) (X) Enc.nil) X X X zg Tryz.info3 X X X t_kr<|fun v29 w30 h33 le34 f31 st32=>ze st32 X X X zfm X (zes st32.sub _ _ f31)<|fun r35 w36 h37 le38 st39 q40=> ?_
  obtain rfl := q40
  refine zbl X X<|Y ?_
  refine zae rfl (fun c41 => ?_) (fun c41 => ?_)
  ·
   refine W.sr<|zF X X<|Y<|zw<|zK<|zd<|zd<|zK<|zd<|zb Tryz.results264 ?_
   refine ⟨h37, _, rfl, st39.done, ?_⟩
   refine zx ?_
   simp only [hv]
   exact (votesOk_no (k := k) (by simp only [zeU, hn, hq]; simpa [inAll_one] using c41)).symm
  refine zy<|zO<|O<|zn<|zaM X X t_om X<|zh X X<|Y ?_
  refine ⟨⟨k + 1, h37⟩, ⟨rfl, trivial⟩, ?_, ⟨((le14.trans le34).trans le38), st39, ?_, ?_⟩, ?_⟩
  ·exact zau
  ·first | omega | (simp; omega)
  ·exact zdf hN (by simp only [zeU, hn, hq]; simpa [inAll_one] using c41)
  show v.votes.length - ((k + 1)) < v.votes.length - k
  omega
 refine zaI<|zm<|zm<|zam<|O<|W.sr<|zF X X<|Y<|zw<|zb Tryz.results264 ?_
 refine ⟨h13, _, rfl, st15.done, ?_⟩
 refine zx ?_
 simp only [hv]
 exact (zgJ hN (by omega)).symm
theorem c_vote_asked_5_1 {h : Heap} {w : World} (hs : Sub h w) {u : Voter} {u_v0 : Value} (u_f0 : Sl LInt h u_v0 u.votes) {p_b : Nat} {p : Poll} {p_v0 : Value} (p_f0 : Sl LChapter h p_v0 p.text.chapters) {p_v1 : Value} (p_f1 : Sl LRule h p_v1 p.lexicon.rules) {p_v2 : Value} (p_f2 : Sl LDecision h p_v2 p.lexicon.decisions) {p_v3 : Value} (p_f3 : Sl LQuestion h p_v3 p.questions) {p_v4 : Value} (p_f4 : Sl LVoter h p_v4 p.voters) (p_c : Cells h p_b 0 [p_v0, p_v1, p_v2, p_v3, p_v4]) {i_b : Nat} {i : Int} (i_c : Cells h i_b 0 [.int .i64 i]) (hi : 0 ≤ i ∧ i < (p.voters.length : Int)) : Calls Tryz.prog 267 #[.agg #[.int .i64 u.id, .int .i64 u.wrong, u_v0], .pointer (some ⟨p_b, 0, none⟩), .pointer (some ⟨i_b, 0, none⟩)] w (Rets h w (fun _ _ res_ => res_ = .bool ((match p.voters[i.toNat]? with | some v => decide (u.id = v.id) | none => false)))) := by
 refine zP (n := 14) Tryz.func267 X X X ?_
 have st0 := t_s0 hs
 have u_f0_b := u_f0.le
 have p_f0_b := p_f0.le
 have p_f1_b := p_f1.le
 have p_f2_b := p_f2.le
 have p_f3_b := p_f3.le
 have p_f4_b := p_f4.le
 obtain ⟨v, hv⟩ : ∃ v, p.voters[i.toNat]? = some v := ⟨_, List.getElem?_eq_getElem (by omega)⟩
 refine W.sr<|zJ st0 (cs := [.int .i64 (u.id), .int .i64 (u.wrong), u_v0]) X X X<|fun b1 w2 h3 le4 hc5 st6=>zF X X<|Y<|zj<|zbX Tryz.mixed t_kr (Cls h3 _) (Cls.drew st6)<|zZ X zaz X zl X X<|zH X X (fun _ hC => (zf (j := 0) hC.sub hc5 X X X zz))<|zZ X zt X zaL X X<|zH X X (fun _ hC => (zf (j := 4) hC.sub (p_c.up le4) X X X zbj))<|zH X X (fun _ hC => (zf (j := 0) hC.sub (i_c.up le4) X X X zz)) ?_
 obtain ⟨b7, o8, _, he10, hc9, hr_v⟩ := Sl.elem (p_f4.up le4) hv
 obtain ⟨v11, rfl, f12⟩ := hr_v
 have f12_b := f12.le
 refine zH rfl rfl (fun _ _ => (zav he10 rfl rfl (hk := (show _ = ((i.toNat : Nat) : Int) by omega)) (hu := zaa) (hz := zaT))) ?_
 refine zZ X zaz X zl X X<|zH X X (fun _ hC => (zf (j := 0) hC.sub hc9 X X X zz))<|u_eql X X X<|u_asB X X<|zbC ?_
 rintro w13 ⟨h14, s15⟩
 have st16 := st6.call0 s15
 refine O<|zw<|zb Tryz.results267 ?_
 refine ⟨h14, _, rfl, st16.done, ?_⟩
 refine zx ?_
 simp only [hv]
theorem c_vote_asked_5 {h : Heap} {w : World} (hs : Sub h w) {p : Poll} {p_v0 : Value} (p_f0 : Sl LChapter h p_v0 p.text.chapters) {p_v1 : Value} (p_f1 : Sl LRule h p_v1 p.lexicon.rules) {p_v2 : Value} (p_f2 : Sl LDecision h p_v2 p.lexicon.decisions) {p_v3 : Value} (p_f3 : Sl LQuestion h p_v3 p.questions) {p_v4 : Value} (p_f4 : Sl LVoter h p_v4 p.voters) (i : Int) (hi : 0 ≤ i ∧ i < (p.voters.length : Int)) : Calls Tryz.prog 265 #[.agg #[p_v0, p_v1, p_v2, p_v3, p_v4], .int .i64 i] w (Rets h w (fun _ _ res_ => res_ = .bool ((match p.voters[i.toNat]? with | some v => (!((p.voters.take i.toNat).any fun u => decide (u.id = v.id))) | none => true)))) := by
 refine zP (n := 12) Tryz.func265 X X X ?_
 have st0 := t_s0 hs
 have p_f0_b := p_f0.le
 have p_f1_b := p_f1.le
 have p_f2_b := p_f2.le
 have p_f3_b := p_f3.le
 have p_f4_b := p_f4.le
 obtain ⟨v, hv⟩ : ∃ v, p.voters[i.toNat]? = some v := ⟨_, List.getElem?_eq_getElem (by omega)⟩
 refine W.sr<|zJ st0 (cs := [p_v0, p_v1, p_v2, p_v3, p_v4]) X X X<|fun b1 w2 h3 le4 hc5 st6=>zJ st6 (cs := [.int .i64 i]) X X X<|fun b7 w8 h9 le10 hc11 st12=>zF X X<|Y<|W.sr<|E X zt X zaL X X<|U (j := 4) st12.sub (hc5.up le10) X X X zbj X<|U (j := 0) st12.sub hc11 X X X zz X ?_
 have f13 := Sl.take p_f4 (k := i.toNat) (by omega)
 have l14 := le4.trans le10
 refine zi rfl rfl (r_slice_to_sl (p_f4.up l14) rfl rfl (hk := (show _ = ((i.toNat : Nat) : Int) by omega)) (by omega) zaa zaT) ?_
 refine zcL X X X ?_
 refine ze st12 rfl rfl rfl Tryz.call266 rfl (zeC st12.sub (f13.up l14) (fun x_ => (match (p).voters[(i).toNat]? with | some v => decide ((x_).id = v.id) | none => false)) Tryz.call267 (fun x_ h_ w_ vs_ le_ hs_ hx_ hr_ u_ hu_ => by obtain ⟨v0_, rfl, f0_⟩ := hr_; cases hu_; exact c_vote_asked_5_1 hs_ (u := x_) f0_ (p := p) ((p_f0.up l14).up le_) ((p_f1.up l14).up le_) ((p_f2.up l14).up le_) ((p_f3.up l14).up le_) ((p_f4.up l14).up le_) ((hc5.up le10).up le_) (i := i) (hc11.up le_) (by exact hi))) ?_
 intro r15 w16 h17 le18 st19 q20
 obtain rfl := q20
 refine zbl X X<|zF X X<|Y<|zw<|zb Tryz.results265 ?_
 refine ⟨h17, _, rfl, st19.done, ?_⟩
 refine zx ?_
 simp only [hv]
end Go.Pk

namespace Go.Pk
open Go Go.RowKit Go.Proofs
set_option maxHeartbeats 4000000 in
theorem c_vote_Check {h : Heap} {w : World} (hs : Sub h w) {p : Poll} {p_v0 : Value} (p_f0 : Sl LChapter h p_v0 p.text.chapters) {p_v1 : Value} (p_f1 : Sl LRule h p_v1 p.lexicon.rules) {p_v2 : Value} (p_f2 : Sl LDecision h p_v2 p.lexicon.decisions) {p_v3 : Value} (p_f3 : Sl LQuestion h p_v3 p.questions) {p_v4 : Value} (p_f4 : Sl LVoter h p_v4 p.voters) (K1 : Cells h 1 0 Tryz.glob1) (K0 : Cells h 0 0 Tryz.glob0) : Calls Tryz.prog 40 #[.agg #[p_v0, p_v1, p_v2, p_v3, p_v4]] w (Rets h w (fun _ _ res_ => res_ = .int .i64 (zbM p))) := by
 refine zP (n := 124) Tryz.func40 X X X<|have st0:=t_s0 hs;have p_f0_b:=p_f0.le;have p_f1_b:=p_f1.le;have p_f2_b:=p_f2.le;have p_f3_b:=p_f3.le;have p_f4_b:=p_f4.le;W.sr<|zJ st0 (cs := [p_v0, p_v1, p_v2, p_v3, p_v4]) X X X<|fun b1 w2 h3 le4 hc5 st6=>zq X X<|Y<|zj<|W.sr<|E X zt X zaA X X<|zal (j := 0) st6.sub hc5 (us := [p_v0]) X X zbk zaA X X X<|E X zt X zaC X X<|zal (j := 1) st6.sub hc5 (us := [p_v1, p_v2]) X X zbL zaC X X X<|ze st6 X X X Tryz.call96 X (zhD st6.sub (t := p.text) (p_f0.up le4) (x := p.lexicon) (p_f1.up le4) (p_f2.up le4) (K1.up le4))<|fun r7 w8 h9 le10 st11 q12=> ?_
 obtain rfl := q12
 refine zq X X<|Y<|W.sr<|zh X X<|zcf X X X<|Y ?_
 refine zC rfl (fun c13 => ?_) (fun c13 => ?_)
 ·
  refine W.sr<|zh X X<|zq X X<|Y<|zw<|zd<|zb zdR ?_
  refine ⟨h9, _, rfl, st11.done, ?_⟩
  refine zah ?_
  simp_all [zbM]
 refine zy<|O<|zj<|zj ?_
 have hz : zaR p.text p.lexicon = 0 := by simpa using c13
 have htx : zbm p.text = true := zdW hz
 refine zn<|E X zt X zbe X X<|U (j := 3) st11.sub (hc5.up le10) X X X zby X<|have l14:=le4.trans le10;zaH (p_f3.up l14) X zaq X<|zdm X X X<|zS X X ?_
 refine zY (d := 26) rfl (fun g15 => ?_) (fun g15 => ?_)
 ·
  refine M X X X X X<|M X X X X X<|M X X X X X<|M X X X X X<|zT (v := (.bool _)) X X X<|Y ?_
  refine zae rfl (fun c16 => ?_) (fun c16 => ?_)
  ·
   refine W.sr<|zq X X<|Y<|zw<|zd<|zb zdR ?_
   refine ⟨h9, _, rfl, st11.done, ?_⟩
   refine zah ?_
   (refine (zgi hz ?_).symm; simp [zcJ]; omega)
  cases c16
 refine Z X X X<|E X zt X zaL X X<|Z X X X<|U (j := 4) st11.sub (hc5.up le10) X X X zbj X<|Z X X X<|zaH (p_f4.up l14) X zaa X<|Z X X X<|zdm X X X<|zN (v := (.bool _)) X X X<|Y ?_
 refine zC rfl (fun c17 => ?_) (fun c17 => ?_)
 ·
  refine W.sr<|zq X X<|Y<|zw<|zd<|zb zdR ?_
  refine ⟨h9, _, rfl, st11.done, ?_⟩
  refine zah ?_
  (refine (zgi hz ?_).symm; simp [zcJ]; omega)
 refine zy<|O<|zj<|W.sr<|E X zt X zbe X X<|U (j := 3) st11.sub (hc5.up le10) X X X zby X<|zaH (p_f3.up l14) X zaq X<|zh X X<|Y<|zG ?_
 refine zax ([2] ++ t_rg 4 7 ++ t_rg 35 71) (G := Nat × Heap) (fun ⟨i, h18⟩ => [(35, .int .i64 (i : Int))]) (fun ⟨i, h18⟩ w' => Le h9 h18 ∧ St h w h18 w' [] ∧ (i ≤ p.questions.length) ∧ (∀ j, j < i → zdN p j = true)) (fun ⟨i, h18⟩ => p.questions.length - i) ⟨0, h9⟩ ⟨rfl, trivial⟩ ⟨Le.refl _, st11, zaW, zaW⟩ ?_
 rintro ⟨i, h18⟩ _ w21 ⟨le19, st20, hi, hA⟩
 refine W.sr<|zaX X X X<|Y<|zj ?_
 refine zC rfl (fun c22 => ?_) (fun c22 => ?_)
 ·
  refine zy<|O<|zj<|zG<|W.sr<|zh X X ?_
  obtain ⟨q, hq⟩ : ∃ y_, (p.questions)[i]? = some y_ := t_ge (by omega)
  have l27 := l14.trans le19
  obtain ⟨b23, o24, _, he26, hc25, hr_q⟩ := Sl.elem (p_f3.up l27) hq
  obtain ⟨v28, rfl, f29⟩ := hr_q
  have f29_b := f29.le
  refine zU he26 X X (hk := X) (hu := zaq) (hz := zbR) X<|zr st20.sub hc25 X Tryz.isAgg84 zbR X X<|zQ st20 Tryz.zeroValue84 X X<|fun b30 w31 st32=>zq X X<|zI st32 (k := 0) X X X (za X (za X (za X (za f29.one zan)))) zbR X X X<|fun w33 st34=> ?_
  obtain ⟨h35, le36, hb37, st39⟩ := st34.freeze (k := 0) rfl
  have hc38 := Cells.of hb37
  refine Y<|W.sr<|E X zt X zaA X X<|zal (j := 0) st39.sub (hc5.up ((le10.trans le19).trans le36)) (us := [p_v0]) X X zbk zaA X X X<|E X zaF X zW X X<|zal (j := 0) st39.sub hc38 (us := [.int .i64 (q.at_.chapter), .int .i64 (q.at_.line), .int .i64 (q.at_.word)]) X X zaQ zW X X X ?_
  have l40 := l27.trans le36
  have con := (zgP st39.sub (t := p.text) (p_f0.up l40) (p := q.at_))
  rw [htx] at con; simp only [Bool.true_and, if_true] at con
  refine ze st39 X X X Tryz.call85 X con<|fun r41 w42 h43 le44 st45 q46=> ?_
  obtain rfl := q46
  clear con
  refine zbY X X<|zA (v := (strV _)) X X X<|zA (v := (.int _ _)) X X X<|zfD X X<|zq X X<|Y<|zj ?_
  refine W.join ([8] ++ t_rg 48 26) (G := Heap) (fun h47 => [(8, .bool (zej p i q))]) (fun h47 w' => Le h43 h47 ∧ St h w h47 w' [[]]) ?_ ?_
  ·
   rcases Bool.eq_false_or_eq_true (decide (((if zbE p.text q.at_ = true then (0 : Int) else 12)) = 0)) with g51 | g51
   ·
    have g51_r := g51
    replace g51 := t_ot g51
    rcases Bool.eq_false_or_eq_true ((zcK (([(q.heads.length : Int)])) (2) (3))) with g52 | g52
    ·
     have g52_r := g52
     rcases Bool.eq_false_or_eq_true (decide ((i : Int) = 0)) with g53 | g53
     ·
      have g53_r := g53
      replace g53 := t_ot g53
      refine zbg (er := ([], [], [], [], 0)) (dsts := [48, 49, 50, 51, 52, 53, 54, 55, 56, 57, 58, 59, 60, 61, 62, 63, 64, 65, 66, 67, 68, 69, 70, 71, 72, 73, 8]) st45 Tryz.mixed<|zc 0 [] X t_kr t_kr X X (fun hD wD τD hL hS hO  => (zel X))<|zc 1 [0] X t_kr t_kr X X (fun hD wD τD hL hS hO _ _ => (Run.lit (r_eql X X) g51_r))<|zc 2 [0] X t_kr t_kr X X (fun hD wD τD hL hS hO _ _ => (zeW X))<|zba 3 [0] X t_kr t_kr X X X (fun hD wD τD hL hS hO _ _ => ⟨rfl, (zB X zaF X zch X)⟩)<|zba 4 [0, 1] X t_kr t_kr X X X (fun hD wD τD hL hS hO _ _ _ _ => ⟨rfl, (zf (j := 3) (hL.sub hS) (hc38.up le44) X X X zcy)⟩)<|zba 5 [0, 2] X t_kr t_kr X X X (fun hD wD τD hL hS hO _ _ _ _ => ⟨rfl, (zhS (f29.up (le36.trans le44)) X zaZ)⟩) ?_
      refine zas 6 (.res (fun h' res_ => Sl LInt h' res_ ([(q.heads.length : Int)])) (fun _ _ _ hl f => f.up hl)) [0, 3] rfl t_kr t_kr ?_ ?_
      ·
       intro hD wD τD hL hS hO _ _ _ _
       have st54 := St.start hS
       refine Z X X X<|zac (L := LInt) (xs := [(q.heads.length : Int)]) (cs := [.int .i64 (q.heads.length : Int)]) st54 (Enc.cons (L := LInt) (vs := [.int .i64 (q.heads.length : Int)]) (x := (q.heads.length : Int)) (h := hD) (X) Enc.nil) X X X zg Tryz.info3 X X X t_kr<|fun v55 w56 h59 le60 f57 st58=> ?_
       exact zp ⟨_, _, rfl, st58, _, rfl, f57⟩
      refine zas 7 (.det (.bool (zcK (([(q.heads.length : Int)])) (2) (3)))) [0, 4] rfl t_kr t_kr ?_ ?_
      ·
       intro hD wD τD hL hS hO gv6_0 gf6_0 _ _
       have st61 := St.start hS
       refine Z X X X<|ze st61 X X X zfm X (zes st61.sub _ _ gf6_0)<|fun r62 w63 h64 le65 st66 q67=> ?_
       obtain rfl := q67
       exact zp ⟨_, _, rfl, st66, (), rfl, trivial⟩
      refine zc 8 [5, 0] X t_kr t_kr X X (fun hD wD τD hL hS hO _ _ _ _ => (Run.lit (zhz (v := (.bool _)) X X) g52_r))<|zc 9 [0, 1] X t_kr t_kr X X (fun hD wD τD hL hS hO _ _ _ _ => (zeW X))<|zba 10 [0] X t_kr t_kr X X X (fun hD wD τD hL hS hO _ _ => ⟨rfl, (zel X)⟩)<|zba 11 [0, 1] X t_kr t_kr X X X (fun hD wD τD hL hS hO _ _ _ _ => ⟨rfl, (Run.lit (r_eql X X) g53_r)⟩)<|zba 12 [0, 2] X t_kr t_kr X X X (fun hD wD τD hL hS hO _ _ _ _ => ⟨rfl, (zeW X)⟩)<|zaN 13 [0] X t_kr t_kr X X X X (fun hD wD τD hL hS hO _ _ => X)<|zaN 14 [0, 1] X t_kr t_kr X X X X (fun hD wD τD hL hS hO _ _ _ _ => X)<|zaN 15 [2] X t_kr t_kr X X X X (fun hD wD τD hL hS hO _ _ => X)<|zaN 16 [0, 3] X t_kr t_kr X X X X (fun hD wD τD hL hS hO _ _ _ _ => X)<|zaN 17 [2, 0, 4] X t_kr t_kr X X X X (fun hD wD τD hL hS hO _ _ _ _ _ _ => X)<|zaN 18 [0, 5] X t_kr t_kr X X X X (fun hD wD τD hL hS hO _ _ _ _ => X)<|zaN 19 [0, 6] X t_kr t_kr X X X X (fun hD wD τD hL hS hO _ _ _ _ => X)<|zaN 20 [7] X t_kr t_kr X X X X (fun hD wD τD hL hS hO _ _ => X)<|zaN 21 [0, 8] X t_kr t_kr X X X X (fun hD wD τD hL hS hO _ _ _ _ => X)<|zaN 22 [2, 0, 9] X t_kr t_kr X X X X (fun hD wD τD hL hS hO _ _ _ _ _ _ => X)<|zaN 23 [0, 10] X t_kr t_kr X X X X (fun hD wD τD hL hS hO _ _ _ _ => X)<|zba 24 [11, 0, 14] X t_kr t_kr X X X (fun hD wD τD hL hS hO _ _ _ _ _ _ => ⟨rfl, (zhz (v := (.bool _)) X X)⟩)<|zc 25 [15, 0] X t_kr t_kr X X (fun hD wD τD hL hS hO _ _ _ _ => (zhz (v := (.bool _)) X X))<|zc 26 [25, 24, 23, 22, 21, 20, 19, 18, 17, 16, 15, 14, 13, 12, 11, 10, 9, 8, 7, 6, 5, 4, 3, 2, 1, 0] X t_kr t_kr X X (fun hD wD τD hL hS hO _ _ _ _ _ _ _ _ _ _ _ _ gv6_0 gf6_0 _ _ _ _ _ _ _ _ _ _ _ _ _ _ _ _ _ _ _ _ _ _ _ _ _ _ _ _ _ _ _ _ _ _ _ _ _ _ => (r_asB X))<|zbP X X X X X X ⟨t_kr, X, t_kr, X, t_kr, X, X, t_kr, zcu⟩<|fun hE68 w69 _ le70 st71 _ _ _ _ _ _ _ _ _ _ _ _ gv6_0x72 gf6_0x72 _ _ _ _ _ _ _ _ _ _ _ _ _ _ _ _ _ _ _ _ _ _ _ _ _ _ _ _ _ _ _ _ _ _ _ _ _ _ _ _=>AllDeps.fin X ?_
      refine ⟨rfl, hE68, ⟨?_, trivial⟩, ?_, le70, st71⟩
      ·exact zx (by first | exact q_init0 g51 g52 g53 | exact q_init1 g51 g52 g53 hq1 | exact q_init2 g53 | exact q_init3 g53)
      exact zau
     have g53_r := g53
     replace g53 := t_of g53
     have l73 := ((le10.trans le19).trans le36).trans le44
     obtain ⟨q1, hq1⟩ : ∃ y_, (p.questions)[(i - 1)]? = some y_ := t_ge (by omega)
     have l78 := l40.trans le44
     obtain ⟨b74, o75, _, he77, hc76, hr_q1⟩ := Sl.elem (p_f3.up l78) hq1
     obtain ⟨v79, rfl, f80⟩ := hr_q1
     have f80_b := f80.le
     refine zbg (er := ([], [], [], [], 0)) (dsts := [48, 49, 50, 51, 52, 53, 54, 55, 56, 57, 58, 59, 60, 61, 62, 63, 64, 65, 66, 67, 68, 69, 70, 71, 72, 73, 8]) st45 Tryz.mixed<|zc 0 [] X t_kr t_kr X X (fun hD wD τD hL hS hO  => (zel X))<|zc 1 [0] X t_kr t_kr X X (fun hD wD τD hL hS hO _ _ => (Run.lit (r_eql X X) g51_r))<|zc 2 [0] X t_kr t_kr X X (fun hD wD τD hL hS hO _ _ => (zeW X))<|zba 3 [0] X t_kr t_kr X X X (fun hD wD τD hL hS hO _ _ => ⟨rfl, (zB X zaF X zch X)⟩)<|zba 4 [0, 1] X t_kr t_kr X X X (fun hD wD τD hL hS hO _ _ _ _ => ⟨rfl, (zf (j := 3) (hL.sub hS) (hc38.up le44) X X X zcy)⟩)<|zba 5 [0, 2] X t_kr t_kr X X X (fun hD wD τD hL hS hO _ _ _ _ => ⟨rfl, (zhS (f29.up (le36.trans le44)) X zaZ)⟩) ?_
     refine zas 6 (.res (fun h' res_ => Sl LInt h' res_ ([(q.heads.length : Int)])) (fun _ _ _ hl f => f.up hl)) [0, 3] rfl t_kr t_kr ?_ ?_
     ·
      intro hD wD τD hL hS hO _ _ _ _
      have st81 := St.start hS
      refine Z X X X<|zac (L := LInt) (xs := [(q.heads.length : Int)]) (cs := [.int .i64 (q.heads.length : Int)]) st81 (Enc.cons (L := LInt) (vs := [.int .i64 (q.heads.length : Int)]) (x := (q.heads.length : Int)) (h := hD) (X) Enc.nil) X X X zg Tryz.info3 X X X t_kr<|fun v82 w83 h86 le87 f84 st85=> ?_
      exact zp ⟨_, _, rfl, st85, _, rfl, f84⟩
     refine zas 7 (.det (.bool (zcK (([(q.heads.length : Int)])) (2) (3)))) [0, 4] rfl t_kr t_kr ?_ ?_
     ·
      intro hD wD τD hL hS hO gv6_0 gf6_0 _ _
      have st88 := St.start hS
      refine Z X X X<|ze st88 X X X zfm X (zes st88.sub _ _ gf6_0)<|fun r89 w90 h91 le92 st93 q94=> ?_
      obtain rfl := q94
      exact zp ⟨_, _, rfl, st93, (), rfl, trivial⟩
     refine zc 8 [5, 0] X t_kr t_kr X X (fun hD wD τD hL hS hO _ _ _ _ => (Run.lit (zhz (v := (.bool _)) X X) g52_r))<|zc 9 [0, 1] X t_kr t_kr X X (fun hD wD τD hL hS hO _ _ _ _ => (zeW X))<|zba 10 [0] X t_kr t_kr X X X (fun hD wD τD hL hS hO _ _ => ⟨rfl, (zel X)⟩)<|zba 11 [0, 1] X t_kr t_kr X X X (fun hD wD τD hL hS hO _ _ _ _ => ⟨rfl, (Run.lit (r_eql X X) g53_r)⟩)<|zba 12 [0, 2] X t_kr t_kr X X X (fun hD wD τD hL hS hO _ _ _ _ => ⟨rfl, (zeW X)⟩)<|zba 13 [0] X t_kr t_kr X X X (fun hD wD τD hL hS hO _ _ => ⟨rfl, (zB X zt X zbe X)⟩)<|zba 14 [0, 1] X t_kr t_kr X X X (fun hD wD τD hL hS hO _ _ _ _ => ⟨rfl, (zf (j := 3) (hL.sub hS) (hc5.up l73) X X X zby)⟩)<|zba 15 [2] X t_kr t_kr X X X (fun hD wD τD hL hS hO _ _ => ⟨rfl, (zel X)⟩)<|zba 16 [0, 3] X t_kr t_kr X X X (fun hD wD τD hL hS hO _ _ _ _ => ⟨rfl, (ziF X X t_om)⟩) ?_
     refine zba 17 [2, 0, 4] rfl t_kr t_kr rfl rfl rfl (fun hD wD τD hL hS hO _ _ _ _ _ _ => ⟨rfl, (zav he77 rfl rfl (hk := (show _ = (((i - 1) : Nat) : Int) by omega)) (hu := zaq) (hz := zbR))⟩) ?_
     refine zba 18 [0, 5] X t_kr t_kr X X X (fun hD wD τD hL hS hO _ _ _ _ => ⟨rfl, (zB X zaF X zW X)⟩)<|zba 19 [0, 6] X t_kr t_kr X X X (fun hD wD τD hL hS hO _ _ _ _ => ⟨rfl, (zcD (j := 0) (hL.sub hS) hc76 (us := [.int .i64 (q1.at_.chapter), .int .i64 (q1.at_.line), .int .i64 (q1.at_.word)]) X X zaQ zW X X)⟩)<|zba 20 [7] X t_kr t_kr X X X (fun hD wD τD hL hS hO _ _ => ⟨rfl, (zB X zaF X zW X)⟩)<|zba 21 [0, 8] X t_kr t_kr X X X (fun hD wD τD hL hS hO _ _ _ _ => ⟨rfl, (zcD (j := 0) (hL.sub hS) (hc38.up le44) (us := [.int .i64 (q.at_.chapter), .int .i64 (q.at_.line), .int .i64 (q.at_.word)]) X X zaQ zW X X)⟩) ?_
     refine zas 22 (.det (.int .i64 ((orL [cmpI (q1.at_).chapter (q.at_).chapter, cmpI (q1.at_).line (q.at_).line, cmpI (q1.at_).word (q.at_).word])))) [2, 0, 9] rfl t_kr t_kr ?_ ?_
     ·
      intro hD wD τD hL hS hO _ _ _ _ _ _
      have st95 := St.start hS
      refine Z X X X<|ze st95 X X X Tryz.call97 X (c_vote_places st95.sub (a := q1.at_) (b := q.at_))<|fun r96 w97 h98 le99 st100 q101=> ?_
      obtain rfl := q101
      exact zp ⟨_, _, rfl, st100, (), rfl, trivial⟩
     refine zba 23 [0, 10] X t_kr t_kr X X X (fun hD wD τD hL hS hO _ _ _ _ => ⟨rfl, (r_lss X X)⟩)<|zba 24 [11, 0, 14] X t_kr t_kr X X X (fun hD wD τD hL hS hO _ _ _ _ _ _ => ⟨rfl, (zfR (v := (.bool _)) X X)⟩)<|zc 25 [15, 0] X t_kr t_kr X X (fun hD wD τD hL hS hO _ _ _ _ => (zhz (v := (.bool _)) X X))<|zc 26 [25, 24, 23, 22, 21, 20, 19, 18, 17, 16, 15, 14, 13, 12, 11, 10, 9, 8, 7, 6, 5, 4, 3, 2, 1, 0] X t_kr t_kr X X (fun hD wD τD hL hS hO _ _ _ _ _ _ _ _ _ _ _ _ gv6_0 gf6_0 _ _ _ _ _ _ _ _ _ _ _ _ _ _ _ _ _ _ _ _ _ _ _ _ _ _ _ _ _ _ _ _ _ _ _ _ _ _ => (r_asB X))<|zbP X X X X X X ⟨t_kr, X, t_kr, X, t_kr, X, X, t_kr, zcu⟩<|fun hE102 w103 _ le104 st105 _ _ _ _ _ _ _ _ _ _ _ _ gv6_0x106 gf6_0x106 _ _ _ _ _ _ _ _ _ _ _ _ _ _ _ _ _ _ _ _ _ _ _ _ _ _ _ _ _ _ _ _ _ _ _ _ _ _ _ _=>AllDeps.fin X ?_
     refine ⟨rfl, hE102, ⟨?_, trivial⟩, ?_, le104, st105⟩
     ·exact zx (by first | exact q_init0 g51 g52 g53 | exact q_init1 g51 g52 g53 hq1 | exact q_init2 g53 | exact q_init3 g53)
     exact zau
    have g52_r := g52
    refine zbg (er := ([], [], [], [], 0)) (dsts := [48, 49, 50, 51, 52, 53, 54, 55, 56, 57, 58, 59, 60, 61, 62, 63, 64, 65, 66, 67, 68, 69, 70, 71, 72, 73, 8]) st45 Tryz.mixed<|zc 0 [] X t_kr t_kr X X (fun hD wD τD hL hS hO  => (zel X))<|zc 1 [0] X t_kr t_kr X X (fun hD wD τD hL hS hO _ _ => (Run.lit (r_eql X X) g51_r))<|zc 2 [0] X t_kr t_kr X X (fun hD wD τD hL hS hO _ _ => (zeW X))<|zba 3 [0] X t_kr t_kr X X X (fun hD wD τD hL hS hO _ _ => ⟨rfl, (zB X zaF X zch X)⟩)<|zba 4 [0, 1] X t_kr t_kr X X X (fun hD wD τD hL hS hO _ _ _ _ => ⟨rfl, (zf (j := 3) (hL.sub hS) (hc38.up le44) X X X zcy)⟩)<|zba 5 [0, 2] X t_kr t_kr X X X (fun hD wD τD hL hS hO _ _ _ _ => ⟨rfl, (zhS (f29.up (le36.trans le44)) X zaZ)⟩) ?_
    refine zas 6 (.res (fun h' res_ => Sl LInt h' res_ ([(q.heads.length : Int)])) (fun _ _ _ hl f => f.up hl)) [0, 3] rfl t_kr t_kr ?_ ?_
    ·
     intro hD wD τD hL hS hO _ _ _ _
     have st107 := St.start hS
     refine Z X X X<|zac (L := LInt) (xs := [(q.heads.length : Int)]) (cs := [.int .i64 (q.heads.length : Int)]) st107 (Enc.cons (L := LInt) (vs := [.int .i64 (q.heads.length : Int)]) (x := (q.heads.length : Int)) (h := hD) (X) Enc.nil) X X X zg Tryz.info3 X X X t_kr<|fun v108 w109 h112 le113 f110 st111=> ?_
     exact zp ⟨_, _, rfl, st111, _, rfl, f110⟩
    refine zas 7 (.det (.bool (zcK (([(q.heads.length : Int)])) (2) (3)))) [0, 4] rfl t_kr t_kr ?_ ?_
    ·
     intro hD wD τD hL hS hO gv6_0 gf6_0 _ _
     have st114 := St.start hS
     refine Z X X X<|ze st114 X X X zfm X (zes st114.sub _ _ gf6_0)<|fun r115 w116 h117 le118 st119 q120=> ?_
     obtain rfl := q120
     exact zp ⟨_, _, rfl, st119, (), rfl, trivial⟩
    refine zc 8 [5, 0] X t_kr t_kr X X (fun hD wD τD hL hS hO _ _ _ _ => (Run.lit (zhz (v := (.bool _)) X X) g52_r))<|zc 9 [0, 1] X t_kr t_kr X X (fun hD wD τD hL hS hO _ _ _ _ => (zeW X))<|zaN 10 [0] X t_kr t_kr X X X X (fun hD wD τD hL hS hO _ _ => X)<|zaN 11 [0, 1] X t_kr t_kr X X X X (fun hD wD τD hL hS hO _ _ _ _ => X)<|zaN 12 [0, 2] X t_kr t_kr X X X X (fun hD wD τD hL hS hO _ _ _ _ => X)<|zcz 13 [0] X t_kr t_kr X X X (fun hD wD τD hL hS hO _ _ => X)<|zcz 14 [0, 1] X t_kr t_kr X X X (fun hD wD τD hL hS hO _ _ _ _ => X)<|zcz 15 [2] X t_kr t_kr X X X (fun hD wD τD hL hS hO _ _ => X)<|zcz 16 [0, 3] X t_kr t_kr X X X (fun hD wD τD hL hS hO _ _ _ _ => X)<|zcz 17 [2, 0, 4] X t_kr t_kr X X X (fun hD wD τD hL hS hO _ _ _ _ _ _ => X)<|zcz 18 [0, 5] X t_kr t_kr X X X (fun hD wD τD hL hS hO _ _ _ _ => X)<|zcz 19 [0, 6] X t_kr t_kr X X X (fun hD wD τD hL hS hO _ _ _ _ => X)<|zcz 20 [7] X t_kr t_kr X X X (fun hD wD τD hL hS hO _ _ => X)<|zcz 21 [0, 8] X t_kr t_kr X X X (fun hD wD τD hL hS hO _ _ _ _ => X)<|zcz 22 [2, 0, 9] X t_kr t_kr X X X (fun hD wD τD hL hS hO _ _ _ _ _ _ => X)<|zcz 23 [0, 10] X t_kr t_kr X X X (fun hD wD τD hL hS hO _ _ _ _ => X)<|zaN 24 [11, 0, 14] X t_kr t_kr X X X X (fun hD wD τD hL hS hO _ _ _ _ _ _ => X)<|zc 25 [15, 0] X t_kr t_kr X X (fun hD wD τD hL hS hO _ _ _ _ => (zfR (v := (.bool _)) X X))<|zc 26 [25, 24, 23, 22, 21, 20, 19, 18, 17, 16, 15, 14, 13, 12, 11, 10, 9, 8, 7, 6, 5, 4, 3, 2, 1, 0] X t_kr t_kr X X (fun hD wD τD hL hS hO _ _ _ _ _ _ _ _ _ _ _ _ gv6_0 gf6_0 _ _ _ _ _ _ _ _ _ _ _ _ _ _ _ _ _ _ _ _ _ _ _ _ _ _ _ _ _ _ _ _ _ _ _ _ _ _ => (r_asB X))<|zbP X X X X X X ⟨t_kr, X, t_kr, X, t_kr, X, X, t_kr, zcu⟩<|fun hE121 w122 _ le123 st124 _ _ _ _ _ _ _ _ _ _ _ _ gv6_0x125 gf6_0x125 _ _ _ _ _ _ _ _ _ _ _ _ _ _ _ _ _ _ _ _ _ _ _ _ _ _ _ _ _ _ _ _ _ _ _ _ _ _ _ _=>AllDeps.fin X ?_
    refine ⟨rfl, hE121, ⟨?_, trivial⟩, ?_, le123, st124⟩
    ·exact zx (by first | exact q_init0 g15 g51 g52 | exact q_init1 g15 g51 g52 hq1 | exact q_init2 g52 | exact q_init3 g52)
    exact zau
   have g51_r := g51
   replace g51 := t_of g51
   refine zbg (er := ([], [], [], [], 0)) (dsts := [48, 49, 50, 51, 52, 53, 54, 55, 56, 57, 58, 59, 60, 61, 62, 63, 64, 65, 66, 67, 68, 69, 70, 71, 72, 73, 8]) st45 Tryz.mixed<|zc 0 [] X t_kr t_kr X X (fun hD wD τD hL hS hO  => (zel X))<|zc 1 [0] X t_kr t_kr X X (fun hD wD τD hL hS hO _ _ => (Run.lit (r_eql X X) g51_r))<|zc 2 [0] X t_kr t_kr X X (fun hD wD τD hL hS hO _ _ => (zeW X))<|zaN 3 [0] X t_kr t_kr X X X X (fun hD wD τD hL hS hO _ _ => X)<|zaN 4 [0, 1] X t_kr t_kr X X X X (fun hD wD τD hL hS hO _ _ _ _ => X)<|zaN 5 [0, 2] X t_kr t_kr X X X X (fun hD wD τD hL hS hO _ _ _ _ => X)<|zaN 6 [0, 3] X t_kr t_kr X X X X (fun hD wD τD hL hS hO _ _ _ _ => X)<|zaN 7 [0, 4] X t_kr t_kr X X X X (fun hD wD τD hL hS hO _ _ _ _ => X)<|zc 8 [5, 0] X t_kr t_kr X X (fun hD wD τD hL hS hO _ _ _ _ => (zfR (v := (.bool _)) X X))<|zc 9 [0, 1] X t_kr t_kr X X (fun hD wD τD hL hS hO _ _ _ _ => (zeW X))<|zaN 10 [0] X t_kr t_kr X X X X (fun hD wD τD hL hS hO _ _ => X)<|zaN 11 [0, 1] X t_kr t_kr X X X X (fun hD wD τD hL hS hO _ _ _ _ => X)<|zaN 12 [0, 2] X t_kr t_kr X X X X (fun hD wD τD hL hS hO _ _ _ _ => X)<|zcz 13 [0] X t_kr t_kr X X X (fun hD wD τD hL hS hO _ _ => X)<|zcz 14 [0, 1] X t_kr t_kr X X X (fun hD wD τD hL hS hO _ _ _ _ => X)<|zcz 15 [2] X t_kr t_kr X X X (fun hD wD τD hL hS hO _ _ => X)<|zcz 16 [0, 3] X t_kr t_kr X X X (fun hD wD τD hL hS hO _ _ _ _ => X)<|zcz 17 [2, 0, 4] X t_kr t_kr X X X (fun hD wD τD hL hS hO _ _ _ _ _ _ => X)<|zcz 18 [0, 5] X t_kr t_kr X X X (fun hD wD τD hL hS hO _ _ _ _ => X)<|zcz 19 [0, 6] X t_kr t_kr X X X (fun hD wD τD hL hS hO _ _ _ _ => X)<|zcz 20 [7] X t_kr t_kr X X X (fun hD wD τD hL hS hO _ _ => X)<|zcz 21 [0, 8] X t_kr t_kr X X X (fun hD wD τD hL hS hO _ _ _ _ => X)<|zcz 22 [2, 0, 9] X t_kr t_kr X X X (fun hD wD τD hL hS hO _ _ _ _ _ _ => X)<|zcz 23 [0, 10] X t_kr t_kr X X X (fun hD wD τD hL hS hO _ _ _ _ => X)<|zaN 24 [11, 0, 14] X t_kr t_kr X X X X (fun hD wD τD hL hS hO _ _ _ _ _ _ => X)<|zc 25 [15, 0] X t_kr t_kr X X (fun hD wD τD hL hS hO _ _ _ _ => (zfR (v := (.bool _)) X X))<|zc 26 [25, 24, 23, 22, 21, 20, 19, 18, 17, 16, 15, 14, 13, 12, 11, 10, 9, 8, 7, 6, 5, 4, 3, 2, 1, 0] X t_kr t_kr X X (fun hD wD τD hL hS hO _ _ _ _ _ _ _ _ _ _ _ _ _ _ _ _ _ _ _ _ _ _ _ _ _ _ _ _ _ _ _ _ _ _ _ _ _ _ _ _ _ _ _ _ _ _ _ _ _ _ _ _ => (r_asB X))<|zbP X X X X X X ⟨t_kr, X, t_kr, X, t_kr, X, X, t_kr, zcu⟩<|fun hE126 w127 _ le128 st129 _ _ _ _ _ _ _ _ _ _ _ _ _ _ _ _ _ _ _ _ _ _ _ _ _ _ _ _ _ _ _ _ _ _ _ _ _ _ _ _ _ _ _ _ _ _ _ _ _ _ _ _ _ _=> ?_
   refine AllDeps.fin X ?_
   refine ⟨rfl, hE126, ⟨?_, trivial⟩, ?_, le128, st129⟩
   ·exact zx (by first | exact q_init0 %g3 g15 g51 | exact q_init1 %g3 g15 g51 hq1 | exact q_init2 g51 | exact q_init3 g51)
   exact zau
  rintro h47 _ w50 ⟨le48, st49⟩
  refine O<|zj<|W.sr<|E X zaF X zch X X<|U (j := 3) st49.sub (hc38.up (le44.trans le48)) X X X zcy X<|zaH (f29.up ((le36.trans le44).trans le48)) X zaZ X<|zh X X<|Y<|zG ?_
  refine zax ([8, 9, 10] ++ t_rg 77 26) (G := Nat × Heap) (fun ⟨k, h131⟩ => [(8, .bool (zfG p i q k)), (77, .int .i64 (k : Int))]) (fun ⟨k, h131⟩ w' => Le h47 h131 ∧ St h w h131 w' [[]] ∧ (k ≤ q.heads.length)) (fun ⟨k, h131⟩ => q.heads.length - k) ⟨0, h47⟩ ⟨(zx (by rw [questK_zero])), rfl, trivial⟩ ⟨Le.refl _, st49, zaW⟩ ?_
  rintro ⟨k, h131⟩ _ w134 ⟨le132, st133, hk⟩
  refine W.sr<|zaX X X X<|Y<|zj ?_
  refine zC rfl (fun c135 => ?_) (fun c135 => ?_)
  ·
   refine zy<|O<|zj<|zG<|W.sr<|zh X X ?_
   obtain ⟨hd, hhd⟩ : ∃ y_, (q.heads)[k]? = some y_ := t_ge (by omega)
   have l140 := ((le36.trans le44).trans le48).trans le132
   obtain ⟨b136, o137, _, he139, hc138, hr_hd⟩ := Sl.elem (f29.up l140) hhd
   obtain ⟨rfl, ls141, lu142⟩ := hr_hd
   simp only [big] at ls141
   refine zU he139 X X (hk := X) (hu := zaZ) (hz := zai) X<|zr st133.sub hc138 X zbQ zai X X<|zQ st133 zeN X X<|fun b143 w144 st145=>zq X X<|zI st145 (k := 1) X X X (za X (za X zan)) zai X X X<|fun w146 st147=> ?_
   obtain ⟨h148, le149, hb150, st152⟩ := st147.freeze (k := 1) rfl
   have hc151 := Cells.of hb150
   refine Y ?_
   refine W.join ([8] ++ t_rg 82 20) (G := Heap) (fun h153 => [(8, .bool (zfG p i q (k + 1)))]) (fun h153 w' => Le h148 h153 ∧ St h w h153 w' [[], []]) ?_ ?_
   ·
    refine zbX Tryz.mixed t_kr (Cls h148 _) (Cls.drew st152)<|zhr X X<|zhr X X ?_
    refine zgc (d := 83) rfl (fun g157 => ?_) (fun g157 => ?_)
    ·
     refine zD X X X<|zH X X (fun _ hC => (zat hC.sub hc151 X zbQ zai X))<|zD X X X<|zcW X X (fun _ => zaV X Tryz.call98 X) (fun _ hC => Rets.quiet hC (c_vote_head hC.sub (hd := hd) zbr t_u8))<|zfP (v := (.bool _)) X X X<|zhr X X ?_
     refine zgc (d := 87) rfl (fun g158 => ?_) (fun g158 => ?_)
     ·
      refine zD X X X<|zde X X<|zD X X X<|u_eql X X X<|zD X X X<|zhr X X ?_
      refine ziq (d := 90) rfl (fun g159 => ?_) (fun g159 => ?_)
      ·
       refine zL X X X X X<|zL X X X X X<|zL X X X X X<|zL X X X X X<|zL X X X X X<|zL X X X X X<|zL X X X X X<|zL X X X X X<|zL X X X X X<|zD X X X<|zfP (v := (.bool _)) X X X<|zfP (v := (.bool _)) X X X<|u_asB X X<|zbC ?_
       rintro w160 ⟨h161, s162⟩
       have st163 := st152.call0 s162
       refine ⟨rfl, h161, ⟨?_, trivial⟩, ?_, s162.le, st163⟩
       ·exact zx (by rw [zii]; first | exact q_step0 g157 g158 g159 hhd | exact q_step1 g157 g158 g159 hhd hh1 | exact q_step2 g159 hhd | exact q_step3 g159)
       exact zau
      refine zD X X X<|zZ X zaF X zch X X<|zD X X X<|have l164:=((le44.trans le48).trans le132).trans le149;zH X X (fun _ hC => (zf (j := 3) hC.sub (hc38.up l164) X X X zcy))<|zD X X X<|zde X X<|zD X X X<|u_sub X X t_om X<|zD X X X ?_
      obtain ⟨h1, hh1⟩ : ∃ y_, (q.heads)[(k - 1)]? = some y_ := t_ge (by omega)
      obtain ⟨b165, o166, _, he168, hc167, hr_h1⟩ := Sl.elem (f29.up (l140.trans le149)) hh1
      obtain ⟨rfl, ls169, lu170⟩ := hr_h1
      simp only [big] at ls169
      refine zH rfl rfl (fun _ _ => (zav he168 rfl rfl (hk := (show _ = (((k - 1) : Nat) : Int) by omega)) (hu := zaZ) (hz := zai))) ?_
      refine zD X X X<|zH X X (fun _ hC => (zat hC.sub hc167 X zbQ zai X))<|zD X X X<|zH X X (fun _ hC => (zat hC.sub hc151 X zbQ zai X))<|zD X X X<|zcW X X (fun _ => zaV X Tryz.call99 X) (fun _ hC => Rets.quiet hC (c_vote_heads hC.sub (a := h1) zbr t_u8 (b := hd) zbr t_u8))<|zD X X X<|u_lss X X X<|zD X X X<|zef (v := (.bool _)) X X X<|zfP (v := (.bool _)) X X X<|u_asB X X<|zbC ?_
      rintro w171 ⟨h172, s173⟩
      have st174 := st152.call0 s173
      refine ⟨rfl, h172, ⟨?_, trivial⟩, ?_, s173.le, st174⟩
      ·exact zx (by rw [zii]; first | exact q_step0 g157 g158 g159 hhd | exact q_step1 g157 g158 g159 hhd hh1 | exact q_step2 g159 hhd | exact q_step3 g159)
      exact zau
     refine zL X X X X X<|zL X X X X X<|zL X X X X X<|zap X X X X<|zap X X X X<|zap X X X X<|zap X X X X<|zap X X X X<|zap X X X X<|zap X X X X<|zap X X X X<|zap X X X X<|zL X X X X X<|zef (v := (.bool _)) X X X<|u_asB X X<|zbC ?_
     rintro w175 ⟨h176, s177⟩
     have st178 := st152.call0 s177
     refine ⟨rfl, h176, ⟨?_, trivial⟩, ?_, s177.le, st178⟩
     ·exact zx (by rw [zii]; first | exact q_step0 g15 g157 g158 hhd | exact q_step1 g15 g157 g158 hhd hh1 | exact q_step2 g158 hhd | exact q_step3 g158)
     exact zau
    refine zL X X X X X<|zL X X X X X<|zef (v := (.bool _)) X X X<|zhr X X<|zL X X X X X<|zL X X X X X<|zL X X X X X<|zap X X X X<|zap X X X X<|zap X X X X<|zap X X X X<|zap X X X X<|zap X X X X<|zap X X X X<|zap X X X X<|zap X X X X<|zL X X X X X<|zef (v := (.bool _)) X X X<|u_asB X X<|zbC ?_
    rintro w179 ⟨h180, s181⟩
    have st182 := st152.call0 s181
    refine ⟨rfl, h180, ⟨?_, trivial⟩, ?_, s181.le, st182⟩
    ·exact zx (by rw [zii]; first | exact q_step0 %g3 g15 g157 hhd | exact q_step1 %g3 g15 g157 hhd hh1 | exact q_step2 g157 hhd | exact q_step3 g157)
    exact zau
   rintro h153 _ w156 ⟨le154, st155⟩
   refine zO<|O<|zn<|zaM X X t_om X<|zh X X<|Y ?_
   refine ⟨⟨k + 1, h153⟩, ⟨rfl, rfl, trivial⟩, ?_, ⟨((le132.trans le149).trans le154), st155.take 1, ?_⟩, ?_⟩
   ·exact zau
   ·first | omega | (simp; omega)
   show q.heads.length - ((k + 1)) < q.heads.length - k
   omega
  refine zaI<|zm<|zm<|zam<|O<|W.sr<|zS X X<|zbl X X<|Y ?_
  refine zae rfl (fun c183 => ?_) (fun c183 => ?_)
  ·
   refine W.sr<|zq X X<|Y<|zw<|zK<|zd<|zd<|zK<|zd<|zb zdR ?_
   refine ⟨h131, _, rfl, st133.done, ?_⟩
   refine zah ?_
   (refine (zgi hz (poll_q (i := i) ?_)).symm; rw [quest_eq hq (show q.heads.length = k by omega)]; simpa using c183)
  refine zy<|zO<|O<|zn<|zaM X X t_om X<|zh X X<|Y ?_
  have l184 := (((le19.trans le36).trans le44).trans le48).trans le132
  refine ⟨⟨i + 1, h131⟩, ⟨rfl, trivial⟩, ?_, ⟨l184, st133.take 0, ?_, ?_⟩, ?_⟩
  ·exact zau
  ·first | omega | (simp; omega)
  ·exact zdf hA (by rw [quest_eq hq (show q.heads.length = k by omega)]; simpa using c183)
  show p.questions.length - ((i + 1)) < p.questions.length - i
  omega
 refine zaI<|zm<|zm<|zam<|O<|zj<|W.sr<|E X zt X zaL X X<|U (j := 4) st20.sub (hc5.up (le10.trans le19)) X X X zbj X<|have l185:=l14.trans le19;zaH (p_f4.up l185) X zaa X<|zh X X<|Y<|zG ?_
 refine zax ([2, 11, 13] ++ t_rg 109 15) (G := Nat × Heap) (fun ⟨j, h186⟩ => [(109, .int .i64 (j : Int))]) (fun ⟨j, h186⟩ w' => Le h18 h186 ∧ St h w h186 w' [] ∧ (j ≤ p.voters.length) ∧ (∀ i, i < j → zdM p i = true)) (fun ⟨j, h186⟩ => p.voters.length - j) ⟨0, h18⟩ ⟨rfl, trivial⟩ ⟨Le.refl _, st20, zaW, zaW⟩ ?_
 rintro ⟨j, h186⟩ _ w189 ⟨le187, st188, hj, hV⟩
 refine W.sr<|zaX X X X<|Y<|zj ?_
 refine zC rfl (fun c190 => ?_) (fun c190 => ?_)
 ·
  refine zy<|O<|zj<|zG<|zj ?_
  obtain ⟨v, hv⟩ : ∃ y, (p.voters)[j]? = some y := ⟨_, List.getElem?_eq_getElem (by omega)⟩
  refine zn<|zh X X<|zq X X<|Y<|W.sr<|have l191:=l185.trans le187;zr st188.sub (K0.up l191) X Tryz.isAgg163 Tryz.sizeOf163 X X<|zh X X<|Y<|zG ?_
  refine zax ([2, 13] ++ t_rg 113 10) (G := Nat × Heap) (fun ⟨k, h192⟩ => [(113, .int .i64 (k : Int))]) (fun ⟨k, h192⟩ w' => Le h186 h192 ∧ St h w h192 w' [] ∧ (k ≤ 5) ∧ (∀ m, m < k → zcg p v j m = true)) (fun ⟨k, h192⟩ => 5 - k) ⟨0, h186⟩ ⟨rfl, trivial⟩ ⟨Le.refl _, st188, zaW, zaW⟩ ?_
  rintro ⟨k, h192⟩ _ w195 ⟨le193, st194, hk5, hK⟩
  refine W.sr<|zaX X X X<|Y<|zj ?_
  refine zC rfl (fun c196 => ?_) (fun c196 => ?_)
  ·
   refine zy<|O<|zj<|zG<|zj ?_
   rcases (show (k : Int) = 0 ∨ (k : Int) = 1 ∨ (k : Int) = 2 ∨ (k : Int) = 3 ∨ (k : Int) = 4 by omega) with hk197 | hk197 | hk197 | hk197 | hk197
   ·
    refine zn ?_
    refine zi rfl rfl (zgq (us := [.func (.func 261) #[] #[]]) rfl rfl (show _ = ((0 : Nat) : Int) by rw [hk197]; rfl) rfl zed Tryz.isAgg162 zdQ rfl) ?_
    refine zQ st194 Tryz.zeroValue162 X X<|fun b198 w199 st200=>zI st200 (k := 0) X X X (za X zan) zdQ X X X<|fun w201 st202=> ?_
    obtain ⟨h203, le204, hb205, st207⟩ := st202.freeze (k := 0) rfl
    have hc206 := Cells.of hb205
    refine Y<|W.sr<|E X zcS X Tryz.sizeOf160 X X<|U (j := 0) st207.sub hc206 X X X Tryz.isAgg160 X<|have l208:=(((le10.trans le19).trans le187).trans le193).trans le204;zr st207.sub (hc5.up l208) X zaE zad X X<|zh X X ?_
    have l209 := (l191.trans le193).trans le204
    refine zcQ (fs := []) (cs := []) st207 rfl rfl rfl rfl Tryz.call261 rfl (c_vote_asked_1 st207.sub (p := p) (p_f0.up l209) (p_f1.up l209) (p_f2.up l209) (p_f3.up l209) (p_f4.up l209) _ (by omega)) ?_
    intro r210 w211 h212 le213 st214 q215
    obtain rfl := q215
    refine zbl X X<|Y ?_
    refine zae rfl (fun c216 => ?_) (fun c216 => ?_)
    ·
     refine W.sr<|zq X X<|Y<|zw<|zK<|zd<|zd<|zK<|zK<|zd<|zd<|zK<|zd<|zb zdR ?_
     refine ⟨h212, _, rfl, st214.done, ?_⟩
     refine zah ?_
     (refine (zgi hz (ask_no (k := k) hv (by have q_ := c216; rw [Int.toNat_natCast, hv] at q_; first | (obtain rfl : k = 0 := (by omega); simpa [zcg, inAll_one] using q_) | (obtain rfl : k = 1 := (by omega); simpa [zcg, inAll_one] using q_) | (obtain rfl : k = 2 := (by omega); simpa [zcg, inAll_one] using q_) | (obtain rfl : k = 3 := (by omega); simpa [zcg, inAll_one] using q_) | (obtain rfl : k = 4 := (by omega); simpa [zcg, inAll_one] using q_)))).symm)
    refine zy<|zO<|O<|zn<|zaM X X t_om X<|zh X X<|Y ?_
    refine ⟨⟨k + 1, h212⟩, ⟨rfl, trivial⟩, ?_, ⟨((le193.trans le204).trans le213), st214.take 0, ?_, ?_⟩, ?_⟩
    ·exact zau
    ·first | omega | (simp; omega)
    ·exact zdf hK (by have q_ := c216; rw [Int.toNat_natCast, hv] at q_; first | (obtain rfl : k = 0 := (by omega); simpa [zcg, inAll_one] using q_) | (obtain rfl : k = 1 := (by omega); simpa [zcg, inAll_one] using q_) | (obtain rfl : k = 2 := (by omega); simpa [zcg, inAll_one] using q_) | (obtain rfl : k = 3 := (by omega); simpa [zcg, inAll_one] using q_) | (obtain rfl : k = 4 := (by omega); simpa [zcg, inAll_one] using q_))
    show 5 - ((k + 1)) < 5 - k
    omega
   ·
    refine zn ?_
    refine zi rfl rfl (zgq (us := [.func (.func 262) #[] #[]]) rfl rfl (show _ = ((1 : Nat) : Int) by rw [hk197]; rfl) rfl zed Tryz.isAgg162 zdQ rfl) ?_
    refine zQ st194 Tryz.zeroValue162 X X<|fun b217 w218 st219=>zI st219 (k := 0) X X X (za X zan) zdQ X X X<|fun w220 st221=> ?_
    obtain ⟨h222, le223, hb224, st226⟩ := st221.freeze (k := 0) rfl
    have hc225 := Cells.of hb224
    refine Y<|W.sr<|E X zcS X Tryz.sizeOf160 X X<|U (j := 0) st226.sub hc225 X X X Tryz.isAgg160 X<|have l227:=(((le10.trans le19).trans le187).trans le193).trans le223;zr st226.sub (hc5.up l227) X zaE zad X X<|zh X X ?_
    have l228 := (l191.trans le193).trans le223
    refine zcQ (fs := []) (cs := []) st226 rfl rfl rfl rfl Tryz.call262 rfl (c_vote_asked_2 st226.sub (p := p) (p_f0.up l228) (p_f1.up l228) (p_f2.up l228) (p_f3.up l228) (p_f4.up l228) _ (by omega)) ?_
    intro r229 w230 h231 le232 st233 q234
    obtain rfl := q234
    refine zbl X X<|Y ?_
    refine zae rfl (fun c235 => ?_) (fun c235 => ?_)
    ·
     refine W.sr<|zq X X<|Y<|zw<|zK<|zd<|zd<|zK<|zK<|zd<|zd<|zK<|zd<|zb zdR ?_
     refine ⟨h231, _, rfl, st233.done, ?_⟩
     refine zah ?_
     (refine (zgi hz (ask_no (k := k) hv (by have q_ := c235; rw [Int.toNat_natCast, hv] at q_; first | (obtain rfl : k = 0 := (by omega); simpa [zcg, inAll_one] using q_) | (obtain rfl : k = 1 := (by omega); simpa [zcg, inAll_one] using q_) | (obtain rfl : k = 2 := (by omega); simpa [zcg, inAll_one] using q_) | (obtain rfl : k = 3 := (by omega); simpa [zcg, inAll_one] using q_) | (obtain rfl : k = 4 := (by omega); simpa [zcg, inAll_one] using q_)))).symm)
    refine zy<|zO<|O<|zn<|zaM X X t_om X<|zh X X<|Y ?_
    refine ⟨⟨k + 1, h231⟩, ⟨rfl, trivial⟩, ?_, ⟨((le193.trans le223).trans le232), st233.take 0, ?_, ?_⟩, ?_⟩
    ·exact zau
    ·first | omega | (simp; omega)
    ·exact zdf hK (by have q_ := c235; rw [Int.toNat_natCast, hv] at q_; first | (obtain rfl : k = 0 := (by omega); simpa [zcg, inAll_one] using q_) | (obtain rfl : k = 1 := (by omega); simpa [zcg, inAll_one] using q_) | (obtain rfl : k = 2 := (by omega); simpa [zcg, inAll_one] using q_) | (obtain rfl : k = 3 := (by omega); simpa [zcg, inAll_one] using q_) | (obtain rfl : k = 4 := (by omega); simpa [zcg, inAll_one] using q_))
    show 5 - ((k + 1)) < 5 - k
    omega
   ·
    refine zn ?_
    refine zi rfl rfl (zgq (us := [.func (.func 263) #[] #[]]) rfl rfl (show _ = ((2 : Nat) : Int) by rw [hk197]; rfl) rfl zed Tryz.isAgg162 zdQ rfl) ?_
    refine zQ st194 Tryz.zeroValue162 X X<|fun b236 w237 st238=>zI st238 (k := 0) X X X (za X zan) zdQ X X X<|fun w239 st240=> ?_
    obtain ⟨h241, le242, hb243, st245⟩ := st240.freeze (k := 0) rfl
    have hc244 := Cells.of hb243
    refine Y<|W.sr<|E X zcS X Tryz.sizeOf160 X X<|U (j := 0) st245.sub hc244 X X X Tryz.isAgg160 X<|have l246:=(((le10.trans le19).trans le187).trans le193).trans le242;zr st245.sub (hc5.up l246) X zaE zad X X<|zh X X ?_
    have l247 := (l191.trans le193).trans le242
    refine zcQ (fs := []) (cs := []) st245 rfl rfl rfl rfl Tryz.call263 rfl (c_vote_asked_3 st245.sub (p := p) (p_f0.up l247) (p_f1.up l247) (p_f2.up l247) (p_f3.up l247) (p_f4.up l247) _ (by omega)) ?_
    intro r248 w249 h250 le251 st252 q253
    obtain rfl := q253
    refine zbl X X<|Y ?_
    refine zae rfl (fun c254 => ?_) (fun c254 => ?_)
    ·
     refine W.sr<|zq X X<|Y<|zw<|zK<|zd<|zd<|zK<|zK<|zd<|zd<|zK<|zd<|zb zdR ?_
     refine ⟨h250, _, rfl, st252.done, ?_⟩
     refine zah ?_
     (refine (zgi hz (ask_no (k := k) hv (by have q_ := c254; rw [Int.toNat_natCast, hv] at q_; first | (obtain rfl : k = 0 := (by omega); simpa [zcg, inAll_one] using q_) | (obtain rfl : k = 1 := (by omega); simpa [zcg, inAll_one] using q_) | (obtain rfl : k = 2 := (by omega); simpa [zcg, inAll_one] using q_) | (obtain rfl : k = 3 := (by omega); simpa [zcg, inAll_one] using q_) | (obtain rfl : k = 4 := (by omega); simpa [zcg, inAll_one] using q_)))).symm)
    refine zy<|zO<|O<|zn<|zaM X X t_om X<|zh X X<|Y ?_
    refine ⟨⟨k + 1, h250⟩, ⟨rfl, trivial⟩, ?_, ⟨((le193.trans le242).trans le251), st252.take 0, ?_, ?_⟩, ?_⟩
    ·exact zau
    ·first | omega | (simp; omega)
    ·exact zdf hK (by have q_ := c254; rw [Int.toNat_natCast, hv] at q_; first | (obtain rfl : k = 0 := (by omega); simpa [zcg, inAll_one] using q_) | (obtain rfl : k = 1 := (by omega); simpa [zcg, inAll_one] using q_) | (obtain rfl : k = 2 := (by omega); simpa [zcg, inAll_one] using q_) | (obtain rfl : k = 3 := (by omega); simpa [zcg, inAll_one] using q_) | (obtain rfl : k = 4 := (by omega); simpa [zcg, inAll_one] using q_))
    show 5 - ((k + 1)) < 5 - k
    omega
   ·
    refine zn ?_
    refine zi rfl rfl (zgq (us := [.func (.func 264) #[] #[]]) rfl rfl (show _ = ((3 : Nat) : Int) by rw [hk197]; rfl) rfl zed Tryz.isAgg162 zdQ rfl) ?_
    refine zQ st194 Tryz.zeroValue162 X X<|fun b255 w256 st257=>zI st257 (k := 0) X X X (za X zan) zdQ X X X<|fun w258 st259=> ?_
    obtain ⟨h260, le261, hb262, st264⟩ := st259.freeze (k := 0) rfl
    have hc263 := Cells.of hb262
    refine Y<|W.sr<|E X zcS X Tryz.sizeOf160 X X<|U (j := 0) st264.sub hc263 X X X Tryz.isAgg160 X<|have l265:=(((le10.trans le19).trans le187).trans le193).trans le261;zr st264.sub (hc5.up l265) X zaE zad X X<|zh X X ?_
    have l266 := (l191.trans le193).trans le261
    refine zcQ (fs := []) (cs := []) st264 rfl rfl rfl rfl Tryz.call264 rfl (c_vote_asked_4 st264.sub (p := p) (p_f0.up l266) (p_f1.up l266) (p_f2.up l266) (p_f3.up l266) (p_f4.up l266) _ (by omega) (by intro u hu_; exact asked_len hv (hK 2 (by omega)))) ?_
    intro r267 w268 h269 le270 st271 q272
    obtain rfl := q272
    refine zbl X X<|Y ?_
    refine zae rfl (fun c273 => ?_) (fun c273 => ?_)
    ·
     refine W.sr<|zq X X<|Y<|zw<|zK<|zd<|zd<|zK<|zK<|zd<|zd<|zK<|zd<|zb zdR ?_
     refine ⟨h269, _, rfl, st271.done, ?_⟩
     refine zah ?_
     (refine (zgi hz (ask_no (k := k) hv (by have q_ := c273; rw [Int.toNat_natCast, hv] at q_; first | (obtain rfl : k = 0 := (by omega); simpa [zcg, inAll_one] using q_) | (obtain rfl : k = 1 := (by omega); simpa [zcg, inAll_one] using q_) | (obtain rfl : k = 2 := (by omega); simpa [zcg, inAll_one] using q_) | (obtain rfl : k = 3 := (by omega); simpa [zcg, inAll_one] using q_) | (obtain rfl : k = 4 := (by omega); simpa [zcg, inAll_one] using q_)))).symm)
    refine zy<|zO<|O<|zn<|zaM X X t_om X<|zh X X<|Y ?_
    refine ⟨⟨k + 1, h269⟩, ⟨rfl, trivial⟩, ?_, ⟨((le193.trans le261).trans le270), st271.take 0, ?_, ?_⟩, ?_⟩
    ·exact zau
    ·first | omega | (simp; omega)
    ·exact zdf hK (by have q_ := c273; rw [Int.toNat_natCast, hv] at q_; first | (obtain rfl : k = 0 := (by omega); simpa [zcg, inAll_one] using q_) | (obtain rfl : k = 1 := (by omega); simpa [zcg, inAll_one] using q_) | (obtain rfl : k = 2 := (by omega); simpa [zcg, inAll_one] using q_) | (obtain rfl : k = 3 := (by omega); simpa [zcg, inAll_one] using q_) | (obtain rfl : k = 4 := (by omega); simpa [zcg, inAll_one] using q_))
    show 5 - ((k + 1)) < 5 - k
    omega
   refine zn ?_
   refine zi rfl rfl (zgq (us := [.func (.func 265) #[] #[]]) rfl rfl (show _ = ((4 : Nat) : Int) by rw [hk197]; rfl) rfl zed Tryz.isAgg162 zdQ rfl) ?_
   refine zQ st194 Tryz.zeroValue162 X X<|fun b274 w275 st276=>zI st276 (k := 0) X X X (za X zan) zdQ X X X<|fun w277 st278=> ?_
   obtain ⟨h279, le280, hb281, st283⟩ := st278.freeze (k := 0) rfl
   have hc282 := Cells.of hb281
   refine Y<|W.sr<|E X zcS X Tryz.sizeOf160 X X<|U (j := 0) st283.sub hc282 X X X Tryz.isAgg160 X<|have l284:=(((le10.trans le19).trans le187).trans le193).trans le280;zr st283.sub (hc5.up l284) X zaE zad X X<|zh X X ?_
   have l285 := (l191.trans le193).trans le280
   refine zcQ (fs := []) (cs := []) st283 rfl rfl rfl rfl Tryz.call265 rfl (c_vote_asked_5 st283.sub (p := p) (p_f0.up l285) (p_f1.up l285) (p_f2.up l285) (p_f3.up l285) (p_f4.up l285) _ (by omega)) ?_
   intro r286 w287 h288 le289 st290 q291
   obtain rfl := q291
   refine zbl X X<|Y ?_
   refine zae rfl (fun c292 => ?_) (fun c292 => ?_)
   ·
    refine W.sr<|zq X X<|Y<|zw<|zK<|zd<|zd<|zK<|zK<|zd<|zd<|zK<|zd<|zb zdR ?_
    refine ⟨h288, _, rfl, st290.done, ?_⟩
    refine zah ?_
    (refine (zgi hz (ask_no (k := k) hv (by have q_ := c292; rw [Int.toNat_natCast, hv] at q_; first | (obtain rfl : k = 0 := (by omega); simpa [zcg, inAll_one] using q_) | (obtain rfl : k = 1 := (by omega); simpa [zcg, inAll_one] using q_) | (obtain rfl : k = 2 := (by omega); simpa [zcg, inAll_one] using q_) | (obtain rfl : k = 3 := (by omega); simpa [zcg, inAll_one] using q_) | (obtain rfl : k = 4 := (by omega); simpa [zcg, inAll_one] using q_)))).symm)
   refine zy<|zO<|O<|zn<|zaM X X t_om X<|zh X X<|Y ?_
   refine ⟨⟨k + 1, h288⟩, ⟨rfl, trivial⟩, ?_, ⟨((le193.trans le280).trans le289), st290.take 0, ?_, ?_⟩, ?_⟩
   ·exact zau
   ·first | omega | (simp; omega)
   ·exact zdf hK (by have q_ := c292; rw [Int.toNat_natCast, hv] at q_; first | (obtain rfl : k = 0 := (by omega); simpa [zcg, inAll_one] using q_) | (obtain rfl : k = 1 := (by omega); simpa [zcg, inAll_one] using q_) | (obtain rfl : k = 2 := (by omega); simpa [zcg, inAll_one] using q_) | (obtain rfl : k = 3 := (by omega); simpa [zcg, inAll_one] using q_) | (obtain rfl : k = 4 := (by omega); simpa [zcg, inAll_one] using q_))
   show 5 - ((k + 1)) < 5 - k
   omega
  refine zaI<|zm<|zm<|zam<|zO<|O<|zn<|zaM X X t_om X<|zh X X<|Y ?_
  refine ⟨⟨j + 1, h192⟩, ⟨rfl, trivial⟩, ?_, ⟨(le187.trans le193), st194, ?_, ?_⟩, ?_⟩
  ·exact zau
  ·first | omega | (simp; omega)
  ·exact zdf hV (ask_all hv hK (by omega))
  show p.voters.length - ((j + 1)) < p.voters.length - j
  omega
 refine zaI<|zm<|zm<|zam<|O<|W.sr<|zq X X<|Y<|zw<|zb zdR ?_
 refine ⟨h186, _, rfl, st188.done, ?_⟩
 refine zah ?_
 (refine (check_yes hz (poll_true ?_ ?_ hA ?_ hV ?_)).symm <;> omega)
end Go.Pk

namespace Go.Pk
open Go Go.RowKit Go.Proofs
theorem zet {h : Heap} {w : World} (hs : Sub h w) {s_v : Value} {s : (List Int)} (s_f : Sl LInt h s_v s) (hl : s.length * 8 ≤ 140737488355328) : Calls Tryz.prog 109 #[s_v] w (fun e_ w' => ∃ h' res_ o_, e_ = .returned res_ ∧ Le h h' ∧ St h w h' w' [o_] ∧ OSl LInt 3 h' res_ (s) o_) := by
 refine zP (n := 8) Tryz.func109 X X X<|have st0:=t_s0 hs;have s_f_b:=s_f.le;W.sr<|zcM X X<|Y<|zj<|W.sr<|zR (v := s_v) X X ?_
 obtain ⟨nb1, hn2, hn2_r⟩ := Sl.nilb (P := Tryz.prog) s_f
 refine zi X X (hn2_r zg X X)<|Y ?_
 refine zae rfl (fun c3 => ?_) (fun c3 => ?_)
 ·
  refine W.sr<|zcM X X<|Y<|zw<|zd<|zb Tryz.results109 ?_
  have st4 := st0.snoc
  have f5 := OSl.nil LInt 3 h
  refine ⟨h, _, _, rfl, Le.refl _, st4, OSl.to f5 ?_⟩
  simp_all
 refine zy<|O<|W.sr<|zhm (L := LInt) st0 X ⟨_, zl⟩ zg<|fun v6 o7 w8 f9 st10=>zR (v := s_v) X X ?_
 refine zbB (k := 0) (nb := 8) st10 f9 rfl s_f rfl rfl rfl zg Tryz.info3 rfl rfl rfl (by decide) rfl t_om t_om ?_
 intro v11 o12 w13 _ e14 f15 st16
 subst e14
 refine zaf (v := v11) X X<|Y<|zw<|zb Tryz.results109 ?_
 refine ⟨h, _, _, rfl, Le.refl _, st16, OSl.to f15 ?_⟩
 simp
set_option maxHeartbeats 4000000 in
theorem ziM : ∀ (n_ : Nat) {h0 h : Heap} {w0 w : World} {rest : Own} {now_v : Value} {now : (List Int)} (now_f : Sl LInt h now_v now) {left_v : Value} {left : (List Int)} (left_f : Sl LInt h left_v left) {p_b : Nat} {p : Poll} {p_v0 : Value} (p_f0 : Sl LChapter h p_v0 p.text.chapters) {p_v1 : Value} (p_f1 : Sl LRule h p_v1 p.lexicon.rules) {p_v2 : Value} (p_f2 : Sl LDecision h p_v2 p.lexicon.decisions) {p_v3 : Value} (p_f3 : Sl LQuestion h p_v3 p.questions) {p_v4 : Value} (p_f4 : Sl LVoter h p_v4 p.voters) (p_c : Cells h p_b 0 [p_v0, p_v1, p_v2, p_v3, p_v4]) {l : Nat} {y_b : Nat} (y_c : Cells h y_b 0 [.func (.yield l) #[] #[]]) {m_b : Nat} (m_c : Cells h m_b 0 [(.func (.func 128) #[] #[.pointer (some ⟨p_b, 0, none⟩), .pointer (some ⟨y_b, 0, none⟩), .pointer (some ⟨m_b, 0, none⟩)])]) {J Jx : List (List Int) → Heap → Own → Prop} (hJm : ∀ xs h1 h2 o, J xs h1 o → Le h1 h2 → J xs h2 o) (hJxm : ∀ xs h1 h2 o, Jx xs h1 o → Le h1 h2 → Jx xs h2 o) {done : List (List Int)} (hJ0 : J done h rest) (hY : ∀ pre x h1 w1 B rest us, Le h h1 → J pre h1 rest → St h0 w0 h1 w1 (B ++ rest) → (∃ u_, us = [u_] ∧ Sl LInt h1 u_ x ∧ (zM p)[pre.length]? = some x) → Yields Tryz.prog l us.toArray w1 fun v w2 => ∃ h2 rest2, Le h1 h2 ∧ St h0 w0 h2 w2 (B ++ rest2) ∧ ((v = .bool true ∧ J (pre ++ [x]) h2 rest2) ∨ (v = .bool false ∧ Jx (pre ++ [x]) h2 rest2))) (hp : zcJ p = true) (hn : NowOk p now) (hw : OnWay p done now) (hm : p.questions.length ≤ now.length + n_) (hl : left = leftL p now) (st0 : St h0 w0 h w rest), Calls Tryz.prog 128 #[now_v, left_v, .pointer (some ⟨p_b, 0, none⟩), .pointer (some ⟨y_b, 0, none⟩), .pointer (some ⟨m_b, 0, none⟩)] w (fun e_ w' => ∃ h' rest' b_, e_ = .returned (.bool b_) ∧ Le h h' ∧ St h0 w0 h' w' rest' ∧ (b_ = true → J (done ++ zco p now) h' rest') ∧ (b_ = false → ∃ pre, Jx pre h' rest')) := by
 intro n_
 induction n_ using Nat.strongRecOn with
 | _ n_ ih_ =>
 intro h0 h w0 w rest now_v now now_f left_v left left_f p_b p p_v0 p_f0 p_v1 p_f1 p_v2 p_f2 p_v3 p_f3 p_v4 p_f4 p_c l y_b y_c m_b m_c J Jx hJm hJxm done hJ0 hY hp hn hw hm hl st0
 refine zP (n := 83) Tryz.func128 X X X<|have now_f_b:=now_f.le;have left_f_b:=left_f.le;have p_f0_b:=p_f0.le;have p_f1_b:=p_f1.le;have p_f2_b:=p_f2.le;have p_f3_b:=p_f3.le;have p_f4_b:=p_f4.le;have st1:=St.start st0.sub;have hnl:=hn.len;W.sr<|zF X X<|Y<|W.scope<|W.sr<|zR (v := now_v) X X<|zaH now_f X zg X<|zq X X<|Y<|zj<|W.sr<|zh X X<|E X zeL X zad X X<|E X zt X zbe X X<|U (j := 3) st1.sub p_c X X X zby X ?_
 refine zaH p_f3 X zaq X<|zdd X X X<|Y ?_
 refine zC rfl (fun c2 => ?_) (fun c2 => ?_)
 ·
  refine W.sr<|U (j := 0) st1.sub y_c X X X Tryz.isAgg111 X<|zR (v := now_v) X X ?_
  have st11 := st0.over st1
  have hlq : now.length = p.questions.length := by omega
  have hone := truths_one hn hlq
  have hJc := hJm _ _ _ _ hJ0 (Le.refl _)
  have hAc : ∃ u_, [now_v] = [u_] ∧ Sl LInt h u_ now ∧ (zM p)[done.length]? = some now := ⟨_, rfl, now_f.up (Le.refl _), onway_at hw hone⟩
  refine zeH rfl rfl rfl rfl rfl (hY _ _ _ _ [] rest _ (Le.refl _) hJc st11 hAc) ?_
  intro yb3 w4 h5 rest6 le7 st8 hj9 hx10
  refine zF X X<|Y<|zw<|zd<|zev<|zb Tryz.results128 ?_
  exact ⟨_, _, _, rfl, le7, st8, fun e_ => by rw [hone]; exact hj9 e_, fun e_ => ⟨_, hx10 e_⟩⟩
 refine zy<|O<|zj<|W.label<|O<|zj<|W.sr<|E X zeL X zad X X<|E X zt X zbe X X<|U (j := 3) st1.sub p_c X X X zby X<|zh X X ?_
 obtain ⟨q, hq⟩ : ∃ y_, (p.questions)[now.length]? = some y_ := t_ge (by omega)
 obtain ⟨b12, o13, _, he15, hc14, hr_q⟩ := Sl.elem p_f3 hq
 obtain ⟨v16, rfl, f17⟩ := hr_q
 have f17_b := f17.le
 refine zi rfl rfl (zav he15 rfl rfl (hk := (show _ = ((now.length : Nat) : Int) by rfl)) (hu := zaq) (hz := zbR)) ?_
 refine E X zaF X zch X X<|U (j := 3) st1.sub hc14 X X X zcy X<|zaH f17 X zaZ X<|zh X X<|Y<|zG ?_
 have st18 := st0.over st1
 refine zax ([7, 9, 10, 11, 12] ++ t_rg 32 51) (G := Nat × Own × Heap) (fun ⟨hh, rest, h19⟩ => [(32, .int .i64 (hh : Int))]) (fun ⟨hh, rest, h19⟩ w' => Le h h19 ∧ St h0 w0 h19 w' (rest) ∧ (hh ≤ q.heads.length) ∧ (J (done ++ zgT p now hh) h19 rest)) (fun ⟨hh, rest, h19⟩ => q.heads.length - hh) ⟨0, rest, h⟩ ⟨rfl, trivial⟩ ⟨Le.refl _, st18, zaW, (by simpa [zgT] using hJm _ _ _ _ hJ0 (Le.refl _))⟩ ?_
 rintro ⟨hh, rest, h19⟩ _ w22 ⟨le20, st21, hhl, hJ⟩
 have st23 := St.start st21.sub
 refine W.sr<|zaX X X X<|Y<|zj ?_
 refine zC rfl (fun c24 => ?_) (fun c24 => ?_)
 ·
  refine zy<|O<|zj<|zG<|W.sr<|zh X X<|zq X X<|Y<|W.sr<|zR (v := left_v) X X ?_
  refine zay rfl rfl (zaV rfl Tryz.call109 rfl) ((zet st23.sub (left_f.up le20) (by have q_ := zcO hp; rw [hl, ziJ]; omega)).mono ?_)
  rintro _ w26 ⟨h27, v25, o30, rfl, le28, s32, f31⟩
  refine ⟨_, rfl, ?_⟩
  have st29 := st23.call s32
  refine zaf (v := v25) X X<|Y<|zj<|W.sr<|E X zeL X zad X X<|E X zt X zaL X X<|have l33:=le20.trans le28;U (j := 4) st29.sub (p_c.up l33) X X X zbj X<|zaH (p_f4.up l33) X zaa X<|zh X X<|Y<|zG ?_
  refine zax ([11, 12] ++ t_rg 41 32) (G := Nat × List (Nat × Obj) × Heap) (fun ⟨i, o_10, h34⟩ => [(41, .int .i64 (i : Int))]) (fun ⟨i, o_10, h34⟩ w' => Le h27 h34 ∧ St h19 w22 h34 w' [o_10] ∧ (OSl LInt 3 h34 v25 ((zgg p now (hh : Int) i)) o_10) ∧ (i ≤ p.voters.length) ∧ (∀ v ∈ p.voters.take i, (zcF v (now ++ [(hh : Int)]) : Int) ≤ v.wrong)) (fun ⟨i, o_10, h34⟩ => p.voters.length - i) ⟨0, o30, h27⟩ ⟨rfl, trivial⟩ ⟨Le.refl _, st29, (OSl.to f31 (by rw [leftM_zero]; exact hl)), zaW, (by intro v_ hv_; simp at hv_)⟩ ?_
  rintro ⟨i, o_10, h34⟩ _ w37 ⟨le35, st36, hO_10, hi, hwr⟩
  refine W.sr<|zaX X X X<|Y<|zj ?_
  refine zC rfl (fun c38 => ?_) (fun c38 => ?_)
  ·
   refine zy<|O<|zj<|zG<|W.sr<|zh X X ?_
   obtain ⟨v, hv⟩ : ∃ y_, (p.voters)[i]? = some y_ := t_ge (by omega)
   have l43 := l33.trans le35
   obtain ⟨b39, o40, _, he42, hc41, hr_v⟩ := Sl.elem (p_f4.up l43) hv
   obtain ⟨v44, rfl, f45⟩ := hr_v
   have f45_b := f45.le
   refine zU he42 X X (hk := X) (hu := zaa) (hz := zaT) X<|zr st36.sub hc41 X zdU zaT X X<|zQ st36 zdt X X<|fun b46 w47 st48=>zq X X<|zI st48 (k := 1) X X X (za X (za X (za f45.one zan))) zaT X X X<|fun w49 st50=> ?_
   obtain ⟨h51, le52, hb53, st55⟩ := st50.freeze (k := 1) rfl
   have hc54 := Cells.of hb53
   refine Y<|zj<|W.sr<|E X zaz X zbs X X<|U (j := 2) st55.sub hc54 X X X zce X<|zh X X ?_
   obtain ⟨a, ha⟩ : ∃ y_, (v.votes)[now.length]? = some y_ := t_ge (by have q_ := (zgK hp (List.mem_of_getElem? hv)).2.2.1; omega)
   obtain ⟨b56, o57, _, he59, hc58, hr_a⟩ := Sl.elem (f45.up le52) ha
   obtain rfl := hr_a
   refine zi rfl rfl (zav he59 rfl rfl (hk := (show _ = ((now.length : Nat) : Int) by rfl)) (hu := zg) (hz := zl)) ?_
   refine U (j := 0) st55.sub hc58 X X X zz X<|zaX X X X<|zS X X ?_
   refine zY (d := 52) rfl (fun g60 => ?_) (fun g60 => ?_)
   ·
    refine M X X X X X<|M X X X X X<|M X X X X X<|M X X X X X<|M X X X X X<|M X X X X X<|M X X X X X<|zT (v := (.bool _)) X X X<|Y ?_
    refine zae rfl (fun c61 => ?_) (fun c61 => ?_)
    ·
     refine zaI<|zm<|zam<|O<|zn<|zaM X X t_om X<|zh X X<|Y ?_
     refine ⟨⟨i + 1, o_10, h51⟩, ⟨rfl, trivial⟩, ?_, ⟨(le35.trans le52), st55.take 1, ?_, ?_, ?_⟩, ?_⟩
     ·exact zau
     ·refine OSl.to (hO_10.up le52) ?_
      exact (leftM_skip hv ha (.inl (by assumption))).symm
     ·first | omega | (simp; omega)
     ·exact all_snoc hwr hv (left_skip hn (List.mem_of_getElem? hv) ha (.inl (by assumption)))
     show p.voters.length - ((i + 1)) < p.voters.length - i
     omega
    cases c61
   refine Z X X X<|E X zaz X zbs X X<|Z X X X<|U (j := 2) st55.sub hc54 X X X zce X<|Z X X X<|zh X X<|Z X X X ?_
   refine zi rfl rfl (zav he59 rfl rfl (hk := (show _ = ((now.length : Nat) : Int) by rfl)) (hu := zg) (hz := zl)) ?_
   refine Z X X X<|U (j := 0) st55.sub hc58 X X X zz X<|Z X X X<|zh X X<|Z X X X<|zdd X X X<|zN (v := (.bool _)) X X X<|Y ?_
   refine zC rfl (fun c62 => ?_) (fun c62 => ?_)
   ·
    refine zaI<|zm<|zam<|O<|zn<|zaM X X t_om X<|zh X X<|Y ?_
    refine ⟨⟨i + 1, o_10, h51⟩, ⟨rfl, trivial⟩, ?_, ⟨(le35.trans le52), st55.take 1, ?_, ?_, ?_⟩, ?_⟩
    ·exact zau
    ·refine OSl.to (hO_10.up le52) ?_
     exact (leftM_skip hv ha (.inr (by assumption))).symm
    ·first | omega | (simp; omega)
    ·exact all_snoc hwr hv (left_skip hn (List.mem_of_getElem? hv) ha (.inr (by assumption)))
    show p.voters.length - ((i + 1)) < p.voters.length - i
    omega
   refine zy<|O<|W.sr<|zR (v := v25) X X<|zh X X ?_
   obtain ⟨x, hx⟩ : ∃ y_, ((zgg p now (hh : Int) i))[i]? = some y_ := t_ge (by rw [zgM]; omega)
   obtain ⟨b63, o64, cur65, _, e68, he66, hr_x, hc67⟩ := OSl.elem (hO_10.up le52) hx
   subst e68
   obtain rfl := hr_x
   refine zU he66 X X (hk := X) (hu := zg) (hz := zl) X<|zi X X (zcN (j := 0) (st55.get (k := 0) X) hc67 X X X zz) ?_
   refine zi rfl rfl (ziF rfl rfl (by have q_ := left_bound hp hn (List.mem_of_getElem? hv); have q2_ := left_at hv hx; omega)) ?_
   obtain ⟨b69, o70, cur71, _, e74, he72, hr_x, hc73⟩ := OSl.elem (hO_10.up le52) hx
   obtain ⟨hb75, hc76⟩ : b63 = b69 ∧ cur65 = cur71 := by cases e74; exact ⟨rfl, rfl⟩
   subst hb75
   subst hc76
   obtain rfl := hr_x
   refine zU he72 X X (hk := X) (hu := zg) (hz := zl) X ?_
   refine zdS (k := 0) st55 (hO_10.up le52) rfl (by rw [zgM]; omega) he72 rfl rfl (rfl) zl ?_
   intro o77 w78 _ e79 f80 st81
   subst e79
   refine Y<|W.sr<|zR (v := v25) X X<|zh X X ?_
   obtain ⟨z, hz⟩ : ∃ y_, (((zgg p now (hh : Int) i).set i (x - 1)))[i]? = some y_ := t_ge (by simp only [List.length_set, zgM]; omega)
   obtain ⟨b82, o83, cur84, _, e87, he85, hr_z, hc86⟩ := OSl.elem f80 hz
   subst e87
   obtain rfl := hr_z
   refine zU he85 X X (hk := X) (hu := zg) (hz := zl) X<|zi X X (zcN (j := 0) (st81.get (k := 0) X) hc86 X X X zz)<|zaX X X X<|Y ?_
   refine zC rfl (fun c88 => ?_) (fun c88 => ?_)
   ·
    refine zaI<|zhn X<|zm<|zm<|zhn X<|zm<|zam<|O<|zn<|zaM X X t_om X<|zh X X<|Y ?_
    have st89 := st21.over st81
    have l90 := l43.trans le52
    refine ⟨⟨hh + 1, rest, h51⟩, ⟨rfl, trivial⟩, ?_, ⟨l90, st89, ?_, ?_⟩, ?_⟩
    ·exact zau
    ·first | omega | (simp; omega)
    ·rw [ziT, truthsFrom_none (List.mem_of_getElem? hv) (left_neg ha (by omega) (by first | assumption | omega) (by rw [← left_at hv hx]; exact set_at hz) c88), List.append_nil]; exact hJm _ _ _ _ hJ ((le28.trans le35).trans le52)
    show q.heads.length - ((hh + 1)) < q.heads.length - hh
    omega
   refine zy<|zO<|O<|zn<|zaM X X t_om X<|zh X X<|Y ?_
   refine ⟨⟨i + 1, [(b82, .cells cur84 3)], h51⟩, ⟨rfl, trivial⟩, ?_, ⟨(le35.trans le52), st81.take 1, ?_, ?_, ?_⟩, ?_⟩
   ·exact zau
   ·refine OSl.to f80 ?_
    rw [left_at hv hx]; exact (leftM_less hv ha (by assumption) (by assumption)).symm
   ·first | omega | (simp; omega)
   ·exact all_snoc hwr hv (left_pos ha (by assumption) (by assumption) (by rw [← left_at hv hx]; exact set_at hz) c88)
   show p.voters.length - ((i + 1)) < p.voters.length - i
   omega
  refine zaI<|zm<|zm<|zam<|O<|zj ?_
  have st91 : St h0 w0 h34 _ (o_10 :: rest) := st21.keep st36
  have l92 := l33.trans le35
  refine zbg (er := ([], [], [], [], 0)) (dsts := [73, 74, 75, 76, 77, 78, 79, 80, 81]) st91 Tryz.mixed<|zc 0 [] X t_kr t_kr X X (fun hD wD τD hL hS hO  => (zf (j := 0) (hL.sub hS) (m_c.up l92) X X X Tryz.isAgg47))<|zc 1 [] X t_kr t_kr X X (fun hD wD τD hL hS hO  => (zeQ (v := now_v) X))<|zbO<|zc 3 [] X t_kr t_kr X X (fun hD wD τD hL hS hO  => (zel X)) ?_
  refine zas 4 (.res (fun h' res_ => Sl LInt h' res_ ([(hh : Int)])) (fun _ _ _ hl f => f.up hl)) [0] rfl t_kr t_kr ?_ ?_
  ·
   intro hD wD τD hL hS hO _ _
   have st93 := St.start hS
   refine zac (L := LInt) (xs := [(hh : Int)]) (cs := [.int .i64 (hh : Int)]) st93 (Enc.cons (L := LInt) (vs := [.int .i64 (hh : Int)]) (x := (hh : Int)) (h := hD) (X) Enc.nil) X X X zg Tryz.info3 X X X t_kr<|fun v94 w95 h98 le99 f96 st97=> ?_
   exact zp ⟨_, _, rfl, st97, _, rfl, f96⟩
  refine zbO<|zc 6 [] X t_kr t_kr X X (fun hD wD τD hL hS hO  => (zeQ (v := v25) X))<|zbO<|zbO<|zbP X X X X X X ⟨t_kr, X, t_kr, X, t_kr, X, X, t_kr, (zbp X (zbp X (zbp X (zbp X zcu))))⟩<|fun hE101 w102 _ le103 st104 _ _=> ?_
  have l105 := l92.trans le103
  refine zay rfl rfl (zaV rfl Tryz.call109 rfl) ((zet st104.sub (now_f.up l105) (by have q_ := zcO hp; omega)).mono ?_)
  rintro _ w107 ⟨h108, v106, o111, rfl, le109, s113, f112⟩
  refine ⟨_, rfl, ?_⟩
  have st110 := st104.call s113
  have st114 : St h0 w0 h108 _ (o_10 :: o111 :: rest) := St.mid (A := [o_10]) st110
  refine zp ⟨_, rfl, _, _, le109, st114, ?_⟩
  intro hE116 w117 _ le118 st119 gv4_0x115 gf4_0x115
  refine zbB (k := 1) (nb := 8) st119 (f112.up le118) rfl gf4_0x115 rfl rfl rfl zg Tryz.info3 rfl rfl rfl (by decide) rfl (by first | omega | (simp only [zgM, ziJ, List.length_append, List.length_cons, List.length_nil]; have q_ := zcO hp; omega)) (by first | omega | (simp only [zgM, ziJ, List.length_append, List.length_cons, List.length_nil]; have q_ := zcO hp; omega)) ?_
  intro v120 o121 w122 _ e123 f124 st125
  subst e123
  refine zp ⟨_, rfl, _, _, Le.refl _, st125, ?_⟩
  intro hE127 w128 _ le129 st130 _ _ _ _
  obtain ⟨h131, le132, f133, st134⟩ := OSl.freeze (k := 1) st130 (f124.up le129) rfl (by first | omega | (simp only [zgM, ziJ, List.length_append, List.length_cons, List.length_nil]; have q_ := zcO hp; omega))
  obtain ⟨h135, le136, f137, st138⟩ := OSl.freeze (k := 0) st134 (hO_10.up ((((le103.trans le109).trans le118).trans le129).trans le132)) rfl (by first | omega | (simp only [zgM, ziJ, List.length_append, List.length_cons, List.length_nil]; have q_ := zcO hp; omega))
  have f139 := Sl.to f137 (show _ = leftL p (now ++ [(hh : Int)]) from leftM_all now _ (by omega))
  have st141 := st138.tl.tl
  refine zay rfl rfl (zca (fs := []) (cs := [.pointer (some ⟨p_b, 0, none⟩), .pointer (some ⟨y_b, 0, none⟩), .pointer (some ⟨m_b, 0, none⟩)]) rfl rfl Tryz.call128 rfl) ((ih_ (n_ - 1) (by omega) (f133.up le136) f139 (p := p) (p_f0.up (((((l105.trans le109).trans le118).trans le129).trans le132).trans le136)) (p_f1.up (((((l105.trans le109).trans le118).trans le129).trans le132).trans le136)) (p_f2.up (((((l105.trans le109).trans le118).trans le129).trans le132).trans le136)) (p_f3.up (((((l105.trans le109).trans le118).trans le129).trans le132).trans le136)) (p_f4.up (((((l105.trans le109).trans le118).trans le129).trans le132).trans le136)) (p_c.up (((((l105.trans le109).trans le118).trans le129).trans le132).trans le136)) (y_c.up (((((l105.trans le109).trans le118).trans le129).trans le132).trans le136)) (m_c.up (((((l105.trans le109).trans le118).trans le129).trans le132).trans le136)) hJm hJxm (hJm _ _ _ _ hJ (((((((le28.trans le35).trans le103).trans le109).trans le118).trans le129).trans le132).trans le136)) (fun a_ b_ c_ d_ e_ f_ g_ l_ => hY a_ b_ c_ d_ e_ f_ g_ ((((((l105.trans le109).trans le118).trans le129).trans le132).trans le136).trans l_)) hp (now_snoc hn hq (by omega) (fun v_ hv_ => hwr v_ (by rw [List.take_of_length_le (by omega)]; exact hv_))) (onway_next hw hq (by omega)) (by simp only [List.length_append, List.length_cons, List.length_nil]; omega) rfl st141).mono ?_)
  rintro _ w142 ⟨h143, rest144, b145, rfl, le146, st147, hj148, hx149⟩
  refine ⟨_, rfl, ?_⟩
  refine zp ⟨_, rfl, _, _, ((le132.trans le136).trans le146), st147, ?_⟩
  intro hE151 w152 _ le153 st154 
  refine zbl X X ?_
  refine zp ⟨_, rfl, _, _, Le.refl _, st154, ?_⟩
  intro hE155 w156 _ le157 st158 _ _ _ _ _ _ gv4_0x159 gf4_0x159 _ _
  refine AllDeps.fin X<|O ?_
  refine zae rfl (fun c160 => ?_) (fun c160 => ?_)
  ·
   refine W.sr<|zF X X<|Y<|zw<|zK<|zd<|zd<|zK<|zd<|zev<|zb Tryz.results128 ?_
   exact ⟨_, _, false, rfl, ((((((((l105.trans le109).trans le118).trans le129).trans le132).trans le136).trans le146).trans le153).trans le157), st158, fun e_ => (by cases e_), fun _ => (hx149 (by simpa using c160)).elim fun p_ q_ => ⟨p_, hJxm _ _ _ _ q_ (le153.trans le157)⟩⟩
  refine zy<|zO<|O<|zn<|zaM X X t_om X<|zh X X<|Y ?_
  have l161 := (((((((l105.trans le109).trans le118).trans le129).trans le132).trans le136).trans le146).trans le153).trans le157
  refine ⟨⟨hh + 1, rest144, hE155⟩, ⟨rfl, trivial⟩, ?_, ⟨l161, st158, ?_, ?_⟩, ?_⟩
  ·exact zau
  ·first | omega | (simp; omega)
  ·rw [ziT, ← List.append_assoc]; exact hJm _ _ _ _ (hj148 (by simpa using c160)) (le153.trans le157)
  show q.heads.length - ((hh + 1)) < q.heads.length - hh
  omega
 refine zaI<|zm<|zm<|zam<|O<|W.sr<|zF X X<|Y<|zw<|zev<|have st162:=st21.over st23;zb Tryz.results128 ?_
 exact ⟨_, _, true, rfl, le20, st162, fun _ => by rw [truthsK_all hq (show q.heads.length = hh by omega)]; exact hJm _ _ _ _ hJ (Le.refl _), fun e_ => (by cases e_)⟩
theorem zgC {h0 h : Heap} {w0 w : World} {rest : Own} {l : Nat} {p_b : Nat} {p : Poll} {p_v0 : Value} (p_f0 : Sl LChapter h p_v0 p.text.chapters) {p_v1 : Value} (p_f1 : Sl LRule h p_v1 p.lexicon.rules) {p_v2 : Value} (p_f2 : Sl LDecision h p_v2 p.lexicon.decisions) {p_v3 : Value} (p_f3 : Sl LQuestion h p_v3 p.questions) {p_v4 : Value} (p_f4 : Sl LVoter h p_v4 p.voters) (p_c : Cells h p_b 0 [p_v0, p_v1, p_v2, p_v3, p_v4]) {J Jx : List (List Int) → Heap → Own → Prop} (hJm : ∀ xs h1 h2 o, J xs h1 o → Le h1 h2 → J xs h2 o) (hJxm : ∀ xs h1 h2 o, Jx xs h1 o → Le h1 h2 → Jx xs h2 o) (hJ0 : J [] h rest) (hY : ∀ pre x h1 w1 B rest us, Le h h1 → J pre h1 rest → St h0 w0 h1 w1 (B ++ rest) → (∃ u_, us = [u_] ∧ Sl LInt h1 u_ x ∧ (zM p)[pre.length]? = some x) → Yields Tryz.prog l us.toArray w1 fun v w2 => ∃ h2 rest2, Le h1 h2 ∧ St h0 w0 h2 w2 (B ++ rest2) ∧ ((v = .bool true ∧ J (pre ++ [x]) h2 rest2) ∨ (v = .bool false ∧ Jx (pre ++ [x]) h2 rest2))) (hp : zcJ p = true) (st0 : St h0 w0 h w rest) : Calls Tryz.prog 127 #[.func (.yield l) #[] #[], .pointer (some ⟨p_b, 0, none⟩)] w (fun e_ w' => ∃ h' rest' v_, e_ = .returned v_ ∧ Le h h' ∧ St h0 w0 h' w' rest' ∧ ((∃ xs, xs = zM p ∧ J xs h' rest') ∨ (∃ pre, Jx pre h' rest'))) := by
 refine zP (n := 31) Tryz.func127 X X X<|have p_f0_b:=p_f0.le;have p_f1_b:=p_f1.le;have p_f2_b:=p_f2.le;have p_f3_b:=p_f3.le;have p_f4_b:=p_f4.le;have st1:=St.start st0.sub;have hpl:=zcO hp;W.sr<|zJ st1 (v := (.func (.yield l) #[] #[])) (cs := [(.func (.yield l) #[] #[])]) X X X<|fun b2 w3 h4 le5 hc6 st7=>Y<|W.sr<|E X zeL X zad X X<|E X zt X zaL X X<|U (j := 4) st7.sub (p_c.up le5) X X X zbj X<|zaH (p_f4.up le5) X zaa X ?_
 refine OpsL.makeInts (m := p.voters.length) st7 rfl zg Tryz.info3 rfl rfl rfl rfl (by show 8 * (p.voters.length) ≤ 281474976710656; omega) (by omega) ?_
 intro v8 o9 w10 f11 st12
 refine zaf (v := v8) X X<|Y<|zj<|W.sr<|E X zeL X zad X X<|E X zt X zaL X X<|U (j := 4) st12.sub (p_c.up le5) X X X zbj X<|zaH (p_f4.up le5) X zaa X<|zh X X<|Y<|zG ?_
 refine zax ([4, 5] ++ t_rg 16 11) (G := Nat × List (Nat × Obj) × Heap) (fun ⟨i, o_3, h13⟩ => [(16, .int .i64 (i : Int))]) (fun ⟨i, o_3, h13⟩ w' => Le h4 h13 ∧ St h w h13 w' [o_3] ∧ (OSl LInt 3 h13 v8 ((zho p i)) o_3) ∧ (i ≤ p.voters.length)) (fun ⟨i, o_3, h13⟩ => p.voters.length - i) ⟨0, o9, h4⟩ ⟨rfl, trivial⟩ ⟨Le.refl _, st12, (OSl.to f11 (by rw [startL_zero])), zaW⟩ ?_
 rintro ⟨i, o_3, h13⟩ _ w16 ⟨le14, st15, hO_3, hi⟩
 refine W.sr<|zaX X X X<|Y<|zj ?_
 refine zC rfl (fun c17 => ?_) (fun c17 => ?_)
 ·
  refine zy<|O<|zj<|zG<|W.sr<|zh X X ?_
  obtain ⟨v, hv⟩ : ∃ y_, (p.voters)[i]? = some y_ := t_ge (by omega)
  have l22 := le5.trans le14
  obtain ⟨b18, o19, _, he21, hc20, hr_v⟩ := Sl.elem (p_f4.up l22) hv
  obtain ⟨v23, rfl, f24⟩ := hr_v
  have f24_b := f24.le
  refine zU he21 X X (hk := X) (hu := zaa) (hz := zaT) X<|zr st15.sub hc20 X zdU zaT X X<|zQ st15 zdt X X<|fun b25 w26 st27=>zq X X<|zI st27 (k := 1) X X X (za X (za X (za f24.one zan))) zaT X X X<|fun w28 st29=> ?_
  obtain ⟨h30, le31, hb32, st34⟩ := st29.freeze (k := 1) rfl
  have hc33 := Cells.of hb32
  refine Y<|zn<|zR (v := v8) X X<|zh X X<|E X zaz X zl X X<|U (j := 1) st34.sub hc33 X X X zz X ?_
  obtain ⟨y35, hy35⟩ : ∃ y_, ((zho p i))[i]? = some y_ := t_ge (by rw [startL_len (by omega)]; omega)
  obtain ⟨b36, o37, cur38, _, e41, he39, hr_y35, hc40⟩ := OSl.elem (hO_3.up le31) hy35
  subst e41
  obtain rfl := hr_y35
  refine zU he39 X X (hk := X) (hu := zg) (hz := zl) X ?_
  refine zdS (k := 0) st34 (hO_3.up le31) rfl (by rw [startL_len (by omega)]; omega) he39 rfl rfl (rfl) zl ?_
  intro o42 w43 _ e44 f45 st46
  subst e44
  refine zp<|zO<|O<|zn<|zaM X X t_om X<|zh X X<|Y ?_
  refine ⟨⟨i + 1, o42, h30⟩, ⟨rfl, trivial⟩, ?_, ⟨(le14.trans le31), st46.take 1, ?_, ?_⟩, ?_⟩
  ·exact zau
  ·refine OSl.to f45 ?_
   exact startL_set hv
  ·first | omega | (simp; omega)
  show p.voters.length - ((i + 1)) < p.voters.length - i
  omega
 refine zaI<|zm<|zm<|zam<|O<|W.sr<|zQ st15 Tryz.zeroValue47 X X<|fun b47 w48 st49=>Y<|W.sr<|zcL X X X<|zar st49 (k := 1) X X X X Tryz.sizeOf47 X X X<|fun w50 st51=> ?_
 obtain ⟨h52, le53, hb54, st56⟩ := st51.freeze (k := 1) rfl
 have hc55 := Cells.of hb54
 refine Y<|zn<|U (j := 0) st56.sub hc55 X X X Tryz.isAgg47 X<|zR (v := v8) X X ?_
 obtain ⟨h57, le58, f59, st60⟩ := OSl.freeze (k := 0) st56 (hO_3.up le53) rfl (by rw [startL_len (by omega)]; omega)
 have f61 := Sl.to f59 (show _ = leftL p [] from startL_all (by omega))
 have st62 := st0.over st60
 refine zay rfl rfl (zca (fs := []) (cs := [.pointer (some ⟨p_b, 0, none⟩), .pointer (some ⟨b2, 0, none⟩), .pointer (some ⟨b47, 0, none⟩)]) rfl rfl Tryz.call128 rfl) ((ziM p.questions.length (Sl.nil _ _) f61 (p := p) (p_f0.up (((le5.trans le14).trans le53).trans le58)) (p_f1.up (((le5.trans le14).trans le53).trans le58)) (p_f2.up (((le5.trans le14).trans le53).trans le58)) (p_f3.up (((le5.trans le14).trans le53).trans le58)) (p_f4.up (((le5.trans le14).trans le53).trans le58)) (p_c.up (((le5.trans le14).trans le53).trans le58)) (hc6.up ((le14.trans le53).trans le58)) (hc55.up le58) hJm hJxm (hJm _ _ _ _ hJ0 (((le5.trans le14).trans le53).trans le58)) (fun a_ b_ c_ d_ e_ f_ g_ l_ => hY a_ b_ c_ d_ e_ f_ g_ ((((le5.trans le14).trans le53).trans le58).trans l_)) hp (now_nil hp) (onway_nil p) (by omega) rfl st62).mono ?_)
 rintro _ w63 ⟨h64, rest65, b66, rfl, le67, st68, hj69, hx70⟩
 refine ⟨_, rfl, ?_⟩
 refine zp<|Post.end0 Tryz.results127 ?_
 refine ⟨_, _, _, rfl, ((((le5.trans le14).trans le53).trans le58).trans le67), st68, ?_⟩
 cases e_ : b66
 ·exact .inr (hx70 e_)
 exact .inl ⟨_, rfl, by rw [← truthsFrom_nil]; exact hj69 e_⟩
end Go.Pk

namespace Go.Pk
open Go Go.RowKit Go.Proofs
theorem zhh {h : Heap} {w : World} (hs : Sub h w) {g : FuncId} {caps : List Value} {A : List (List Int) → Heap → Value → List Int → Prop} {T_ : List (List Int)} (eg : ∀ a w, (callFunc g a).run Tryz.prog w = .ok (.enter g a) w) (seq : GivesA Tryz.prog g caps A (fun xs => xs = T_) h) (hA : ∀ pre h u x, A pre h u x → Sl LInt h u x ∧ pre.length < 100000) (hT : T_.length ≤ 100000) : Calls Tryz.prog 143 #[.slice none 0 0, .func (.func g) #[] caps.toArray] w (Rets h w (fun h' _ res_ => ∃ u0, res_ = u0 ∧ Sl (LSl LInt) h' u0 (T_))) := by
 refine V.calls (n := 13) Tryz.func143 X X X<|have st0:=t_s0 hs;zdl<|zbo X<|OpsL.boxO st0 (cs := [(.slice none 0 0)]) X X X<|fun b1 w2 st3=>zcM X X<|zp<|zaU<|zdl<|zdl<|zbo X<|zR X X<|zp<|zaU<|zgX ?_
 have st4 := st3.snoc
 have f5 := OSl.nil (LSl LInt) 42 h
 refine zhE (I := fun xs h_ own_ => ∃ (v_ : Value) (o_ : List (Nat × Obj)), own_ = [[(b1, .cells (List.toArray [v_]) 91)], o_] ∧ OSl (LSl LInt) 42 h_ v_ xs o_) (Ix := fun _ _ _ _ => False) st4 rfl eg rfl (seq _ _ _ (Le.refl _)) (by rintro xs_ h1_ h2_ o1_ ⟨v_, o_, rfl, q_⟩ l_; exact ⟨v_, o_, rfl, q_.up l_⟩) (by intro _ _ _ _ _ h_ _; exact h_) ⟨.slice none 0 0, [], rfl, by exact OSl.nil (LSl LInt) 42 _⟩ ?_ ?_ ?_
 ·rintro l_ pre x h6 w7 _ tail u8 le9 ⟨v_, o_, rfl, hi11⟩ st10 hA12
  have hpl := (hA _ _ _ _ hA12).2
  refine zbo X<|zaf (v := u8) X X<|zp ?_
  refine APost.mk (own2 := [[(b1, .cells (List.toArray [v_]) 91)], o_]) (Le.refl _) st10 ?_
  intro tail15 w14 st13
  refine zgX<|zbo X<|zbi (st13.get (k := 0) X) X X zeO X<|zR (v := u8) X X ?_
  refine zac (L := (LSl LInt)) (xs := [x]) (cs := [u8]) st13 (Enc.cons (L := (LSl LInt)) (vs := [u8]) (x := x) (h := h6) (⟨_, rfl, (hA _ _ _ _ hA12).1⟩) Enc.nil) rfl rfl rfl zbw Tryz.info42 rfl rfl rfl (by obtain ⟨_, _, rfl⟩ := Sl.form (hA _ _ _ _ hA12).1; kernel_rfl) ?_
  intro v16 w17 h20 le21 f18 st19
  refine zbB (k := 1) (nb := 24) st19 (hi11.up le21) rfl f18 rfl rfl rfl zbw Tryz.info42 rfl rfl rfl (by decide) rfl (by simp only [List.length_append, List.length_cons, List.length_nil]; omega) (by simp only [List.length_append, List.length_cons, List.length_nil]; omega) ?_
  intro v22 o23 w24 _ e25 f26 st27
  subst e25
  refine zar st27 (k := 0) X X (v := v22) X f26.one Tryz.sizeOf91 X X X<|fun w28 st29=>zp<|zdi ?_
  refine zdZ (own3 := [[(b1, .cells (List.toArray [v22]) 91)], o23]) le21 st29 ⟨v22, o23, ?_, ?_⟩
  ·rfl
  ·exact OSl.to f26 rfl
 ·rintro D30 xs h31 w32 _ le33 hS34 ⟨v_, o_, rfl, hi35⟩ st36
  have hxe := hS34
  refine zdi<|zaU<|zdl<|zbo X<|zbi (st36.get (k := 0) X) X X zeO X<|zaf (v := v_) X X<|zp<|zaU<|V.ret<|zhJ (own := [[(b1, .cells (List.toArray [v_]) 91)], o_]) st36<|fun w38 st37=>zb Tryz.results143 ?_
  obtain ⟨h39, le40, f41, st42⟩ := OSl.freeze (k := 1) st37 hi35 rfl (by rw [hxe]; omega)
  refine ⟨h39, _, rfl, st42.done, ?_⟩
  refine ⟨_, rfl, Sl.to f41 ?_⟩
  exact hS34
 intro _ _ _ _ _ _ _ hf_; exact hf_.elim
theorem c_slices_Collect_Lint {h : Heap} {w : World} (hs : Sub h w) {g : FuncId} {caps : List Value} {A : List (List Int) → Heap → Value → List Int → Prop} {T_ : List (List Int)} (eg : ∀ a w, (callFunc g a).run Tryz.prog w = .ok (.enter g a) w) (seq : GivesA Tryz.prog g caps A (fun xs => xs = T_) h) (hA : ∀ pre h u x, A pre h u x → Sl LInt h u x ∧ pre.length < 100000) (hT : T_.length ≤ 100000) : Calls Tryz.prog 100 #[.func (.func g) #[] caps.toArray] w (Rets h w (fun h' _ res_ => ∃ u0, res_ = u0 ∧ Sl (LSl LInt) h' u0 (T_))) := by
 refine zP (n := 5) Tryz.func100 X X X<|have st0:=t_s0 hs;W.sr<|zcM X X<|Y<|W.sr<|zR X X<|ze st0 X X X Tryz.call143 X (zhh st0.sub eg (seq.up (Le.refl _)) hA hT)<|fun r1 w2 h3 le4 st5 q6=> ?_
 obtain ⟨v7, e9, f8⟩ := q6
 rw [← e9] at f8
 have f8_b := f8.le
 refine zaf (v := r1) X X<|Y<|zw<|zb Tryz.results100 ?_
 refine ⟨h3, _, rfl, st5.done, ?_⟩
 refine ⟨_, rfl, Sl.to f8 ?_⟩
 rfl
theorem gives_truths {h : Heap} {p_b : Nat} {p : Poll} {p_v0 : Value} (p_f0 : Sl LChapter h p_v0 p.text.chapters) {p_v1 : Value} (p_f1 : Sl LRule h p_v1 p.lexicon.rules) {p_v2 : Value} (p_f2 : Sl LDecision h p_v2 p.lexicon.decisions) {p_v3 : Value} (p_f3 : Sl LQuestion h p_v3 p.questions) {p_v4 : Value} (p_f4 : Sl LVoter h p_v4 p.voters) (p_c : Cells h p_b 0 [p_v0, p_v1, p_v2, p_v3, p_v4]) (hp : zcJ p = true) : GivesA Tryz.prog 127 [.pointer (some ⟨p_b, 0, none⟩)] (fun pre_ h_ u_ x_ => Sl LInt h_ u_ x_ ∧ (zM p)[pre_.length]? = some x_) (fun xs => xs = zM p) h := by
 intro h0 w0 h1 l1 l J Jx hm hxm hY h2 w rest l2 hJ st
 exact zgC (p := p) (p_f0.up (l1.trans l2)) (p_f1.up (l1.trans l2)) (p_f2.up (l1.trans l2)) (p_f3.up (l1.trans l2)) (p_f4.up (l1.trans l2)) (p_c.up (l1.trans l2)) hm hxm hJ (fun _ _ _ _ _ _ _ l3 a b c => hY _ _ _ _ _ _ _ (l2.trans l3) a b c) hp st
theorem zhu {h : Heap} {w : World} (hs : Sub h w) {p : Poll} {p_v0 : Value} (p_f0 : Sl LChapter h p_v0 p.text.chapters) {p_v1 : Value} (p_f1 : Sl LRule h p_v1 p.lexicon.rules) {p_v2 : Value} (p_f2 : Sl LDecision h p_v2 p.lexicon.decisions) {p_v3 : Value} (p_f3 : Sl LQuestion h p_v3 p.questions) {p_v4 : Value} (p_f4 : Sl LVoter h p_v4 p.voters) : Calls Tryz.prog 92 #[.agg #[p_v0, p_v1, p_v2, p_v3, p_v4]] w (fun e_ w' => ∃ h' bo, e_ = .returned (.func (.func 127) #[] #[.pointer (some ⟨bo, 0, none⟩)]) ∧ Le h h' ∧ St h w h' w' [] ∧ Cells h' bo 0 [p_v0, p_v1, p_v2, p_v3, p_v4]) := by
 refine zP (n := 4) Tryz.func92 X X X<|have st0:=t_s0 hs;have p_f0_b:=p_f0.le;have p_f1_b:=p_f1.le;have p_f2_b:=p_f2.le;have p_f3_b:=p_f3.le;have p_f4_b:=p_f4.le;W.sr<|zJ st0 (cs := [p_v0, p_v1, p_v2, p_v3, p_v4]) X X X<|fun b1 w2 h3 le4 hc5 st6=>zaf X X<|Y<|W.sr<|zcL X X X<|zi X X (r_asF X)<|Y<|zw<|zb Tryz.results92 ?_
 exact ⟨h3, _, rfl, le4, st6, hc5⟩
theorem c_vote_open {h : Heap} {w : World} (hs : Sub h w) {p : Poll} {p_v0 : Value} (p_f0 : Sl LChapter h p_v0 p.text.chapters) {p_v1 : Value} (p_f1 : Sl LRule h p_v1 p.lexicon.rules) {p_v2 : Value} (p_f2 : Sl LDecision h p_v2 p.lexicon.decisions) {p_v3 : Value} (p_f3 : Sl LQuestion h p_v3 p.questions) {p_v4 : Value} (p_f4 : Sl LVoter h p_v4 p.voters) (K1 : Cells h 1 0 Tryz.glob1) (K0 : Cells h 0 0 Tryz.glob0) : Calls Tryz.prog 91 #[.agg #[p_v0, p_v1, p_v2, p_v3, p_v4]] w (Rets h w (fun h' _ res_ => ∃ u0 u1 u2 u3 u4, res_ = .tuple #[.agg #[u0, u1, u2, u3, u4], .int .i64 (zbM p)] ∧ Sl LChapter h' u0 (p).text.chapters ∧ Sl LRule h' u1 (p).lexicon.rules ∧ Sl LDecision h' u2 (p).lexicon.decisions ∧ Sl LQuestion h' u3 (p).questions ∧ Sl LVoter h' u4 (p).voters)) := by
 refine zP (n := 8) Tryz.func91 X X X<|have st0:=t_s0 hs;have p_f0_b:=p_f0.le;have p_f1_b:=p_f1.le;have p_f2_b:=p_f2.le;have p_f3_b:=p_f3.le;have p_f4_b:=p_f4.le;W.sr<|zJ st0 (cs := [p_v0, p_v1, p_v2, p_v3, p_v4]) X X X<|fun b1 w2 h3 le4 hc5 st6=>zQ st6 Tryz.zeroValue145 X X<|fun b7 w8 st9=>zq X X<|Y<|zj<|zbg (er := ([], [], [], [], 0)) (dsts := [4, 5, 6, 7, 3]) st9 Tryz.mixed<|zc 0 [] X t_kr t_kr X X (fun hD wD τD hL hS hO  => (zat (hL.sub hS) hc5 X zaE zad X)) ?_
 refine zc 1 [0] rfl t_kr t_kr rfl rfl (fun hD wD τD hL hS hO _ _ => (zbq (cs := [p_v0, p_v1, p_v2, p_v3, p_v4]) (by obtain ⟨_, _, rfl⟩ := Sl.form p_f0; obtain ⟨_, _, rfl⟩ := Sl.form p_f1; obtain ⟨_, _, rfl⟩ := Sl.form p_f2; obtain ⟨_, _, rfl⟩ := Sl.form p_f3; obtain ⟨_, _, rfl⟩ := Sl.form p_f4; kernel_rfl))) ?_
 refine zc 2 [] X t_kr t_kr X X (fun hD wD τD hL hS hO  => (zat (hL.sub hS) hc5 X zaE zad X)) ?_
 refine zas 3 (.det (.int .i64 (zbM (p)))) [0] rfl t_kr t_kr ?_ ?_
 ·
  intro hD wD τD hL hS hO _ _
  have st10 := St.start hS
  refine ze st10 X X X Tryz.call40 X (c_vote_Check st10.sub (p := p) (p_f0.up (le4.trans hL)) (p_f1.up (le4.trans hL)) (p_f2.up (le4.trans hL)) (p_f3.up (le4.trans hL)) (p_f4.up (le4.trans hL)) (K1.up (le4.trans hL)) (K0.up (le4.trans hL)))<|fun r11 w12 h13 le14 st15 q16=> ?_
  obtain rfl := q16
  exact zp ⟨_, _, rfl, st15, (), rfl, trivial⟩
 refine zbO<|zc 5 [4, 3, 2, 1, 0] X t_kr t_kr X X (fun hD wD τD hL hS hO _ _ _ _ _ _ _ _ => (r_asI X))<|zbP X X X X X X ⟨t_kr, X, t_kr, X, t_kr, X, X, t_kr, (zbp X zcu)⟩<|fun hE18 w19 _ le20 st21 _ _ _ _ _ _=>zI st21 (k := 0) X X X (za p_f0.one (za p_f1.one (za p_f2.one (za p_f3.one (za p_f4.one zan))))) zgk X X X<|fun w22 st23=> ?_
 obtain ⟨h24, le25, hb26, st28⟩ := st23.freeze (k := 0) rfl
 have hc27 := Cells.of hb26
 refine zp ⟨undef, rfl, _, _, le25, st28, ?_⟩
 intro hE29 w30 _ le31 st32 _ _ _ _ _ _ _ _ _ _
 refine AllDeps.fin X<|O<|zw<|Post.retcell2F Tryz.results91 X Tryz.isAgg145 zgk X st32.sub (hc27.up le31) ?_
 refine ⟨hE29, _, rfl, st32.done, ?_⟩
 refine ⟨_, _, _, _, _, tup2 ?_ (zah ?_), Sl.to (p_f0.up (((le4.trans le20).trans le25).trans le31)) ?_, Sl.to (p_f1.up (((le4.trans le20).trans le25).trans le31)) ?_, Sl.to (p_f2.up (((le4.trans le20).trans le25).trans le31)) ?_, Sl.to (p_f3.up (((le4.trans le20).trans le25).trans le31)) ?_, Sl.to (p_f4.up (((le4.trans le20).trans le25).trans le31)) ?_⟩
 all_goals rfl
theorem zeA {h : Heap} {w : World} (hs : Sub h w) {p : Poll} {p_v0 : Value} (p_f0 : Sl LChapter h p_v0 p.text.chapters) {p_v1 : Value} (p_f1 : Sl LRule h p_v1 p.lexicon.rules) {p_v2 : Value} (p_f2 : Sl LDecision h p_v2 p.lexicon.decisions) {p_v3 : Value} (p_f3 : Sl LQuestion h p_v3 p.questions) {p_v4 : Value} (p_f4 : Sl LVoter h p_v4 p.voters) (K1 : Cells h 1 0 Tryz.glob1) (K0 : Cells h 0 0 Tryz.glob0) : Calls Tryz.prog 34 #[.agg #[p_v0, p_v1, p_v2, p_v3, p_v4]] w (Rets h w (fun _ _ res_ => res_ = .tuple #[.int .i64 ((if zbM p = 0 then ((zM p).length : Int) else 0)), .int .i64 (zbM p)])) := by
 refine V.calls (n := 21) Tryz.func34 X X X<|have st0:=t_s0 hs;have p_f0_b:=p_f0.le;have p_f1_b:=p_f1.le;have p_f2_b:=p_f2.le;have p_f3_b:=p_f3.le;have p_f4_b:=p_f4.le;zdl<|zbo X<|zJ st0 (cs := [p_v0, p_v1, p_v2, p_v3, p_v4]) X X X<|fun b1 w2 h3 le4 hc5 st6=>zq X X<|zq X X<|zp<|zaU<|zdl<|zbo X<|zr st6.sub hc5 X zaE zad X X<|ze st6 X X X Tryz.call91 X (c_vote_open st6.sub (p := p) (p_f0.up le4) (p_f1.up le4) (p_f2.up le4) (p_f3.up le4) (p_f4.up le4) (K1.up le4) (K0.up le4))<|fun r7 w8 h9 le10 st11 q12=> ?_
 obtain ⟨v13, v15, v17, v19, v21, rfl, f14, f16, f18, f20, f22⟩ := q12
 have f14_b := f14.le
 have f16_b := f16.le
 have f18_b := f18.le
 have f20_b := f20.le
 have f22_b := f22.le
 refine zbY X X<|zA (v := (.agg (List.toArray _))) X X X<|zA (v := (.int _ _)) X X X<|zQ st11 Tryz.zeroValue145 X X<|fun b23 w24 st25=>zI st25 (k := 0) X X X (za f14.one (za f16.one (za f18.one (za f20.one (za f22.one zan))))) zgk X X X<|fun w26 st27=> ?_
 obtain ⟨h28, le29, hb30, st32⟩ := st27.freeze (k := 0) rfl
 have hc31 := Cells.of hb30
 refine zq X X<|zp<|zaU<|zdl<|zdl<|zbo X<|zh X X<|zcf X X X<|zp<|zaU ?_
 refine V.cond rfl (fun c33 => ?_) (fun c33 => ?_)
 ·
  replace c33 := t_ot c33
  refine zdl<|zbo X<|zh X X<|zq X X<|zq X X<|zp<|zaU<|V.ret<|ThenV.ret<|PostV.zero<|zbb Tryz.results34 ?_
  refine ⟨h28, _, rfl, st32.done, ?_⟩
  refine tup2 (zah ?_) (zah ?_)
  all_goals simp_all
 replace c33 := t_of c33
 refine V.skip<|zaU<|zdl ?_
 have hk1 : zbM p = 0 := by simpa using c33
 have hpb := (zcb hk1).2
 have htl := zep hpb
 refine zbo X<|zQ st32 Tryz.zeroValue3 X X<|fun b34 w35 st36=>zar st36 (k := 1) X X X X zl X X X<|fun w37 st38=>zp<|zaU<|zdl<|zdl<|zbo X<|zr st38.sub hc31 X Tryz.isAgg145 zgk X X ?_
 refine zay rfl rfl (zaV rfl Tryz.call92 rfl) ((zhu st38.sub (p := (p)) (f14.up le29) (f16.up le29) (f18.up le29) (f20.up le29) (f22.up le29)).mono ?_)
 rintro _ w39 ⟨h40, bo41, rfl, le42, s43, hc44⟩
 refine ⟨_, rfl, ?_⟩
 have st45 := st38.call0 s43
 refine zp<|zaU<|zgX ?_
 have seq46 : GivesG Tryz.prog 127 [.pointer (some ⟨bo41, 0, none⟩)] (fun pre_ h_ us_ x_ => ∃ u_, us_ = [u_] ∧ (fun pre_ h_ u_ x_ => Sl LInt h_ u_ x_ ∧ (zM p)[pre_.length]? = some x_) pre_ h_ u_ x_) (fun xs_ => xs_ = zM p) h w h40 := by
  intro l_ J_ Jx_ hm_ hxm_ hY_ h1_ w1_ rest_ le_ hJ_ st_
  exact zgC (p := p) ((f14.up (le29.trans le42)).up le_) ((f16.up (le29.trans le42)).up le_) ((f18.up (le29.trans le42)).up le_) ((f20.up (le29.trans le42)).up le_) ((f22.up (le29.trans le42)).up le_) (hc44.up le_) hm_ hxm_ hJ_ (fun _ _ _ _ _ _ _ l2_ a_ b_ c_ => hY_ _ _ _ _ _ _ _ (le_.trans l2_) a_ b_ c_) (by exact hpb) st_
 refine zhE (I := fun xs _ own_ => own_ = [[], [(b34, .cells (List.toArray [.int .i64 (xs.length : Int)]) 3)]] ∧ xs.length ≤ xs.length) (Ix := fun _ _ _ _ => False) st45 rfl Tryz.call127 rfl seq46 (by rintro _ _ _ _ h_ _; exact h_) (by intro _ _ _ _ _ h_ _; exact h_) ⟨rfl, by exact Nat.le_refl _⟩ ?_ ?_ ?_
 ·rintro l_ pre x h47 w48 _ tail u49 le50 ⟨rfl, hi52⟩ st51 hA53
  have hxl := (List.getElem?_eq_some_iff.1 (hA53).2).1
  refine V.skip ?_
  refine APost.mk (own2 := [[], [(b34, .cells (List.toArray [.int .i64 (pre.length : Int)]) 3)]]) (Le.refl _) st51 ?_
  intro tail56 w55 st54
  refine zgX<|zbo X<|zbi (st54.get (k := 1) X) X X zz X<|zaM X X t_om X<|zar st54 (k := 1) X X X X zl X X X<|fun w57 st58=>zp<|zdi ?_
  refine zdZ (own3 := [[], [(b34, .cells (List.toArray [.int .i64 ((pre.length : Int) + 1)]) 3)]]) (Le.refl _) st58 ⟨?_, ?_⟩
  ·simp
  ·exact Nat.le_refl _
 ·rintro D59 xs h60 w61 _ le62 hS63 ⟨rfl, hi64⟩ st65
  have hxe := hS63
  refine zdi<|zaU<|zdl<|zbo X<|zbi (st65.get (k := 1) X) X X zz X<|zq X X<|zq X X<|zp<|zaU<|V.ret<|zhJ (own := [[], [(b34, .cells (List.toArray [.int .i64 (xs.length : Int)]) 3)]]) st65<|fun w67 st66=>zbb Tryz.results34 ?_
  refine ⟨h60, _, rfl, st66.done, ?_⟩
  refine tup2 (zah ?_) (zah ?_)
  all_goals simp_all
 intro _ _ _ _ _ _ _ hf_; exact hf_.elim
theorem zfi {h : Heap} {w : World} (hs : Sub h w) {p : Poll} {p_v0 : Value} (p_f0 : Sl LChapter h p_v0 p.text.chapters) {p_v1 : Value} (p_f1 : Sl LRule h p_v1 p.lexicon.rules) {p_v2 : Value} (p_f2 : Sl LDecision h p_v2 p.lexicon.decisions) {p_v3 : Value} (p_f3 : Sl LQuestion h p_v3 p.questions) {p_v4 : Value} (p_f4 : Sl LVoter h p_v4 p.voters) (so : Bool) (K1 : Cells h 1 0 Tryz.glob1) (K0 : Cells h 0 0 Tryz.glob0) : Calls Tryz.prog 54 #[.agg #[p_v0, p_v1, p_v2, p_v3, p_v4], .bool so] w (Rets h w (fun h' _ res_ => ∃ u0, res_ = .tuple #[u0, .int .i64 (allE p so)] ∧ Sl (LSl LInt) h' u0 ((allL p so)))) := by
 refine zP (n := 26) Tryz.func54 X X X<|have st0:=t_s0 hs;have p_f0_b:=p_f0.le;have p_f1_b:=p_f1.le;have p_f2_b:=p_f2.le;have p_f3_b:=p_f3.le;have p_f4_b:=p_f4.le;W.sr<|zJ st0 (cs := [p_v0, p_v1, p_v2, p_v3, p_v4]) X X X<|fun b1 w2 h3 le4 hc5 st6=>zcM X X<|zq X X<|Y<|W.sr<|zr st6.sub hc5 X zaE zad X X<|ze st6 X X X Tryz.call91 X (c_vote_open st6.sub (p := p) (p_f0.up le4) (p_f1.up le4) (p_f2.up le4) (p_f3.up le4) (p_f4.up le4) (K1.up le4) (K0.up le4))<|fun r7 w8 h9 le10 st11 q12=> ?_
 obtain ⟨v13, v15, v17, v19, v21, rfl, f14, f16, f18, f20, f22⟩ := q12
 have f14_b := f14.le
 have f16_b := f16.le
 have f18_b := f18.le
 have f20_b := f20.le
 have f22_b := f22.le
 refine zbY X X<|zA (v := (.agg (List.toArray _))) X X X<|zA (v := (.int _ _)) X X X<|zQ st11 Tryz.zeroValue145 X X<|fun b23 w24 st25=>zI st25 (k := 0) X X X (za f14.one (za f16.one (za f18.one (za f20.one (za f22.one zan))))) zgk X X X<|fun w26 st27=> ?_
 obtain ⟨h28, le29, hb30, st32⟩ := st27.freeze (k := 0) rfl
 have hc31 := Cells.of hb30
 refine zq X X<|Y<|zj<|W.sr<|zh X X<|zcf X X X<|Y ?_
 refine zC rfl (fun c33 => ?_) (fun c33 => ?_)
 ·
  refine W.sr<|zh X X<|zcM X X<|zq X X<|Y<|zw<|zd<|zbb Tryz.results54 ?_
  refine ⟨h28, _, rfl, st32.done, ?_⟩
  refine ⟨_, tup2 rfl (zah ?_), Sl.to (Sl.nil _ _) ?_⟩
  all_goals simp_all [allL, allE]
 refine zy<|O<|zj<|W.sr<|zS X X<|zbl X X<|Y ?_
 refine zae rfl (fun c34 => ?_) (fun c34 => ?_)
 ·
  refine W.sr<|zcM X X<|zq X X<|Y<|zw<|zd<|zbb Tryz.results54 ?_
  refine ⟨h28, _, rfl, st32.done, ?_⟩
  refine ⟨_, tup2 rfl (zah ?_), Sl.to (Sl.nil _ _) ?_⟩
  all_goals simp_all [allL, allE]
 refine zy<|O<|zj ?_
 have hk1 : zbM p = 0 := by simpa using c33
 have hpb := (zcb hk1).2
 have htl := zep hpb
 refine zn<|zr st32.sub hc31 X Tryz.isAgg145 zgk X X ?_
 refine zay rfl rfl (zaV rfl Tryz.call92 rfl) ((zhu st32.sub (p := (p)) (f14.up le29) (f16.up le29) (f18.up le29) (f20.up le29) (f22.up le29)).mono ?_)
 rintro _ w35 ⟨h36, bo37, rfl, le38, s39, hc40⟩
 refine ⟨_, rfl, ?_⟩
 have st41 := st32.call0 s39
 refine ze st41 rfl rfl rfl Tryz.call100 rfl (c_slices_Collect_Lint st41.sub Tryz.call127 (gives_truths (p := p) (f14.up (le29.trans le38)) (f16.up (le29.trans le38)) (f18.up (le29.trans le38)) (f20.up (le29.trans le38)) (f22.up (le29.trans le38)) hc40 hpb) (fun _ _ _ _ q_ => ⟨q_.1, by have q2_ := (List.getElem?_eq_some_iff.1 q_.2).1; omega⟩) (by omega)) ?_
 intro r42 w43 h44 le45 st46 q47
 obtain ⟨v48, e50, f49⟩ := q47
 rw [← e50] at f49
 have f49_b := f49.le
 refine zaf (v := r42) X X<|Y<|zj<|W.sr<|zR (v := r42) X X<|zaH f49 X zbw X<|zdd X X X<|Y ?_
 refine zC rfl (fun c51 => ?_) (fun c51 => ?_)
 ·
  refine W.sr<|zcM X X<|zq X X<|Y<|zw<|zd<|zbb Tryz.results54 ?_
  refine ⟨h44, _, rfl, st46.done, ?_⟩
  refine ⟨_, tup2 rfl (zah ?_), Sl.to (Sl.nil _ _) ?_⟩
  all_goals simp_all [allL, allE]
 refine zy<|O<|W.sr<|zR (v := r42) X X<|zaf (v := r42) X X<|zq X X<|Y<|zw<|zbb Tryz.results54 ?_
 refine ⟨h44, _, rfl, st46.done, ?_⟩
 refine ⟨_, tup2 rfl (zah ?_), Sl.to f49 ?_⟩
 all_goals simp_all [allL, allE]
end Go.Pk
