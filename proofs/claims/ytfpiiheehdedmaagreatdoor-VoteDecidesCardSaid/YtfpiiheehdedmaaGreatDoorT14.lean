/- A PART OF THE PROOF: contracts of functions, each walked once (much of it printed by a program of the author's own). -/
import Derived.Test.YtfpiiheehdedmaaGreatDoorT13
import Derived.Test.YtfpiiheehdedmaaGreatDoorT4
import Derived.Test.YtfpiiheehdedmaaGreatDoorT3
import Derived.Test.YtfpiiheehdedmaaGreatDoorT2
import Derived.Test.YtfpiiheehdedmaaGreatDoorT10
import Derived.Test.YtfpiiheehdedmaaGreatDoorT6
import Derived.Test.YtfpiiheehdedmaaGreatDoorT8
import Derived.Test.YtfpiiheehdedmaaGreatDoorT7
import Derived.Test.YtfpiiheehdedmaaGreatDoorT9
set_option linter.unusedSimpArgs false
set_option linter.unusedVariables false
set_option maxRecDepth 4000
namespace Go.Pk
open Go Go.RowKit Go.Proofs
theorem zew {h : Heap} {w : World} (hs : Sub h w) {s_v : Value} {s : (List Int)} (s_f : Sl LInt h s_v s) (hl : s.length * 8 ≤ 140737488355328) : Calls Tryz.prog 109 #[s_v] w (fun e_ w' => ∃ h' res_ o_, e_ = .returned res_ ∧ Le h h' ∧ St h w h' w' [o_] ∧ OSl LInt 3 h' res_ (s) o_) := by
 refine zS (n := 8) Tryz.func109 X X X<|have st0:=t_s0 hs;have s_f_b:=s_f.le;W.sr<|zcz X X<|Y<|zj<|W.sr<|zaa (v := s_v) X X ?_
 obtain ⟨nb1, hn2, hn2_r⟩ := Sl.nilb (P := Tryz.prog) s_f
 refine zq X X (hn2_r zp X X)<|Y ?_
 refine zad rfl (fun c3 => ?_) (fun c3 => ?_)
 ·
  refine W.sr<|zcz X X<|Y<|zB<|zd<|zc Tryz.results109 ?_
  have st4 := st0.snoc
  have f5 := OSl.nil LInt 3 h
  refine ⟨h, _, _, rfl, Le.refl _, st4, OSl.to f5 ?_⟩
  simp_all
 refine zC<|O<|W.sr<|zen (L := LInt) st0 X ⟨_, zr⟩ zp<|fun v6 o7 w8 f9 st10=>zaa (v := s_v) X X ?_
 refine zaR (k := 0) (nb := 8) st10 f9 rfl s_f rfl rfl rfl zp Tryz.info3 rfl rfl rfl (by decide) rfl t_om t_om ?_
 intro v11 o12 w13 _ e14 f15 st16
 subst e14
 refine zaj (v := v11) X X<|Y<|zB<|zc Tryz.results109 ?_
 refine ⟨h, _, _, rfl, Le.refl _, st16, OSl.to f15 ?_⟩
 simp
set_option maxHeartbeats 4000000 in
theorem ziq : ∀ (n_ : Nat) {h0 h : Heap} {w0 w : World} {rest : Own} {now_v : Value} {now : (List Int)} (now_f : Sl LInt h now_v now) {left_v : Value} {left : (List Int)} (left_f : Sl LInt h left_v left) {p_b : Nat} {p : Poll} {p_v0 : Value} (p_f0 : Sl LChapter h p_v0 p.text.chapters) {p_v1 : Value} (p_f1 : Sl LRule h p_v1 p.lexicon.rules) {p_v2 : Value} (p_f2 : Sl LDecision h p_v2 p.lexicon.decisions) {p_v3 : Value} (p_f3 : Sl LQuestion h p_v3 p.questions) {p_v4 : Value} (p_f4 : Sl LVoter h p_v4 p.voters) (p_c : Cells h p_b 0 [p_v0, p_v1, p_v2, p_v3, p_v4]) {l : Nat} {y_b : Nat} (y_c : Cells h y_b 0 [.func (.yield l) #[] #[]]) {m_b : Nat} (m_c : Cells h m_b 0 [(.func (.func 128) #[] #[.pointer (some ⟨p_b, 0, none⟩), .pointer (some ⟨y_b, 0, none⟩), .pointer (some ⟨m_b, 0, none⟩)])]) {J Jx : List (List Int) → Heap → Own → Prop} (hJm : ∀ xs h1 h2 o, J xs h1 o → Le h1 h2 → J xs h2 o) (hJxm : ∀ xs h1 h2 o, Jx xs h1 o → Le h1 h2 → Jx xs h2 o) {done : List (List Int)} (hJ0 : J done h rest) (hY : ∀ pre x h1 w1 B rest us, Le h h1 → J pre h1 rest → St h0 w0 h1 w1 (B ++ rest) → (∃ u_, us = [u_] ∧ Sl LInt h1 u_ x ∧ (zas p)[pre.length]? = some x) → Yields Tryz.prog l us.toArray w1 fun v w2 => ∃ h2 rest2, Le h1 h2 ∧ St h0 w0 h2 w2 (B ++ rest2) ∧ ((v = .bool true ∧ J (pre ++ [x]) h2 rest2) ∨ (v = .bool false ∧ Jx (pre ++ [x]) h2 rest2))) (hp : zdh p = true) (hn : NowOk p now) (hw : OnWay p done now) (hm : p.questions.length ≤ now.length + n_) (hl : left = leftL p now) (st0 : St h0 w0 h w rest), Calls Tryz.prog 128 #[now_v, left_v, .pointer (some ⟨p_b, 0, none⟩), .pointer (some ⟨y_b, 0, none⟩), .pointer (some ⟨m_b, 0, none⟩)] w (fun e_ w' => ∃ h' rest' b_, e_ = .returned (.bool b_) ∧ Le h h' ∧ St h0 w0 h' w' rest' ∧ (b_ = true → J (done ++ zcq p now) h' rest') ∧ (b_ = false → ∃ pre, Jx pre h' rest')) := by
 intro n_
 induction n_ using Nat.strongRecOn with
 | _ n_ ih_ =>
 intro h0 h w0 w rest now_v now now_f left_v left left_f p_b p p_v0 p_f0 p_v1 p_f1 p_v2 p_f2 p_v3 p_f3 p_v4 p_f4 p_c l y_b y_c m_b m_c J Jx hJm hJxm done hJ0 hY hp hn hw hm hl st0
 refine zS (n := 83) Tryz.func128 X X X<|have now_f_b:=now_f.le;have left_f_b:=left_f.le;have p_f0_b:=p_f0.le;have p_f1_b:=p_f1.le;have p_f2_b:=p_f2.le;have p_f3_b:=p_f3.le;have p_f4_b:=p_f4.le;have st1:=St.start st0.sub;have hnl:=hn.len;W.sr<|zJ X X<|Y<|W.scope<|W.sr<|zaa (v := now_v) X X<|zaJ now_f X zp X<|zz X X<|Y<|zj<|W.sr<|zk X X<|U X zeR X zbm X X<|U X zx X zbd X X<|E (j := 3) st1.sub p_c X X X zbv X ?_
 refine zaJ p_f3 X zau X<|zee X X X<|Y ?_
 refine zH rfl (fun c2 => ?_) (fun c2 => ?_)
 ·
  refine W.sr<|E (j := 0) st1.sub y_c X X X Tryz.isAgg111 X<|zaa (v := now_v) X X ?_
  have st11 := st0.over st1
  have hlq : now.length = p.questions.length := by omega
  have hone := truths_one hn hlq
  have hJc := hJm _ _ _ _ hJ0 (Le.refl _)
  have hAc : ∃ u_, [now_v] = [u_] ∧ Sl LInt h u_ now ∧ (zas p)[done.length]? = some now := ⟨_, rfl, now_f.up (Le.refl _), onway_at hw hone⟩
  refine zgp rfl rfl rfl rfl rfl (hY _ _ _ _ [] rest _ (Le.refl _) hJc st11 hAc) ?_
  intro yb3 w4 h5 rest6 le7 st8 hj9 hx10
  refine zJ X X<|Y<|zB<|zd<|zez<|zc Tryz.results128 ?_
  exact ⟨_, _, _, rfl, le7, st8, fun e_ => by rw [hone]; exact hj9 e_, fun e_ => ⟨_, hx10 e_⟩⟩
 refine zC<|O<|zj<|W.label<|O<|zj<|W.sr<|U X zeR X zbm X X<|U X zx X zbd X X<|E (j := 3) st1.sub p_c X X X zbv X<|zk X X ?_
 obtain ⟨q, hq⟩ : ∃ y_, (p.questions)[now.length]? = some y_ := t_ge (by omega)
 obtain ⟨b12, o13, _, he15, hc14, hr_q⟩ := Sl.elem p_f3 hq
 obtain ⟨v16, rfl, f17⟩ := hr_q
 have f17_b := f17.le
 refine zq rfl rfl (zao he15 rfl rfl (hk := (show _ = ((now.length : Nat) : Int) by rfl)) (hu := zau) (hz := zbz)) ?_
 refine U X zam X zbO X X<|E (j := 3) st1.sub hc14 X X X zca X<|zaJ f17 X zaE X<|zk X X<|Y<|zF ?_
 have st18 := st0.over st1
 refine zat ([7, 9, 10, 11, 12] ++ t_rg 32 51) (G := Nat × Own × Heap) (fun ⟨hh, rest, h19⟩ => [(32, .int .i64 (hh : Int))]) (fun ⟨hh, rest, h19⟩ w' => Le h h19 ∧ St h0 w0 h19 w' (rest) ∧ (hh ≤ q.heads.length) ∧ (J (done ++ zgN p now hh) h19 rest)) (fun ⟨hh, rest, h19⟩ => q.heads.length - hh) ⟨0, rest, h⟩ ⟨rfl, trivial⟩ ⟨Le.refl _, st18, zaM, (by simpa [zgN] using hJm _ _ _ _ hJ0 (Le.refl _))⟩ ?_
 rintro ⟨hh, rest, h19⟩ _ w22 ⟨le20, st21, hhl, hJ⟩
 have st23 := St.start st21.sub
 refine W.sr<|zaV X X X<|Y<|zj ?_
 refine zH rfl (fun c24 => ?_) (fun c24 => ?_)
 ·
  refine zC<|O<|zj<|zF<|W.sr<|zk X X<|zz X X<|Y<|W.sr<|zaa (v := left_v) X X ?_
  refine zaT rfl rfl (zbc rfl Tryz.call109 rfl) ((zew st23.sub (left_f.up le20) (by have q_ := zeh hp; rw [hl, zim]; omega)).mono ?_)
  rintro _ w26 ⟨h27, v25, o30, rfl, le28, s32, f31⟩
  refine ⟨_, rfl, ?_⟩
  have st29 := st23.call s32
  refine zaj (v := v25) X X<|Y<|zj<|W.sr<|U X zeR X zbm X X<|U X zx X zbp X X<|have l33:=le20.trans le28;E (j := 4) st29.sub (p_c.up l33) X X X zbI X<|zaJ (p_f4.up l33) X zaA X<|zk X X<|Y<|zF ?_
  refine zat ([11, 12] ++ t_rg 41 32) (G := Nat × List (Nat × Obj) × Heap) (fun ⟨i, o_10, h34⟩ => [(41, .int .i64 (i : Int))]) (fun ⟨i, o_10, h34⟩ w' => Le h27 h34 ∧ St h19 w22 h34 w' [o_10] ∧ (OSl LInt 3 h34 v25 ((zfU p now (hh : Int) i)) o_10) ∧ (i ≤ p.voters.length) ∧ (∀ v ∈ p.voters.take i, (zcY v (now ++ [(hh : Int)]) : Int) ≤ v.wrong)) (fun ⟨i, o_10, h34⟩ => p.voters.length - i) ⟨0, o30, h27⟩ ⟨rfl, trivial⟩ ⟨Le.refl _, st29, (OSl.to f31 (by rw [leftM_zero]; exact hl)), zaM, (by intro v_ hv_; simp at hv_)⟩ ?_
  rintro ⟨i, o_10, h34⟩ _ w37 ⟨le35, st36, hO_10, hi, hwr⟩
  refine W.sr<|zaV X X X<|Y<|zj ?_
  refine zH rfl (fun c38 => ?_) (fun c38 => ?_)
  ·
   refine zC<|O<|zj<|zF<|W.sr<|zk X X ?_
   obtain ⟨v, hv⟩ : ∃ y_, (p.voters)[i]? = some y_ := t_ge (by omega)
   have l43 := l33.trans le35
   obtain ⟨b39, o40, _, he42, hc41, hr_v⟩ := Sl.elem (p_f4.up l43) hv
   obtain ⟨v44, rfl, f45⟩ := hr_v
   have f45_b := f45.le
   refine zV he42 X X (hk := X) (hu := zaA) (hz := zbA) X<|zy st36.sub hc41 X Tryz.isAgg79 zbA X X<|zae st36 Tryz.zeroValue79 X X<|fun b46 w47 st48=>zz X X<|zM st48 (k := 1) X X X (za X (za X (za f45.one zap))) zbA X X X<|fun w49 st50=> ?_
   obtain ⟨h51, le52, hb53, st55⟩ := st50.freeze (k := 1) rfl
   have hc54 := Cells.of hb53
   refine Y<|zj<|W.sr<|U X zaU X zcy X X<|E (j := 2) st55.sub hc54 X X X zcU X<|zk X X ?_
   obtain ⟨a, ha⟩ : ∃ y_, (v.votes)[now.length]? = some y_ := t_ge (by have q_ := (ziA hp (List.mem_of_getElem? hv)).2.2.1; omega)
   obtain ⟨b56, o57, _, he59, hc58, hr_a⟩ := Sl.elem (f45.up le52) ha
   obtain rfl := hr_a
   refine zq rfl rfl (zao he59 rfl rfl (hk := (show _ = ((now.length : Nat) : Int) by rfl)) (hu := zp) (hz := zr)) ?_
   refine E (j := 0) st55.sub hc58 X X X zN X<|zaV X X X<|zai X X ?_
   refine zaB (d := 52) rfl (fun g60 => ?_) (fun g60 => ?_)
   ·
    refine Z X X X X X<|Z X X X X X<|Z X X X X X<|Z X X X X X<|Z X X X X X<|Z X X X X X<|Z X X X X X<|zaf (v := (.bool _)) X X X<|Y ?_
    refine zad rfl (fun c61 => ?_) (fun c61 => ?_)
    ·
     refine zaC<|zh<|zah<|O<|zo<|zaP X X t_om X<|zk X X<|Y ?_
     refine ⟨⟨i + 1, o_10, h51⟩, ⟨rfl, trivial⟩, ?_, ⟨(le35.trans le52), st55.take 1, ?_, ?_, ?_⟩, ?_⟩
     ·exact zav
     ·refine OSl.to (hO_10.up le52) ?_
      exact (leftM_skip hv ha (.inl (by assumption))).symm
     ·first | omega | (simp; omega)
     ·exact all_snoc hwr hv (left_skip hn (List.mem_of_getElem? hv) ha (.inl (by assumption)))
     show p.voters.length - ((i + 1)) < p.voters.length - i
     omega
    cases c61
   refine M X X X<|U X zaU X zcy X X<|M X X X<|E (j := 2) st55.sub hc54 X X X zcU X<|M X X X<|zk X X<|M X X X ?_
   refine zq rfl rfl (zao he59 rfl rfl (hk := (show _ = ((now.length : Nat) : Int) by rfl)) (hu := zp) (hz := zr)) ?_
   refine M X X X<|E (j := 0) st55.sub hc58 X X X zN X<|M X X X<|zk X X<|M X X X<|zee X X X<|zX (v := (.bool _)) X X X<|Y ?_
   refine zH rfl (fun c62 => ?_) (fun c62 => ?_)
   ·
    refine zaC<|zh<|zah<|O<|zo<|zaP X X t_om X<|zk X X<|Y ?_
    refine ⟨⟨i + 1, o_10, h51⟩, ⟨rfl, trivial⟩, ?_, ⟨(le35.trans le52), st55.take 1, ?_, ?_, ?_⟩, ?_⟩
    ·exact zav
    ·refine OSl.to (hO_10.up le52) ?_
     exact (leftM_skip hv ha (.inr (by assumption))).symm
    ·first | omega | (simp; omega)
    ·exact all_snoc hwr hv (left_skip hn (List.mem_of_getElem? hv) ha (.inr (by assumption)))
    show p.voters.length - ((i + 1)) < p.voters.length - i
    omega
   refine zC<|O<|W.sr<|zaa (v := v25) X X<|zk X X ?_
   obtain ⟨x, hx⟩ : ∃ y_, ((zfU p now (hh : Int) i))[i]? = some y_ := t_ge (by rw [zgG]; omega)
   obtain ⟨b63, o64, cur65, _, e68, he66, hr_x, hc67⟩ := OSl.elem (hO_10.up le52) hx
   subst e68
   obtain rfl := hr_x
   refine zV he66 X X (hk := X) (hu := zp) (hz := zr) X<|zq X X (zct (j := 0) (st55.get (k := 0) X) hc67 X X X zN) ?_
   refine zq rfl rfl (r_sub rfl rfl (by have q_ := left_bound hp hn (List.mem_of_getElem? hv); have q2_ := left_at hv hx; omega)) ?_
   obtain ⟨b69, o70, cur71, _, e74, he72, hr_x, hc73⟩ := OSl.elem (hO_10.up le52) hx
   obtain ⟨hb75, hc76⟩ : b63 = b69 ∧ cur65 = cur71 := by cases e74; exact ⟨rfl, rfl⟩
   subst hb75
   subst hc76
   obtain rfl := hr_x
   refine zV he72 X X (hk := X) (hu := zp) (hz := zr) X ?_
   refine zdi (k := 0) st55 (hO_10.up le52) rfl (by rw [zgG]; omega) he72 rfl rfl (rfl) zr ?_
   intro o77 w78 _ e79 f80 st81
   subst e79
   refine Y<|W.sr<|zaa (v := v25) X X<|zk X X ?_
   obtain ⟨z, hz⟩ : ∃ y_, (((zfU p now (hh : Int) i).set i (x - 1)))[i]? = some y_ := t_ge (by simp only [List.length_set, zgG]; omega)
   obtain ⟨b82, o83, cur84, _, e87, he85, hr_z, hc86⟩ := OSl.elem f80 hz
   subst e87
   obtain rfl := hr_z
   refine zV he85 X X (hk := X) (hu := zp) (hz := zr) X<|zq X X (zct (j := 0) (st81.get (k := 0) X) hc86 X X X zN)<|zaV X X X<|Y ?_
   refine zH rfl (fun c88 => ?_) (fun c88 => ?_)
   ·
    refine zaC<|zgr X<|zh<|zh<|zgr X<|zh<|zah<|O<|zo<|zaP X X t_om X<|zk X X<|Y ?_
    have st89 := st21.over st81
    have l90 := l43.trans le52
    refine ⟨⟨hh + 1, rest, h51⟩, ⟨rfl, trivial⟩, ?_, ⟨l90, st89, ?_, ?_⟩, ?_⟩
    ·exact zav
    ·first | omega | (simp; omega)
    ·rw [ziw, truthsFrom_none (List.mem_of_getElem? hv) (left_neg ha (by omega) (by first | assumption | omega) (by rw [← left_at hv hx]; exact set_at hz) c88), List.append_nil]; exact hJm _ _ _ _ hJ ((le28.trans le35).trans le52)
    show q.heads.length - ((hh + 1)) < q.heads.length - hh
    omega
   refine zC<|zP<|O<|zo<|zaP X X t_om X<|zk X X<|Y ?_
   refine ⟨⟨i + 1, [(b82, .cells cur84 3)], h51⟩, ⟨rfl, trivial⟩, ?_, ⟨(le35.trans le52), st81.take 1, ?_, ?_, ?_⟩, ?_⟩
   ·exact zav
   ·refine OSl.to f80 ?_
    rw [left_at hv hx]; exact (leftM_less hv ha (by assumption) (by assumption)).symm
   ·first | omega | (simp; omega)
   ·exact all_snoc hwr hv (left_pos ha (by assumption) (by assumption) (by rw [← left_at hv hx]; exact set_at hz) c88)
   show p.voters.length - ((i + 1)) < p.voters.length - i
   omega
  refine zaC<|zh<|zh<|zah<|O<|zj ?_
  have st91 : St h0 w0 h34 _ (o_10 :: rest) := st21.keep st36
  have l92 := l33.trans le35
  refine zbh (er := ([], [], [], [], 0)) (dsts := [73, 74, 75, 76, 77, 78, 79, 80, 81]) st91 Tryz.mixed<|zf 0 [] X t_kr t_kr X X (fun hD wD τD hL hS hO  => (ze (j := 0) (hL.sub hS) (m_c.up l92) X X X Tryz.isAgg47))<|zf 1 [] X t_kr t_kr X X (fun hD wD τD hL hS hO  => (zdp (v := now_v) X))<|zbx<|zf 3 [] X t_kr t_kr X X (fun hD wD τD hL hS hO  => (zdP X)) ?_
  refine zax 4 (.res (fun h' res_ => Sl LInt h' res_ ([(hh : Int)])) (fun _ _ _ hl f => f.up hl)) [0] rfl t_kr t_kr ?_ ?_
  ·
   intro hD wD τD hL hS hO _ _
   have st93 := St.start hS
   refine zaL (L := LInt) (xs := [(hh : Int)]) (cs := [.int .i64 (hh : Int)]) st93 (Enc.cons (L := LInt) (vs := [.int .i64 (hh : Int)]) (x := (hh : Int)) (h := hD) (X) Enc.nil) X X X zp Tryz.info3 X X X t_kr<|fun v94 w95 h98 le99 f96 st97=> ?_
   exact zt ⟨_, _, rfl, st97, _, rfl, f96⟩
  refine zbx<|zf 6 [] X t_kr t_kr X X (fun hD wD τD hL hS hO  => (zdp (v := v25) X))<|zbx<|zbx<|zbN X X X X X X ⟨t_kr, X, t_kr, X, t_kr, X, X, t_kr, (zbe X (zbe X (zbe X (zbe X zcl))))⟩<|fun hE101 w102 _ le103 st104 _ _=> ?_
  have l105 := l92.trans le103
  refine zaT rfl rfl (zbc rfl Tryz.call109 rfl) ((zew st104.sub (now_f.up l105) (by have q_ := zeh hp; omega)).mono ?_)
  rintro _ w107 ⟨h108, v106, o111, rfl, le109, s113, f112⟩
  refine ⟨_, rfl, ?_⟩
  have st110 := st104.call s113
  have st114 : St h0 w0 h108 _ (o_10 :: o111 :: rest) := St.mid (A := [o_10]) st110
  refine zt ⟨_, rfl, _, _, le109, st114, ?_⟩
  intro hE116 w117 _ le118 st119 gv4_0x115 gf4_0x115
  refine zaR (k := 1) (nb := 8) st119 (f112.up le118) rfl gf4_0x115 rfl rfl rfl zp Tryz.info3 rfl rfl rfl (by decide) rfl (by first | omega | (simp only [zgG, zim, List.length_append, List.length_cons, List.length_nil]; have q_ := zeh hp; omega)) (by first | omega | (simp only [zgG, zim, List.length_append, List.length_cons, List.length_nil]; have q_ := zeh hp; omega)) ?_
  intro v120 o121 w122 _ e123 f124 st125
  subst e123
  refine zt ⟨_, rfl, _, _, Le.refl _, st125, ?_⟩
  intro hE127 w128 _ le129 st130 _ _ _ _
  obtain ⟨h131, le132, f133, st134⟩ := OSl.freeze (k := 1) st130 (f124.up le129) rfl (by first | omega | (simp only [zgG, zim, List.length_append, List.length_cons, List.length_nil]; have q_ := zeh hp; omega))
  obtain ⟨h135, le136, f137, st138⟩ := OSl.freeze (k := 0) st134 (hO_10.up ((((le103.trans le109).trans le118).trans le129).trans le132)) rfl (by first | omega | (simp only [zgG, zim, List.length_append, List.length_cons, List.length_nil]; have q_ := zeh hp; omega))
  have f139 := Sl.to f137 (show _ = leftL p (now ++ [(hh : Int)]) from leftM_all now _ (by omega))
  have st141 := st138.tl.tl
  refine zaT rfl rfl (zcb (fs := []) (cs := [.pointer (some ⟨p_b, 0, none⟩), .pointer (some ⟨y_b, 0, none⟩), .pointer (some ⟨m_b, 0, none⟩)]) rfl rfl Tryz.call128 rfl) ((ih_ (n_ - 1) (by omega) (f133.up le136) f139 (p := p) (p_f0.up (((((l105.trans le109).trans le118).trans le129).trans le132).trans le136)) (p_f1.up (((((l105.trans le109).trans le118).trans le129).trans le132).trans le136)) (p_f2.up (((((l105.trans le109).trans le118).trans le129).trans le132).trans le136)) (p_f3.up (((((l105.trans le109).trans le118).trans le129).trans le132).trans le136)) (p_f4.up (((((l105.trans le109).trans le118).trans le129).trans le132).trans le136)) (p_c.up (((((l105.trans le109).trans le118).trans le129).trans le132).trans le136)) (y_c.up (((((l105.trans le109).trans le118).trans le129).trans le132).trans le136)) (m_c.up (((((l105.trans le109).trans le118).trans le129).trans le132).trans le136)) hJm hJxm (hJm _ _ _ _ hJ (((((((le28.trans le35).trans le103).trans le109).trans le118).trans le129).trans le132).trans le136)) (fun a_ b_ c_ d_ e_ f_ g_ l_ => hY a_ b_ c_ d_ e_ f_ g_ ((((((l105.trans le109).trans le118).trans le129).trans le132).trans le136).trans l_)) hp (now_snoc hn hq (by omega) (fun v_ hv_ => hwr v_ (by rw [List.take_of_length_le (by omega)]; exact hv_))) (onway_next hw hq (by omega)) (by simp only [List.length_append, List.length_cons, List.length_nil]; omega) rfl st141).mono ?_)
  rintro _ w142 ⟨h143, rest144, b145, rfl, le146, st147, hj148, hx149⟩
  refine ⟨_, rfl, ?_⟩
  refine zt ⟨_, rfl, _, _, ((le132.trans le136).trans le146), st147, ?_⟩
  intro hE151 w152 _ le153 st154 
  refine zbQ X X ?_
  refine zt ⟨_, rfl, _, _, Le.refl _, st154, ?_⟩
  intro hE155 w156 _ le157 st158 _ _ _ _ _ _ gv4_0x159 gf4_0x159 _ _
  refine AllDeps.fin X<|O ?_
  refine zad rfl (fun c160 => ?_) (fun c160 => ?_)
  ·
   refine W.sr<|zJ X X<|Y<|zB<|zI<|zd<|zd<|zI<|zd<|zez<|zc Tryz.results128 ?_
   exact ⟨_, _, false, rfl, ((((((((l105.trans le109).trans le118).trans le129).trans le132).trans le136).trans le146).trans le153).trans le157), st158, fun e_ => (by cases e_), fun _ => (hx149 (by simpa using c160)).elim fun p_ q_ => ⟨p_, hJxm _ _ _ _ q_ (le153.trans le157)⟩⟩
  refine zC<|zP<|O<|zo<|zaP X X t_om X<|zk X X<|Y ?_
  have l161 := (((((((l105.trans le109).trans le118).trans le129).trans le132).trans le136).trans le146).trans le153).trans le157
  refine ⟨⟨hh + 1, rest144, hE155⟩, ⟨rfl, trivial⟩, ?_, ⟨l161, st158, ?_, ?_⟩, ?_⟩
  ·exact zav
  ·first | omega | (simp; omega)
  ·rw [ziw, ← List.append_assoc]; exact hJm _ _ _ _ (hj148 (by simpa using c160)) (le153.trans le157)
  show q.heads.length - ((hh + 1)) < q.heads.length - hh
  omega
 refine zaC<|zh<|zh<|zah<|O<|W.sr<|zJ X X<|Y<|zB<|zez<|have st162:=st21.over st23;zc Tryz.results128 ?_
 exact ⟨_, _, true, rfl, le20, st162, fun _ => by rw [truthsK_all hq (show q.heads.length = hh by omega)]; exact hJm _ _ _ _ hJ (Le.refl _), fun e_ => (by cases e_)⟩
theorem c_vote_count_truths_1 {h0 h : Heap} {w0 w : World} {rest : Own} {l : Nat} {p_b : Nat} {p : Poll} {p_v0 : Value} (p_f0 : Sl LChapter h p_v0 p.text.chapters) {p_v1 : Value} (p_f1 : Sl LRule h p_v1 p.lexicon.rules) {p_v2 : Value} (p_f2 : Sl LDecision h p_v2 p.lexicon.decisions) {p_v3 : Value} (p_f3 : Sl LQuestion h p_v3 p.questions) {p_v4 : Value} (p_f4 : Sl LVoter h p_v4 p.voters) (p_c : Cells h p_b 0 [p_v0, p_v1, p_v2, p_v3, p_v4]) {J Jx : List (List Int) → Heap → Own → Prop} (hJm : ∀ xs h1 h2 o, J xs h1 o → Le h1 h2 → J xs h2 o) (hJxm : ∀ xs h1 h2 o, Jx xs h1 o → Le h1 h2 → Jx xs h2 o) (hJ0 : J [] h rest) (hY : ∀ pre x h1 w1 B rest us, Le h h1 → J pre h1 rest → St h0 w0 h1 w1 (B ++ rest) → (∃ u_, us = [u_] ∧ Sl LInt h1 u_ x ∧ (zas p)[pre.length]? = some x) → Yields Tryz.prog l us.toArray w1 fun v w2 => ∃ h2 rest2, Le h1 h2 ∧ St h0 w0 h2 w2 (B ++ rest2) ∧ ((v = .bool true ∧ J (pre ++ [x]) h2 rest2) ∨ (v = .bool false ∧ Jx (pre ++ [x]) h2 rest2))) (hp : zdh p = true) (st0 : St h0 w0 h w rest) : Calls Tryz.prog 127 #[.func (.yield l) #[] #[], .pointer (some ⟨p_b, 0, none⟩)] w (fun e_ w' => ∃ h' rest' v_, e_ = .returned v_ ∧ Le h h' ∧ St h0 w0 h' w' rest' ∧ ((∃ xs, xs = zas p ∧ J xs h' rest') ∨ (∃ pre, Jx pre h' rest'))) := by
 refine zS (n := 31) Tryz.func127 X X X<|have p_f0_b:=p_f0.le;have p_f1_b:=p_f1.le;have p_f2_b:=p_f2.le;have p_f3_b:=p_f3.le;have p_f4_b:=p_f4.le;have st1:=St.start st0.sub;have hpl:=zeh hp;W.sr<|zG st1 (v := (.func (.yield l) #[] #[])) (cs := [(.func (.yield l) #[] #[])]) X X X<|fun b2 w3 h4 le5 hc6 st7=>Y<|W.sr<|U X zeR X zbm X X<|U X zx X zbp X X<|E (j := 4) st7.sub (p_c.up le5) X X X zbI X<|zaJ (p_f4.up le5) X zaA X ?_
 refine OpsL.makeInts (m := p.voters.length) st7 rfl zp Tryz.info3 rfl rfl rfl rfl (by show 8 * (p.voters.length) ≤ 281474976710656; omega) (by omega) ?_
 intro v8 o9 w10 f11 st12
 refine zaj (v := v8) X X<|Y<|zj<|W.sr<|U X zeR X zbm X X<|U X zx X zbp X X<|E (j := 4) st12.sub (p_c.up le5) X X X zbI X<|zaJ (p_f4.up le5) X zaA X<|zk X X<|Y<|zF ?_
 refine zat ([4, 5] ++ t_rg 16 11) (G := Nat × List (Nat × Obj) × Heap) (fun ⟨i, o_3, h13⟩ => [(16, .int .i64 (i : Int))]) (fun ⟨i, o_3, h13⟩ w' => Le h4 h13 ∧ St h w h13 w' [o_3] ∧ (OSl LInt 3 h13 v8 ((zgZ p i)) o_3) ∧ (i ≤ p.voters.length)) (fun ⟨i, o_3, h13⟩ => p.voters.length - i) ⟨0, o9, h4⟩ ⟨rfl, trivial⟩ ⟨Le.refl _, st12, (OSl.to f11 (by rw [startL_zero])), zaM⟩ ?_
 rintro ⟨i, o_3, h13⟩ _ w16 ⟨le14, st15, hO_3, hi⟩
 refine W.sr<|zaV X X X<|Y<|zj ?_
 refine zH rfl (fun c17 => ?_) (fun c17 => ?_)
 ·
  refine zC<|O<|zj<|zF<|W.sr<|zk X X ?_
  obtain ⟨v, hv⟩ : ∃ y_, (p.voters)[i]? = some y_ := t_ge (by omega)
  have l22 := le5.trans le14
  obtain ⟨b18, o19, _, he21, hc20, hr_v⟩ := Sl.elem (p_f4.up l22) hv
  obtain ⟨v23, rfl, f24⟩ := hr_v
  have f24_b := f24.le
  refine zV he21 X X (hk := X) (hu := zaA) (hz := zbA) X<|zy st15.sub hc20 X Tryz.isAgg79 zbA X X<|zae st15 Tryz.zeroValue79 X X<|fun b25 w26 st27=>zz X X<|zM st27 (k := 1) X X X (za X (za X (za f24.one zap))) zbA X X X<|fun w28 st29=> ?_
  obtain ⟨h30, le31, hb32, st34⟩ := st29.freeze (k := 1) rfl
  have hc33 := Cells.of hb32
  refine Y<|zo<|zaa (v := v8) X X<|zk X X<|U X zaU X zr X X<|E (j := 1) st34.sub hc33 X X X zN X ?_
  obtain ⟨y35, hy35⟩ : ∃ y_, ((zgZ p i))[i]? = some y_ := t_ge (by rw [startL_len (by omega)]; omega)
  obtain ⟨b36, o37, cur38, _, e41, he39, hr_y35, hc40⟩ := OSl.elem (hO_3.up le31) hy35
  subst e41
  obtain rfl := hr_y35
  refine zV he39 X X (hk := X) (hu := zp) (hz := zr) X ?_
  refine zdi (k := 0) st34 (hO_3.up le31) rfl (by rw [startL_len (by omega)]; omega) he39 rfl rfl (rfl) zr ?_
  intro o42 w43 _ e44 f45 st46
  subst e44
  refine zt<|zP<|O<|zo<|zaP X X t_om X<|zk X X<|Y ?_
  refine ⟨⟨i + 1, o42, h30⟩, ⟨rfl, trivial⟩, ?_, ⟨(le14.trans le31), st46.take 1, ?_, ?_⟩, ?_⟩
  ·exact zav
  ·refine OSl.to f45 ?_
   exact startL_set hv
  ·first | omega | (simp; omega)
  show p.voters.length - ((i + 1)) < p.voters.length - i
  omega
 refine zaC<|zh<|zh<|zah<|O<|W.sr<|zae st15 Tryz.zeroValue47 X X<|fun b47 w48 st49=>Y<|W.sr<|zdl X X X<|zbR st49 (k := 1) X X X X Tryz.sizeOf47 X X X<|fun w50 st51=> ?_
 obtain ⟨h52, le53, hb54, st56⟩ := st51.freeze (k := 1) rfl
 have hc55 := Cells.of hb54
 refine Y<|zo<|E (j := 0) st56.sub hc55 X X X Tryz.isAgg47 X<|zaa (v := v8) X X ?_
 obtain ⟨h57, le58, f59, st60⟩ := OSl.freeze (k := 0) st56 (hO_3.up le53) rfl (by rw [startL_len (by omega)]; omega)
 have f61 := Sl.to f59 (show _ = leftL p [] from startL_all (by omega))
 have st62 := st0.over st60
 refine zaT rfl rfl (zcb (fs := []) (cs := [.pointer (some ⟨p_b, 0, none⟩), .pointer (some ⟨b2, 0, none⟩), .pointer (some ⟨b47, 0, none⟩)]) rfl rfl Tryz.call128 rfl) ((ziq p.questions.length (Sl.nil _ _) f61 (p := p) (p_f0.up (((le5.trans le14).trans le53).trans le58)) (p_f1.up (((le5.trans le14).trans le53).trans le58)) (p_f2.up (((le5.trans le14).trans le53).trans le58)) (p_f3.up (((le5.trans le14).trans le53).trans le58)) (p_f4.up (((le5.trans le14).trans le53).trans le58)) (p_c.up (((le5.trans le14).trans le53).trans le58)) (hc6.up ((le14.trans le53).trans le58)) (hc55.up le58) hJm hJxm (hJm _ _ _ _ hJ0 (((le5.trans le14).trans le53).trans le58)) (fun a_ b_ c_ d_ e_ f_ g_ l_ => hY a_ b_ c_ d_ e_ f_ g_ ((((le5.trans le14).trans le53).trans le58).trans l_)) hp (now_nil hp) (onway_nil p) (by omega) rfl st62).mono ?_)
 rintro _ w63 ⟨h64, rest65, b66, rfl, le67, st68, hj69, hx70⟩
 refine ⟨_, rfl, ?_⟩
 refine zt<|Post.end0 Tryz.results127 ?_
 refine ⟨_, _, _, rfl, ((((le5.trans le14).trans le53).trans le58).trans le67), st68, ?_⟩
 cases e_ : b66
 ·exact .inr (hx70 e_)
 exact .inl ⟨_, rfl, by rw [← truthsFrom_nil]; exact hj69 e_⟩
end Go.Pk

namespace Go.Pk
open Go Go.RowKit Go.Proofs
theorem zgX {h : Heap} {w : World} (hs : Sub h w) {g : FuncId} {caps : List Value} {A : List (List Int) → Heap → Value → List Int → Prop} {T_ : List (List Int)} (eg : ∀ a w, (callFunc g a).run Tryz.prog w = .ok (.enter g a) w) (seq : GivesA Tryz.prog g caps A (fun xs => xs = T_) h) (hA : ∀ pre h u x, A pre h u x → Sl LInt h u x ∧ pre.length < 100000) (hT : T_.length ≤ 100000) : Calls Tryz.prog 143 #[.slice none 0 0, .func (.func g) #[] caps.toArray] w (Rets h w (fun h' _ res_ => ∃ u0, res_ = u0 ∧ Sl (LSl LInt) h' u0 (T_))) := by
 refine V.calls (n := 13) Tryz.func143 X X X<|have st0:=t_s0 hs;zhJ<|zdx X<|OpsL.boxO st0 (cs := [(.slice none 0 0)]) X X X<|fun b1 w2 st3=>zcz X X<|zt<|zcO<|zhJ<|zhJ<|zdx X<|zaa X X<|zt<|zcO<|V.block ?_
 have st4 := st3.snoc
 have f5 := OSl.nil (LSl LInt) 42 h
 refine V.rangeFuncP (I := fun xs h_ own_ => ∃ (v_ : Value) (o_ : List (Nat × Obj)), own_ = [[(b1, .cells (List.toArray [v_]) 91)], o_] ∧ OSl (LSl LInt) 42 h_ v_ xs o_) (Ix := fun _ _ _ _ => False) st4 rfl eg rfl (seq _ _ _ (Le.refl _)) (by rintro xs_ h1_ h2_ o1_ ⟨v_, o_, rfl, q_⟩ l_; exact ⟨v_, o_, rfl, q_.up l_⟩) (by intro _ _ _ _ _ h_ _; exact h_) ⟨.slice none 0 0, [], rfl, by exact OSl.nil (LSl LInt) 42 _⟩ ?_ ?_ ?_
 ·rintro l_ pre x h6 w7 _ tail u8 le9 ⟨v_, o_, rfl, hi11⟩ st10 hA12
  have hpl := (hA _ _ _ _ hA12).2
  refine zdx X<|zaj (v := u8) X X<|zt ?_
  refine APost.mk (own2 := [[(b1, .cells (List.toArray [v_]) 91)], o_]) (Le.refl _) st10 ?_
  intro tail15 w14 st13
  refine V.block<|zdx X<|zcp (st13.get (k := 0) X) X X Tryz.isAgg91 X<|zaa (v := u8) X X ?_
  refine zaL (L := (LSl LInt)) (xs := [x]) (cs := [u8]) st13 (Enc.cons (L := (LSl LInt)) (vs := [u8]) (x := x) (h := h6) (⟨_, rfl, (hA _ _ _ _ hA12).1⟩) Enc.nil) rfl rfl rfl zcm Tryz.info42 rfl rfl rfl (by obtain ⟨_, _, rfl⟩ := Sl.form (hA _ _ _ _ hA12).1; kernel_rfl) ?_
  intro v16 w17 h20 le21 f18 st19
  refine zaR (k := 1) (nb := 24) st19 (hi11.up le21) rfl f18 rfl rfl rfl zcm Tryz.info42 rfl rfl rfl (by decide) rfl (by simp only [List.length_append, List.length_cons, List.length_nil]; omega) (by simp only [List.length_append, List.length_cons, List.length_nil]; omega) ?_
  intro v22 o23 w24 _ e25 f26 st27
  subst e25
  refine zbR st27 (k := 0) X X (v := v22) X f26.one Tryz.sizeOf91 X X X<|fun w28 st29=>zt<|zhn ?_
  refine ziO (own3 := [[(b1, .cells (List.toArray [v22]) 91)], o23]) le21 st29 ⟨v22, o23, ?_, ?_⟩
  ·rfl
  ·exact OSl.to f26 rfl
 ·rintro D30 xs h31 w32 _ le33 hS34 ⟨v_, o_, rfl, hi35⟩ st36
  have hxe := hS34
  refine zhn<|zcO<|zhJ<|zdx X<|zcp (st36.get (k := 0) X) X X Tryz.isAgg91 X<|zaj (v := v_) X X<|zt<|zcO<|V.ret<|PostV.one (own := [[(b1, .cells (List.toArray [v_]) 91)], o_]) st36<|fun w38 st37=>zc Tryz.results143 ?_
  obtain ⟨h39, le40, f41, st42⟩ := OSl.freeze (k := 1) st37 hi35 rfl (by rw [hxe]; omega)
  refine ⟨h39, _, rfl, st42.done, ?_⟩
  refine ⟨_, rfl, Sl.to f41 ?_⟩
  exact hS34
 intro _ _ _ _ _ _ _ hf_; exact hf_.elim
theorem c_slices_Collect_Lint {h : Heap} {w : World} (hs : Sub h w) {g : FuncId} {caps : List Value} {A : List (List Int) → Heap → Value → List Int → Prop} {T_ : List (List Int)} (eg : ∀ a w, (callFunc g a).run Tryz.prog w = .ok (.enter g a) w) (seq : GivesA Tryz.prog g caps A (fun xs => xs = T_) h) (hA : ∀ pre h u x, A pre h u x → Sl LInt h u x ∧ pre.length < 100000) (hT : T_.length ≤ 100000) : Calls Tryz.prog 100 #[.func (.func g) #[] caps.toArray] w (Rets h w (fun h' _ res_ => ∃ u0, res_ = u0 ∧ Sl (LSl LInt) h' u0 (T_))) := by
 refine zS (n := 5) Tryz.func100 X X X<|have st0:=t_s0 hs;W.sr<|zcz X X<|Y<|W.sr<|zaa X X<|zn st0 X X X Tryz.call143 X (zgX st0.sub eg (seq.up (Le.refl _)) hA hT)<|fun r1 w2 h3 le4 st5 q6=> ?_
 obtain ⟨v7, e9, f8⟩ := q6
 rw [← e9] at f8
 have f8_b := f8.le
 refine zaj (v := r1) X X<|Y<|zB<|zc Tryz.results100 ?_
 refine ⟨h3, _, rfl, st5.done, ?_⟩
 refine ⟨_, rfl, Sl.to f8 ?_⟩
 rfl
theorem gives_truths {h : Heap} {p_b : Nat} {p : Poll} {p_v0 : Value} (p_f0 : Sl LChapter h p_v0 p.text.chapters) {p_v1 : Value} (p_f1 : Sl LRule h p_v1 p.lexicon.rules) {p_v2 : Value} (p_f2 : Sl LDecision h p_v2 p.lexicon.decisions) {p_v3 : Value} (p_f3 : Sl LQuestion h p_v3 p.questions) {p_v4 : Value} (p_f4 : Sl LVoter h p_v4 p.voters) (p_c : Cells h p_b 0 [p_v0, p_v1, p_v2, p_v3, p_v4]) (hp : zdh p = true) : GivesA Tryz.prog 127 [.pointer (some ⟨p_b, 0, none⟩)] (fun pre_ h_ u_ x_ => Sl LInt h_ u_ x_ ∧ (zas p)[pre_.length]? = some x_) (fun xs => xs = zas p) h := by
 intro h0 w0 h1 l1 l J Jx hm hxm hY h2 w rest l2 hJ st
 exact c_vote_count_truths_1 (p := p) (p_f0.up (l1.trans l2)) (p_f1.up (l1.trans l2)) (p_f2.up (l1.trans l2)) (p_f3.up (l1.trans l2)) (p_f4.up (l1.trans l2)) (p_c.up (l1.trans l2)) hm hxm hJ (fun _ _ _ _ _ _ _ l3 a b c => hY _ _ _ _ _ _ _ (l2.trans l3) a b c) hp st
theorem c_vote_count_truths {h : Heap} {w : World} (hs : Sub h w) {p : Poll} {p_v0 : Value} (p_f0 : Sl LChapter h p_v0 p.text.chapters) {p_v1 : Value} (p_f1 : Sl LRule h p_v1 p.lexicon.rules) {p_v2 : Value} (p_f2 : Sl LDecision h p_v2 p.lexicon.decisions) {p_v3 : Value} (p_f3 : Sl LQuestion h p_v3 p.questions) {p_v4 : Value} (p_f4 : Sl LVoter h p_v4 p.voters) : Calls Tryz.prog 92 #[.agg #[p_v0, p_v1, p_v2, p_v3, p_v4]] w (fun e_ w' => ∃ h' bo, e_ = .returned (.func (.func 127) #[] #[.pointer (some ⟨bo, 0, none⟩)]) ∧ Le h h' ∧ St h w h' w' [] ∧ Cells h' bo 0 [p_v0, p_v1, p_v2, p_v3, p_v4]) := by
 refine zS (n := 4) Tryz.func92 X X X<|have st0:=t_s0 hs;have p_f0_b:=p_f0.le;have p_f1_b:=p_f1.le;have p_f2_b:=p_f2.le;have p_f3_b:=p_f3.le;have p_f4_b:=p_f4.le;W.sr<|zG st0 (cs := [p_v0, p_v1, p_v2, p_v3, p_v4]) X X X<|fun b1 w2 h3 le4 hc5 st6=>zaj X X<|Y<|W.sr<|zdl X X X<|zq X X (r_asF X)<|Y<|zB<|zc Tryz.results92 ?_
 exact ⟨h3, _, rfl, le4, st6, hc5⟩
theorem c_vote_open {h : Heap} {w : World} (hs : Sub h w) {p : Poll} {p_v0 : Value} (p_f0 : Sl LChapter h p_v0 p.text.chapters) {p_v1 : Value} (p_f1 : Sl LRule h p_v1 p.lexicon.rules) {p_v2 : Value} (p_f2 : Sl LDecision h p_v2 p.lexicon.decisions) {p_v3 : Value} (p_f3 : Sl LQuestion h p_v3 p.questions) {p_v4 : Value} (p_f4 : Sl LVoter h p_v4 p.voters) (K1 : Cells h 1 0 Tryz.glob1) (K0 : Cells h 0 0 Tryz.glob0) : Calls Tryz.prog 91 #[.agg #[p_v0, p_v1, p_v2, p_v3, p_v4]] w (Rets h w (fun h' _ res_ => ∃ u0 u1 u2 u3 u4, res_ = .tuple #[.agg #[u0, u1, u2, u3, u4], .int .i64 (zev p)] ∧ Sl LChapter h' u0 (p).text.chapters ∧ Sl LRule h' u1 (p).lexicon.rules ∧ Sl LDecision h' u2 (p).lexicon.decisions ∧ Sl LQuestion h' u3 (p).questions ∧ Sl LVoter h' u4 (p).voters)) := by
 refine zS (n := 8) Tryz.func91 X X X<|have st0:=t_s0 hs;have p_f0_b:=p_f0.le;have p_f1_b:=p_f1.le;have p_f2_b:=p_f2.le;have p_f3_b:=p_f3.le;have p_f4_b:=p_f4.le;W.sr<|zG st0 (cs := [p_v0, p_v1, p_v2, p_v3, p_v4]) X X X<|fun b1 w2 h3 le4 hc5 st6=>zae st6 Tryz.zeroValue145 X X<|fun b7 w8 st9=>zz X X<|Y<|zj<|zbh (er := ([], [], [], [], 0)) (dsts := [4, 5, 6, 7, 3]) st9 Tryz.mixed<|zf 0 [] X t_kr t_kr X X (fun hD wD τD hL hS hO  => (zZ (hL.sub hS) hc5 X zbV zbm X)) ?_
 refine zf 1 [0] rfl t_kr t_kr rfl rfl (fun hD wD τD hL hS hO _ _ => (zbW (cs := [p_v0, p_v1, p_v2, p_v3, p_v4]) (by obtain ⟨_, _, rfl⟩ := Sl.form p_f0; obtain ⟨_, _, rfl⟩ := Sl.form p_f1; obtain ⟨_, _, rfl⟩ := Sl.form p_f2; obtain ⟨_, _, rfl⟩ := Sl.form p_f3; obtain ⟨_, _, rfl⟩ := Sl.form p_f4; kernel_rfl))) ?_
 refine zf 2 [] X t_kr t_kr X X (fun hD wD τD hL hS hO  => (zZ (hL.sub hS) hc5 X zbV zbm X)) ?_
 refine zax 3 (.det (.int .i64 (zev (p)))) [0] rfl t_kr t_kr ?_ ?_
 ·
  intro hD wD τD hL hS hO _ _
  have st10 := St.start hS
  refine zn st10 X X X Tryz.call40 X (c_vote_Check st10.sub (p := p) (p_f0.up (le4.trans hL)) (p_f1.up (le4.trans hL)) (p_f2.up (le4.trans hL)) (p_f3.up (le4.trans hL)) (p_f4.up (le4.trans hL)) (K1.up (le4.trans hL)) (K0.up (le4.trans hL)))<|fun r11 w12 h13 le14 st15 q16=> ?_
  obtain rfl := q16
  exact zt ⟨_, _, rfl, st15, (), rfl, trivial⟩
 refine zbx<|zf 5 [4, 3, 2, 1, 0] X t_kr t_kr X X (fun hD wD τD hL hS hO _ _ _ _ _ _ _ _ => (r_asI X))<|zbN X X X X X X ⟨t_kr, X, t_kr, X, t_kr, X, X, t_kr, (zbe X zcl)⟩<|fun hE18 w19 _ le20 st21 _ _ _ _ _ _=>zM st21 (k := 0) X X X (za p_f0.one (za p_f1.one (za p_f2.one (za p_f3.one (za p_f4.one zap))))) Tryz.sizeOf145 X X X<|fun w22 st23=> ?_
 obtain ⟨h24, le25, hb26, st28⟩ := st23.freeze (k := 0) rfl
 have hc27 := Cells.of hb26
 refine zt ⟨undef, rfl, _, _, le25, st28, ?_⟩
 intro hE29 w30 _ le31 st32 _ _ _ _ _ _ _ _ _ _
 refine AllDeps.fin X<|O<|zB<|zhK Tryz.results91 X Tryz.isAgg145 Tryz.sizeOf145 X st32.sub (hc27.up le31) ?_
 refine ⟨hE29, _, rfl, st32.done, ?_⟩
 refine ⟨_, _, _, _, _, tup2 ?_ (zar ?_), Sl.to (p_f0.up (((le4.trans le20).trans le25).trans le31)) ?_, Sl.to (p_f1.up (((le4.trans le20).trans le25).trans le31)) ?_, Sl.to (p_f2.up (((le4.trans le20).trans le25).trans le31)) ?_, Sl.to (p_f3.up (((le4.trans le20).trans le25).trans le31)) ?_, Sl.to (p_f4.up (((le4.trans le20).trans le25).trans le31)) ?_⟩
 all_goals rfl
theorem c_vote_all {h : Heap} {w : World} (hs : Sub h w) {p : Poll} {p_v0 : Value} (p_f0 : Sl LChapter h p_v0 p.text.chapters) {p_v1 : Value} (p_f1 : Sl LRule h p_v1 p.lexicon.rules) {p_v2 : Value} (p_f2 : Sl LDecision h p_v2 p.lexicon.decisions) {p_v3 : Value} (p_f3 : Sl LQuestion h p_v3 p.questions) {p_v4 : Value} (p_f4 : Sl LVoter h p_v4 p.voters) (so : Bool) (K1 : Cells h 1 0 Tryz.glob1) (K0 : Cells h 0 0 Tryz.glob0) : Calls Tryz.prog 54 #[.agg #[p_v0, p_v1, p_v2, p_v3, p_v4], .bool so] w (Rets h w (fun h' _ res_ => ∃ u0, res_ = .tuple #[u0, .int .i64 (allE p so)] ∧ Sl (LSl LInt) h' u0 ((allL p so)))) := by
 refine zS (n := 26) Tryz.func54 X X X<|have st0:=t_s0 hs;have p_f0_b:=p_f0.le;have p_f1_b:=p_f1.le;have p_f2_b:=p_f2.le;have p_f3_b:=p_f3.le;have p_f4_b:=p_f4.le;W.sr<|zG st0 (cs := [p_v0, p_v1, p_v2, p_v3, p_v4]) X X X<|fun b1 w2 h3 le4 hc5 st6=>zcz X X<|zz X X<|Y<|W.sr<|zy st6.sub hc5 X zbV zbm X X<|zn st6 X X X Tryz.call91 X (c_vote_open st6.sub (p := p) (p_f0.up le4) (p_f1.up le4) (p_f2.up le4) (p_f3.up le4) (p_f4.up le4) (K1.up le4) (K0.up le4))<|fun r7 w8 h9 le10 st11 q12=> ?_
 obtain ⟨v13, v15, v17, v19, v21, rfl, f14, f16, f18, f20, f22⟩ := q12
 have f14_b := f14.le
 have f16_b := f16.le
 have f18_b := f18.le
 have f20_b := f20.le
 have f22_b := f22.le
 refine zdu X X<|zak (v := (.agg (List.toArray _))) X X X<|zak (v := (.int _ _)) X X X<|zae st11 Tryz.zeroValue145 X X<|fun b23 w24 st25=>zM st25 (k := 0) X X X (za f14.one (za f16.one (za f18.one (za f20.one (za f22.one zap))))) Tryz.sizeOf145 X X X<|fun w26 st27=> ?_
 obtain ⟨h28, le29, hb30, st32⟩ := st27.freeze (k := 0) rfl
 have hc31 := Cells.of hb30
 refine zz X X<|Y<|zj<|W.sr<|zk X X<|zcF X X X<|Y ?_
 refine zH rfl (fun c33 => ?_) (fun c33 => ?_)
 ·
  refine W.sr<|zk X X<|zcz X X<|zz X X<|Y<|zB<|zd<|zbs Tryz.results54 ?_
  refine ⟨h28, _, rfl, st32.done, ?_⟩
  refine ⟨_, tup2 rfl (zar ?_), Sl.to (Sl.nil _ _) ?_⟩
  all_goals simp_all [allL, allE]
 refine zC<|O<|zj<|W.sr<|zai X X<|zbQ X X<|Y ?_
 refine zad rfl (fun c34 => ?_) (fun c34 => ?_)
 ·
  refine W.sr<|zcz X X<|zz X X<|Y<|zB<|zd<|zbs Tryz.results54 ?_
  refine ⟨h28, _, rfl, st32.done, ?_⟩
  refine ⟨_, tup2 rfl (zar ?_), Sl.to (Sl.nil _ _) ?_⟩
  all_goals simp_all [allL, allE]
 refine zC<|O<|zj ?_
 have hk1 : zev p = 0 := by simpa using c33
 have hpb := (zdj hk1).2
 have htl := zih hpb
 refine zo<|zy st32.sub hc31 X Tryz.isAgg145 Tryz.sizeOf145 X X ?_
 refine zaT rfl rfl (zbc rfl Tryz.call92 rfl) ((c_vote_count_truths st32.sub (p := (p)) (f14.up le29) (f16.up le29) (f18.up le29) (f20.up le29) (f22.up le29)).mono ?_)
 rintro _ w35 ⟨h36, bo37, rfl, le38, s39, hc40⟩
 refine ⟨_, rfl, ?_⟩
 have st41 := st32.call0 s39
 refine zn st41 rfl rfl rfl Tryz.call100 rfl (c_slices_Collect_Lint st41.sub Tryz.call127 (gives_truths (p := p) (f14.up (le29.trans le38)) (f16.up (le29.trans le38)) (f18.up (le29.trans le38)) (f20.up (le29.trans le38)) (f22.up (le29.trans le38)) hc40 hpb) (fun _ _ _ _ q_ => ⟨q_.1, by have q2_ := (List.getElem?_eq_some_iff.1 q_.2).1; omega⟩) (by omega)) ?_
 intro r42 w43 h44 le45 st46 q47
 obtain ⟨v48, e50, f49⟩ := q47
 rw [← e50] at f49
 have f49_b := f49.le
 refine zaj (v := r42) X X<|Y<|zj<|W.sr<|zaa (v := r42) X X<|zaJ f49 X zcm X<|zee X X X<|Y ?_
 refine zH rfl (fun c51 => ?_) (fun c51 => ?_)
 ·
  refine W.sr<|zcz X X<|zz X X<|Y<|zB<|zd<|zbs Tryz.results54 ?_
  refine ⟨h44, _, rfl, st46.done, ?_⟩
  refine ⟨_, tup2 rfl (zar ?_), Sl.to (Sl.nil _ _) ?_⟩
  all_goals simp_all [allL, allE]
 refine zC<|O<|W.sr<|zaa (v := r42) X X<|zaj (v := r42) X X<|zz X X<|Y<|zB<|zbs Tryz.results54 ?_
 refine ⟨h44, _, rfl, st46.done, ?_⟩
 refine ⟨_, tup2 rfl (zar ?_), Sl.to f49 ?_⟩
 all_goals simp_all [allL, allE]
end Go.Pk

namespace Go.Pk
open Go Go.RowKit Go.Proofs
theorem c_vote_settled {h : Heap} {w : World} (hs : Sub h w) {ts_v : Value} {ts : (List (List Int))} (ts_f : Sl (LSl LInt) h ts_v ts) {p_ : Nat} (hn : 0 < ts.length) (hl : ∀ t ∈ ts, t.length = p_) (hq : p_ ≤ 6) : Calls Tryz.prog 78 #[ts_v] w (Rets h w (fun h' _ res_ => ∃ u0, res_ = u0 ∧ Sl LInt h' u0 ((zbK ts)))) := by
 refine zS (n := 39) Tryz.func78 X X X<|have st0:=t_s0 hs;have ts_f_b:=ts_f.le;W.sr<|zcz X X<|Y<|zj ?_
 obtain ⟨a0, ha0⟩ : ∃ y, (ts)[0]? = some y := ⟨_, List.getElem?_eq_getElem (by omega)⟩
 refine zo<|have hla0:=hl a0 (List.mem_of_getElem? ha0);zaa (v := ts_v) X X ?_
 obtain ⟨b1, o2, _, he4, hc3, hr_a0⟩ := Sl.elem ts_f ha0
 obtain ⟨v5, rfl, f6⟩ := hr_a0
 have f6_b := f6.le
 refine zV he4 X X (hk := X) (hu := zcm) (hz := zcy) X<|E (j := 0) st0.sub hc3 X X X zcU X ?_
 refine zaT rfl rfl (zbc rfl Tryz.call109 rfl) ((zew st0.sub f6 (by have q2 := hl a0 (List.mem_of_getElem? ha0); omega)).mono ?_)
 rintro _ w8 ⟨h9, v7, o12, rfl, le10, s14, f13⟩
 refine ⟨_, rfl, ?_⟩
 have st11 := st0.call s14
 refine zaj (v := v7) X X<|Y<|zj<|W.sr<|zaa (v := ts_v) X X<|zaJ (ts_f.up le10) X zcm X<|zk X X<|Y<|zF ?_
 refine zat ([5, 6, 7] ++ t_rg 14 24) (G := Nat × List (Nat × Obj) × Heap) (fun ⟨i, o_3, h15⟩ => [(14, .int .i64 (i : Int))]) (fun ⟨i, o_3, h15⟩ w' => Le h9 h15 ∧ St h w h15 w' [o_3] ∧ (OSl LInt 3 h15 v7 ((setK (ts.take i) a0)) o_3) ∧ (i ≤ ts.length)) (fun ⟨i, o_3, h15⟩ => ts.length - i) ⟨0, o12, h9⟩ ⟨rfl, trivial⟩ ⟨Le.refl _, st11, (OSl.to f13 (by (rw [setK_nil]))), zaM⟩ ?_
 rintro ⟨i, o_3, h15⟩ _ w18 ⟨le16, st17, hO_3, hi⟩
 refine W.sr<|zaV X X X<|Y<|zj ?_
 refine zH rfl (fun c19 => ?_) (fun c19 => ?_)
 ·
  refine zC<|O<|zj<|zF<|W.sr ?_
  obtain ⟨t, ht⟩ : ∃ y_, (ts)[i]? = some y_ := t_ge (by omega)
  have l24 := le10.trans le16
  obtain ⟨b20, o21, _, he23, hc22, hr_t⟩ := Sl.elem (ts_f.up l24) ht
  obtain ⟨v25, rfl, f26⟩ := hr_t
  have f26_b := f26.le
  refine zV he23 X X (hk := X) (hu := zcm) (hz := zcy) X<|E (j := 0) st17.sub hc22 X X X zcU X<|zaj (v := v25) X X<|Y<|W.sr<|zaa (v := v25) X X<|zaJ f26 X zp X<|zk X X<|Y<|zF ?_
  refine zat ([6, 7] ++ t_rg 20 17) (G := Nat × List (Nat × Obj) × Heap) (fun ⟨k, o_3, h27⟩ => [(20, .int .i64 (k : Int))]) (fun ⟨k, o_3, h27⟩ w' => Le h15 h27 ∧ St h w h27 w' [o_3] ∧ (OSl LInt 3 h27 v7 ((setM ts a0 i k)) o_3) ∧ (k ≤ t.length)) (fun ⟨k, o_3, h27⟩ => t.length - k) ⟨0, o_3, h15⟩ ⟨rfl, trivial⟩ ⟨Le.refl _, st17, (OSl.to hO_3 (by exact (setM_zero _ _ _).symm)), zaM⟩ ?_
  rintro ⟨k, o_3, h27⟩ _ w30 ⟨le28, st29, hO_3, hk⟩
  have hml := setM_len ts a0 i k
  refine W.sr<|zaV X X X<|Y<|zj ?_
  refine zH rfl (fun c31 => ?_) (fun c31 => ?_)
  ·
   refine zC<|O<|zj<|zF<|W.sr<|zk X X ?_
   obtain ⟨x, hx⟩ : ∃ y_, (t)[k]? = some y_ := t_ge (by omega)
   obtain ⟨b32, o33, _, he35, hc34, hr_x⟩ := Sl.elem (f26.up le28) hx
   obtain rfl := hr_x
   refine zV he35 X X (hk := X) (hu := zp) (hz := zr) X<|E (j := 0) st29.sub hc34 X X X zN X<|zz X X<|zz X X<|Y<|W.sr<|zk X X<|zaa (v := ts_v) X X<|zV he4 X X (hk := X) (hu := zcm) (hz := zcy) X<|have l36:=l24.trans le28;E (j := 0) st29.sub (hc3.up l36) X X X zcU X<|zk X X ?_
   obtain ⟨y, hy⟩ : ∃ y_, (a0)[k]? = some y_ := t_ge (by have q1 := hl t (List.mem_of_getElem? ht); have q2 := hl a0 (List.mem_of_getElem? ha0); omega)
   obtain ⟨b37, o38, _, he40, hc39, hr_y⟩ := Sl.elem (f6.up l36) hy
   obtain rfl := hr_y
   refine zV he40 X X (hk := X) (hu := zp) (hz := zr) X<|E (j := 0) st29.sub hc39 X X X zN X<|zcF X X X<|Y ?_
   refine zH rfl (fun c41 => ?_) (fun c41 => ?_)
   ·
    refine zo<|zaa (v := v7) X X<|zk X X ?_
    obtain ⟨y42, hy42⟩ : ∃ y_, ((setM ts a0 i k))[k]? = some y_ := t_ge (by rw [setM_len]; have q1 := hl t (List.mem_of_getElem? ht); have q2 := hl a0 (List.mem_of_getElem? ha0); omega)
    obtain ⟨b43, o44, cur45, _, e48, he46, hr_y42, hc47⟩ := OSl.elem hO_3 hy42
    subst e48
    obtain rfl := hr_y42
    refine zV he46 X X (hk := X) (hu := zp) (hz := zr) X ?_
    refine zdi (k := 0) st29 hO_3 rfl (by rw [setM_len]; have q1 := hl t (List.mem_of_getElem? ht); have q2 := hl a0 (List.mem_of_getElem? ha0); omega) he46 rfl rfl (rfl) zr ?_
    intro o49 w50 _ e51 f52 st53
    subst e51
    refine zt<|zP<|O<|zo<|zaP X X t_om X<|zk X X<|Y ?_
    refine ⟨⟨k + 1, o49, h27⟩, ⟨rfl, trivial⟩, ?_, ⟨le28, st53, ?_, ?_⟩, ?_⟩
    ·exact zav
    ·refine OSl.to f52 ?_
     exact (setM_else ht hy hx c41).symm
    ·first | omega | (simp; omega)
    show t.length - ((k + 1)) < t.length - k
    omega
   refine zC<|zP<|O<|zo<|zaP X X t_om X<|zk X X<|Y ?_
   refine ⟨⟨k + 1, o_3, h27⟩, ⟨rfl, trivial⟩, ?_, ⟨le28, st29, ?_, ?_⟩, ?_⟩
   ·exact zav
   ·refine OSl.to hO_3 ?_
    exact (setM_same ht hy hx (by simpa using c41)).symm
   ·first | omega | (simp; omega)
   show t.length - ((k + 1)) < t.length - k
   omega
  refine zaC<|zh<|zh<|zah<|zP<|O<|zo<|zaP X X t_om X<|zk X X<|Y ?_
  refine ⟨⟨i + 1, o_3, h27⟩, ⟨rfl, trivial⟩, ?_, ⟨(le16.trans le28), st29, ?_, ?_⟩, ?_⟩
  ·exact zav
  ·refine OSl.to hO_3 ?_
   exact setM_end (by have q1 := hl t (List.mem_of_getElem? ht); omega)
  ·first | omega | (simp; omega)
  show ts.length - ((i + 1)) < ts.length - i
  omega
 refine zaC<|zh<|zh<|zah<|O<|W.sr<|zaa (v := v7) X X<|zaj (v := v7) X X<|Y<|zB<|zc Tryz.results78 ?_
 obtain ⟨h54, le55, f56, st57⟩ := OSl.freeze (k := 0) st17 hO_3 rfl (by rw [zeg]; omega)
 refine ⟨h54, _, rfl, st57.done, ?_⟩
 refine ⟨_, rfl, Sl.to f56 ?_⟩
 rw [zbK, ha0, List.take_of_length_le (by omega)]
end Go.Pk

namespace Go.Pk
open Go Go.RowKit Go.Proofs
set_option maxHeartbeats 1000000 in
theorem c_postilref07_Great {h : Heap} {w : World} (hs : Sub h w) {p : Poll} {p_v0 : Value} (p_f0 : Sl LChapter h p_v0 p.text.chapters) {p_v1 : Value} (p_f1 : Sl LRule h p_v1 p.lexicon.rules) {p_v2 : Value} (p_f2 : Sl LDecision h p_v2 p.lexicon.decisions) {p_v3 : Value} (p_f3 : Sl LQuestion h p_v3 p.questions) {p_v4 : Value} (p_f4 : Sl LVoter h p_v4 p.voters) : Calls Tryz.prog 15 #[.agg #[p_v0, p_v1, p_v2, p_v3, p_v4]] w (Rets h w (fun _ _ res_ => res_ = .bool ((!zfx p)))) := by
 refine zS (n := 79) Tryz.func15 X X X<|have st0:=t_s0 hs;have p_f0_b:=p_f0.le;have p_f1_b:=p_f1.le;have p_f2_b:=p_f2.le;have p_f3_b:=p_f3.le;have p_f4_b:=p_f4.le;W.sr<|zG st0 (cs := [p_v0, p_v1, p_v2, p_v3, p_v4]) X X X<|fun b1 w2 h3 le4 hc5 st6=>zJ X X<|Y<|zj<|W.sr<|U X zx X zac X X<|zab (j := 0) st6.sub hc5 (us := [p_v0]) X X zaO zac X X X<|zn st6 X X X Tryz.call50 X (c_postilref01_Great st6.sub (t := p.text) (p_f0.up le4))<|fun r7 w8 h9 le10 st11 q12=> ?_
 obtain rfl := q12
 refine zai X X ?_
 refine zaY (d := 9) rfl (fun g13 => ?_) (fun g13 => ?_)
 ·
  refine Z X X X X X<|Z X X X X X<|Z X X X X X<|zaf (v := (.bool _)) X X X<|zai X X<|Z X X X X X<|Z X X X X X<|Z X X X X X<|Z X X X X X<|zaf (v := (.bool _)) X X X<|zai X X<|Z X X X X X<|Z X X X X X<|Z X X X X X<|Z X X X X X<|zaf (v := (.bool _)) X X X<|Y ?_
  refine zad rfl (fun c14 => ?_) (fun c14 => ?_)
  ·
   refine W.sr<|zJ X X<|Y<|zB<|zd<|zc zeC ?_
   refine ⟨h9, _, rfl, st11.done, ?_⟩
   refine zw ?_
   rw [small_no p (.inl (by simp_all))]; rfl
  cases c14
 refine M X X X<|U X zx X zR X X<|M X X X<|zab (j := 1) st11.sub (hc5.up le10) (us := [p_v1, p_v2]) X X zaK zR X X X<|M X X X<|have l15:=le4.trans le10;zn st11 X X X Tryz.call51 X (c_postilref04_Great st11.sub (x := p.lexicon) (p_f1.up l15) (p_f2.up l15))<|fun r16 w17 h18 le19 st20 q21=> ?_
 obtain rfl := q21
 refine zX (v := (.bool _)) X X X<|zai X X ?_
 refine zaY (d := 14) rfl (fun g22 => ?_) (fun g22 => ?_)
 ·
  refine Z X X X X X<|Z X X X X X<|Z X X X X X<|Z X X X X X<|zaf (v := (.bool _)) X X X<|zai X X<|Z X X X X X<|Z X X X X X<|Z X X X X X<|Z X X X X X<|zaf (v := (.bool _)) X X X<|Y ?_
  refine zad rfl (fun c23 => ?_) (fun c23 => ?_)
  ·
   refine W.sr<|zJ X X<|Y<|zB<|zd<|zc zeC ?_
   refine ⟨h18, _, rfl, st20.done, ?_⟩
   refine zw ?_
   rw [small_no p (.inr (.inl (by simp_all)))]; rfl
  cases c23
 refine M X X X<|U X zx X zbd X X<|M X X X<|E (j := 3) st20.sub (hc5.up (le10.trans le19)) X X X zbv X<|M X X X<|have l24:=l15.trans le19;zaJ (p_f3.up l24) X zau X<|M X X X<|zdr X X X<|zX (v := (.bool _)) X X X<|zai X X ?_
 refine zaB (d := 20) rfl (fun g25 => ?_) (fun g25 => ?_)
 ·
  refine Z X X X X X<|Z X X X X X<|Z X X X X X<|Z X X X X X<|zaf (v := (.bool _)) X X X<|Y ?_
  refine zad rfl (fun c26 => ?_) (fun c26 => ?_)
  ·
   refine W.sr<|zJ X X<|Y<|zB<|zd<|zc zeC ?_
   refine ⟨h18, _, rfl, st20.done, ?_⟩
   refine zw ?_
   rw [small_no p (.inr (.inr (.inl (by omega))))]; rfl
  cases c26
 refine M X X X<|U X zx X zbp X X<|M X X X<|E (j := 4) st20.sub (hc5.up (le10.trans le19)) X X X zbI X<|M X X X<|zaJ (p_f4.up l24) X zaA X<|M X X X<|zdr X X X<|zX (v := (.bool _)) X X X<|Y ?_
 refine zH rfl (fun c27 => ?_) (fun c27 => ?_)
 ·
  refine W.sr<|zJ X X<|Y<|zB<|zd<|zc zeC ?_
  refine ⟨h18, _, rfl, st20.done, ?_⟩
  refine zw ?_
  rw [small_no p (.inr (.inr (.inr (by omega))))]; rfl
 refine zC<|O<|zj<|W.sr<|zz X X<|Y<|zF ?_
 refine zat ([2, 3, 4] ++ t_rg 26 38) (G := Nat × Heap) (fun ⟨i, h28⟩ => [(3, .int .i64 (i : Int))]) (fun ⟨i, h28⟩ w' => Le h18 h28 ∧ St h w h28 w' [] ∧ (i ≤ p.questions.length) ∧ ((p.questions.take i).all zhb = true)) (fun ⟨i, h28⟩ => p.questions.length - i) ⟨0, h18⟩ ⟨rfl, trivial⟩ ⟨Le.refl _, st20, zaM, zaM⟩ ?_
 rintro ⟨i, h28⟩ _ w31 ⟨le29, st30, hi, hA⟩
 refine zj<|W.sr<|zk X X<|U X zx X zbd X X<|E (j := 3) st30.sub (hc5.up ((le10.trans le19).trans le29)) X X X zbv X<|have l32:=l24.trans le29;zaJ (p_f3.up l32) X zau X<|zaV X X X<|Y ?_
 refine zH rfl (fun c33 => ?_) (fun c33 => ?_)
 ·
  refine zC<|O<|zj<|zF<|zj<|W.sr<|U X zx X zbd X X<|E (j := 3) st30.sub (hc5.up ((le10.trans le19).trans le29)) X X X zbv X<|zk X X ?_
  obtain ⟨q, hq⟩ : ∃ y_, (p.questions)[i]? = some y_ := t_ge (by omega)
  obtain ⟨b34, o35, _, he37, hc36, hr_q⟩ := Sl.elem (p_f3.up l32) hq
  obtain ⟨v38, rfl, f39⟩ := hr_q
  have f39_b := f39.le
  refine zV he37 X X (hk := X) (hu := zau) (hz := zbz) X<|U X zam X zbO X X<|E (j := 3) st30.sub hc36 X X X zca X<|zaJ f39 X zaE X<|zdr X X X<|Y ?_
  refine zH rfl (fun c40 => ?_) (fun c40 => ?_)
  ·
   refine W.sr<|zJ X X<|Y<|zB<|zd<|zI<|zd<|zd<|zI<|zd<|zc zeC ?_
   refine ⟨h28, _, rfl, st30.done, ?_⟩
   refine zw ?_
   rw [small_noq hq (small_q6 (by omega))]; rfl
  refine zC<|O<|W.sr<|zz X X<|Y<|zF ?_
  refine zat ([2, 4] ++ t_rg 41 23) (G := Nat × Heap) (fun ⟨k, h41⟩ => [(4, .int .i64 (k : Int))]) (fun ⟨k, h41⟩ w' => Le h28 h41 ∧ St h w h41 w' [] ∧ (k ≤ q.heads.length) ∧ (((q.heads.take k).all fun h => decide (h.stem.length ≤ 40)) = true)) (fun ⟨k, h41⟩ => q.heads.length - k) ⟨0, h28⟩ ⟨rfl, trivial⟩ ⟨Le.refl _, st30, zaM, zaM⟩ ?_
  rintro ⟨k, h41⟩ _ w44 ⟨le42, st43, hk, hB⟩
  refine zj<|W.sr<|zk X X<|U X zx X zbd X X<|have l45:=((le10.trans le19).trans le29).trans le42;E (j := 3) st43.sub (hc5.up l45) X X X zbv X<|zk X X<|zV he37 X X (hk := X) (hu := zau) (hz := zbz) X<|U X zam X zbO X X<|E (j := 3) st43.sub (hc36.up le42) X X X zca X<|zaJ (f39.up le42) X zaE X<|zaV X X X<|Y ?_
  refine zH rfl (fun c46 => ?_) (fun c46 => ?_)
  ·
   refine zC<|O<|zj<|zF<|W.sr<|U X zx X zbd X X<|E (j := 3) st43.sub (hc5.up l45) X X X zbv X<|zk X X<|zV he37 X X (hk := X) (hu := zau) (hz := zbz) X<|U X zam X zbO X X<|E (j := 3) st43.sub (hc36.up le42) X X X zca X<|zk X X ?_
   obtain ⟨hd, hhd⟩ : ∃ y_, (q.heads)[k]? = some y_ := t_ge (by omega)
   obtain ⟨b47, o48, _, he50, hc49, hr_hd⟩ := Sl.elem (f39.up le42) hhd
   obtain ⟨rfl, ls51, lu52⟩ := hr_hd
   simp only [big] at ls51
   refine zV he50 X X (hk := X) (hu := zaE) (hz := zT) X<|U X zbw X zW X X<|E (j := 0) st43.sub hc49 X X X zaw X<|zco X zaz X<|zdr X X X<|Y ?_
   refine zH rfl (fun c53 => ?_) (fun c53 => ?_)
   ·
    refine W.sr<|zJ X X<|Y<|zB<|zI<|zd<|zd<|zI<|zI<|zd<|zd<|zI<|zd<|zc zeC ?_
    refine ⟨h41, _, rfl, st43.done, ?_⟩
    refine zw ?_
    rw [small_noq hq (small_qh hhd (by omega))]; rfl
   refine zC<|zP<|O<|zo<|zk X X<|zaP X X t_om X<|zz X X<|Y ?_
   refine ⟨⟨k + 1, h41⟩, ⟨rfl, trivial⟩, ?_, ⟨le42, st43, ?_, ?_⟩, ?_⟩
   ·exact zav
   ·first | omega | (simp; omega)
   ·rw [all_snocB hhd, hB, Bool.true_and]; exact decide_eq_true (by omega)
   show q.heads.length - ((k + 1)) < q.heads.length - k
   omega
  refine zaC<|zh<|zh<|zah<|zP<|O<|zo<|zk X X<|zaP X X t_om X<|zz X X<|Y ?_
  refine ⟨⟨i + 1, h41⟩, ⟨rfl, trivial⟩, ?_, ⟨(le29.trans le42), st43, ?_, ?_⟩, ?_⟩
  ·exact zav
  ·first | omega | (simp; omega)
  ·rw [all_snocB hq, hA, Bool.true_and]; exact small_qy (by omega) hB (by omega)
  show p.questions.length - ((i + 1)) < p.questions.length - i
  omega
 refine zaC<|zh<|zh<|zah<|O<|zj<|W.sr<|zz X X<|Y<|zF ?_
 refine zat ([2, 5] ++ t_rg 64 15) (G := Nat × Heap) (fun ⟨j, h54⟩ => [(5, .int .i64 (j : Int))]) (fun ⟨j, h54⟩ w' => Le h28 h54 ∧ St h w h54 w' [] ∧ (j ≤ p.voters.length) ∧ ((p.voters.take j).all smallV = true)) (fun ⟨j, h54⟩ => p.voters.length - j) ⟨0, h28⟩ ⟨rfl, trivial⟩ ⟨Le.refl _, st30, zaM, zaM⟩ ?_
 rintro ⟨j, h54⟩ _ w57 ⟨le55, st56, hj, hV⟩
 refine zj<|W.sr<|zk X X<|U X zx X zbp X X<|have l58:=((le10.trans le19).trans le29).trans le55;E (j := 4) st56.sub (hc5.up l58) X X X zbI X<|have l59:=l32.trans le55;zaJ (p_f4.up l59) X zaA X<|zaV X X X<|Y ?_
 refine zH rfl (fun c60 => ?_) (fun c60 => ?_)
 ·
  refine zC<|O<|zj<|zF<|W.sr<|U X zx X zbp X X<|E (j := 4) st56.sub (hc5.up l58) X X X zbI X<|zk X X ?_
  obtain ⟨v, hv⟩ : ∃ y_, (p.voters)[j]? = some y_ := t_ge (by omega)
  obtain ⟨b61, o62, _, he64, hc63, hr_v⟩ := Sl.elem (p_f4.up l59) hv
  obtain ⟨v65, rfl, f66⟩ := hr_v
  have f66_b := f66.le
  refine zV he64 X X (hk := X) (hu := zaA) (hz := zbA) X<|U X zaU X zcy X X<|E (j := 2) st56.sub hc63 X X X zcU X<|zaJ f66 X zp X<|zdr X X X<|Y ?_
  refine zH rfl (fun c67 => ?_) (fun c67 => ?_)
  ·
   refine W.sr<|zJ X X<|Y<|zB<|zI<|zd<|zd<|zI<|zd<|zc zeC ?_
   refine ⟨h54, _, rfl, st56.done, ?_⟩
   refine zw ?_
   rw [small_nov hv (by omega)]; rfl
  refine zC<|zP<|O<|zo<|zk X X<|zaP X X t_om X<|zz X X<|Y ?_
  refine ⟨⟨j + 1, h54⟩, ⟨rfl, trivial⟩, ?_, ⟨le55, st56, ?_, ?_⟩, ?_⟩
  ·exact zav
  ·first | omega | (simp; omega)
  ·rw [all_snocB hv, hV, Bool.true_and]; exact decide_eq_true (by omega)
  show p.voters.length - ((j + 1)) < p.voters.length - j
  omega
 refine zaC<|zh<|zh<|zah<|O<|W.sr<|zJ X X<|Y<|zB<|zc zeC ?_
 refine ⟨h54, _, rfl, st56.done, ?_⟩
 refine zw ?_
 rw [small_yes (by simp_all) (by simp_all) (by omega) (by omega) hA (by omega) hV (by omega)]; rfl
theorem c_postilref07_Twin {h : Heap} {w : World} (hs : Sub h w) {p : Poll} {p_v0 : Value} (p_f0 : Sl LChapter h p_v0 p.text.chapters) {p_v1 : Value} (p_f1 : Sl LRule h p_v1 p.lexicon.rules) {p_v2 : Value} (p_f2 : Sl LDecision h p_v2 p.lexicon.decisions) {p_v3 : Value} (p_f3 : Sl LQuestion h p_v3 p.questions) {p_v4 : Value} (p_f4 : Sl LVoter h p_v4 p.voters) (hsm : zfx p = true) : Calls Tryz.prog 16 #[.agg #[p_v0, p_v1, p_v2, p_v3, p_v4]] w (Rets h w (fun h' _ res_ => ∃ u0 u1 u2 u3 u4, res_ = .agg #[u0, u1, u2, u3, u4] ∧ Sl LChapter h' u0 (p).text.chapters ∧ Sl LRule h' u1 (p).lexicon.rules ∧ Sl LDecision h' u2 (p).lexicon.decisions ∧ Sl LQuestion h' u3 (p).questions ∧ Sl LVoter h' u4 (p).voters)) := by
 refine zS (n := 68) Tryz.func16 X X X ?_
 have st0 := t_s0 hs
 have p_f0_b := p_f0.le
 have p_f1_b := p_f1.le
 have p_f2_b := p_f2.le
 have p_f3_b := p_f3.le
 have p_f4_b := p_f4.le
 obtain ⟨hs1, hs2, hs3, hs4⟩ := smallP_len hsm
 refine W.sr<|zG st0 (cs := [p_v0, p_v1, p_v2, p_v3, p_v4]) X X X<|fun b1 w2 h3 le4 hc5 st6=>zae st6 Tryz.zeroValue32 X X<|fun b7 w8 st9=>Y<|zj<|zbh (er := ([], [], [], [], 0)) (dsts := [7, 8, 9, 10, 11, 12, 13, 3]) st9 Tryz.mixed<|zf 0 [] X t_kr t_kr X X (fun hD wD τD hL hS hO  => (zL X zx X zac X))<|zf 1 [0] X t_kr t_kr X X (fun hD wD τD hL hS hO _ _ => (zbL (j := 0) (hL.sub hS) hc5 (us := [p_v0]) X X zaO zac X X)) ?_
 refine zax 2 (.res (fun h' res_ => ∃ gv2_0, res_ = .agg #[gv2_0] ∧ Sl LChapter h' gv2_0 ((p.text)).chapters) (by rintro _ _ _ hl ⟨gv2_0, e_, gf2_0⟩; exact ⟨gv2_0, e_, gf2_0.up hl⟩)) [0] rfl t_kr t_kr ?_ ?_
 ·
  intro hD wD τD hL hS hO _ _
  have st10 := St.start hS
  refine zn st10 rfl rfl rfl Tryz.call52 rfl (c_postilref01_Twin st10.sub (t := p.text) (p_f0.up (le4.trans hL)) (by exact hs1)) ?_
  intro r11 w12 h13 le14 st15 q16
  obtain ⟨v17, rfl, f18⟩ := q16
  have f18_b := f18.le
  exact zt ⟨_, _, rfl, st15, _, rfl, ⟨_, rfl, f18⟩⟩
 refine zf 3 [] X t_kr t_kr X X (fun hD wD τD hL hS hO  => (zL X zx X zR X))<|zf 4 [0] X t_kr t_kr X X (fun hD wD τD hL hS hO _ _ => (zbL (j := 1) (hL.sub hS) hc5 (us := [p_v1, p_v2]) X X zaK zR X X)) ?_
 refine zax 5 (.res (fun h' res_ => ∃ gv5_0 gv5_1, res_ = .agg #[gv5_0, gv5_1] ∧ Sl LRule h' gv5_0 ((p.lexicon)).rules ∧ Sl LDecision h' gv5_1 ((p.lexicon)).decisions) (by rintro _ _ _ hl ⟨gv5_0, gv5_1, e_, gf5_0, gf5_1⟩; exact ⟨gv5_0, gv5_1, e_, gf5_0.up hl, gf5_1.up hl⟩)) [0, 2] rfl t_kr t_kr ?_ ?_
 ·
  intro hD wD τD hL hS hO _ _ gv2_ gf2_
  obtain ⟨gv2_0, rfl, gf2_0⟩ := gf2_
  have st19 := St.start hS
  refine zn st19 rfl rfl rfl Tryz.call53 rfl (zhF st19.sub (x := p.lexicon) (p_f1.up (le4.trans hL)) (p_f2.up (le4.trans hL)) (by exact hs2)) ?_
  intro r20 w21 h22 le23 st24 q25
  obtain ⟨v26, v28, rfl, f27, f29⟩ := q25
  have f27_b := f27.le
  have f29_b := f29.le
  exact zt ⟨_, _, rfl, st24, _, rfl, ⟨_, _, rfl, f27, f29⟩⟩
 refine zax 6 (.res (fun h' res_ => ∃ gv6_0 gv6_1 gv6_2, res_ = .agg #[gv6_0, gv6_1, gv6_2, (.slice none 0 0), (.slice none 0 0)] ∧ Sl LChapter h' gv6_0 ((Poll.mk (Text.mk (((p.text)).chapters)) (Lexicon.mk (((p.lexicon)).rules) (((p.lexicon)).decisions)) [] [])).text.chapters ∧ Sl LRule h' gv6_1 ((Poll.mk (Text.mk (((p.text)).chapters)) (Lexicon.mk (((p.lexicon)).rules) (((p.lexicon)).decisions)) [] [])).lexicon.rules ∧ Sl LDecision h' gv6_2 ((Poll.mk (Text.mk (((p.text)).chapters)) (Lexicon.mk (((p.lexicon)).rules) (((p.lexicon)).decisions)) [] [])).lexicon.decisions) (by rintro _ _ _ hl ⟨gv6_0, gv6_1, gv6_2, e_, gf6_0, gf6_1, gf6_2⟩; exact ⟨gv6_0, gv6_1, gv6_2, e_, gf6_0.up hl, gf6_1.up hl, gf6_2.up hl⟩)) [3, 0] rfl t_kr t_kr ?_ ?_
 ·
  intro hD wD τD hL hS hO gv2_ gf2_ gv5_ gf5_
  obtain ⟨gv2_0, rfl, gf2_0⟩ := gf2_
  obtain ⟨gv5_0, gv5_1, rfl, gf5_0, gf5_1⟩ := gf5_
  have st30 := St.start hS
  refine zq rfl rfl (zbW (cs := [gv2_0, gv5_0, gv5_1, (.slice none 0 0), (.slice none 0 0)]) (by obtain ⟨_, _, rfl⟩ := Sl.form gf2_0; obtain ⟨_, _, rfl⟩ := Sl.form gf5_0; obtain ⟨_, _, rfl⟩ := Sl.form gf5_1; kernel_rfl)) ?_
  exact zt ⟨_, _, rfl, st30, _, rfl, ⟨_, _, _, rfl, gf2_0, gf5_0, gf5_1⟩⟩
 refine zhL Tryz.zeroValue32 X<|zbx<|zbN X X X X X X ⟨t_kr, X, t_kr, X, t_kr, X, X, t_kr, (zbe X zcl)⟩<|fun b31=>fun hE33 w34 _ le35 st36 _ _ _ _ gv2_x32 gf2_x32 _ _ _ _ gv5_x32 gf5_x32 gv6_x32 gf6_x32=> ?_
 obtain ⟨gv2_0x32, rfl, gf2_0x32⟩ := gf2_x32
 obtain ⟨gv5_0x32, gv5_1x32, rfl, gf5_0x32, gf5_1x32⟩ := gf5_x32
 obtain ⟨gv6_0x32, gv6_1x32, gv6_2x32, rfl, gf6_0x32, gf6_1x32, gf6_2x32⟩ := gf6_x32
 refine zM st36 (k := 1) X X X (za gf6_0x32.one (za gf6_1x32.one (za gf6_2x32.one (za X (za X zap))))) zbm X X X<|fun w37 st38=> ?_
 refine zt ⟨undef, rfl, _, _, Le.refl _, st38, ?_⟩
 intro hE39 w40 _ le41 st42 _ _ _ _ gv2_x43 gf2_x43 _ _ _ _ gv5_x43 gf5_x43 gv6_x43 gf6_x43
 obtain ⟨gv2_0x43, rfl, gf2_0x43⟩ := gf2_x43
 obtain ⟨gv5_0x43, gv5_1x43, rfl, gf5_0x43, gf5_1x43⟩ := gf5_x43
 obtain ⟨gv6_0x43, gv6_1x43, gv6_2x43, rfl, gf6_0x43, gf6_1x43, gf6_2x43⟩ := gf6_x43
 refine AllDeps.fin X<|O<|zj<|W.sr<|zz X X<|Y<|zF ?_
 have st47 := st42.snoc
 have f48 := OSl.nil LQuestion 84 hE39
 refine zat ([4] ++ t_rg 14 27) (G := Nat × Value × List (Nat × Obj) × Heap) (fun ⟨i, v_c1_3, o_c1_3, h44⟩ => [(4, .int .i64 (i : Int))]) (fun ⟨i, v_c1_3, o_c1_3, h44⟩ w' => Le hE39 h44 ∧ St h w h44 w' [[(b7, .cells (List.toArray [(.slice none 0 0), (.slice none 0 0), (.slice none 0 0), (.slice none 0 0), (.slice none 0 0)]) 32)], [(b31, .cells (List.toArray [gv6_0x32, gv6_1x32, gv6_2x32, v_c1_3, (.slice none 0 0)]) 32)], o_c1_3] ∧ (OSl LQuestion 84 h44 v_c1_3 (p.questions.take i) o_c1_3) ∧ (i ≤ p.questions.length)) (fun ⟨i, v_c1_3, o_c1_3, h44⟩ => p.questions.length - i) ⟨0, (.slice none 0 0), [], hE39⟩ ⟨rfl, trivial⟩ ⟨Le.refl _, st47, (OSl.to f48 (by simp)), zaM⟩ ?_
 rintro ⟨i, v_c1_3, o_c1_3, h44⟩ _ w49 ⟨le45, st46, hO_c1_3, hi⟩
 refine zj<|W.sr<|zk X X<|U X zx X zbd X X<|E (j := 3) st46.sub (hc5.up ((le35.trans le41).trans le45)) X X X zbv X<|have l50:=((le4.trans le35).trans le41).trans le45;zaJ (p_f3.up l50) X zau X<|zaV X X X<|Y ?_
 refine zH rfl (fun c51 => ?_) (fun c51 => ?_)
 ·
  refine zC<|O<|zj<|zF ?_
  obtain ⟨q, hq⟩ : ∃ y_, (p.questions)[i]? = some y_ := t_ge (by omega)
  obtain ⟨b52, o53, _, he55, hc54, hr_q⟩ := Sl.elem (p_f3.up l50) hq
  obtain ⟨v56, rfl, f57⟩ := hr_q
  have f57_b := f57.le
  have hqh := smallP_q hsm hq
  refine zbh (er := ([1], [], [], [], 0)) (dsts := [21, 22, 23, 24, 25, 26, 27, 28, 29, 30, 31, 32, 33, 34, 35, 36, 37, 38, 39, 40]) st46 Tryz.mixed<|zf 0 [] X t_kr t_kr X X (fun hD wD τD hL hS hO  => (zL X zx X zbd X))<|zf 1 [0] X t_kr t_kr X X (fun hD wD τD hL hS hO _ _ => (zfk ((hO X).get (k := 1) X) X X zbv))<|zf 2 [] X t_kr t_kr X X (fun hD wD τD hL hS hO  => (zL X zx X zbd X))<|zf 3 [0] X t_kr t_kr X X (fun hD wD τD hL hS hO _ _ => (ze (j := 3) (hL.sub hS) (hc5.up ((le35.trans le41).trans le45)) X X X zbv))<|zf 4 [] X t_kr t_kr X X (fun hD wD τD hL hS hO  => (zdP X))<|zf 5 [1, 0] X t_kr t_kr X X (fun hD wD τD hL hS hO _ _ _ _ => (zao he55 X X (hk := X) (hu := zau) (hz := zbz)))<|zf 6 [0] X t_kr t_kr X X (fun hD wD τD hL hS hO _ _ => (zL X zam X zO X))<|zf 7 [0] X t_kr t_kr X X (fun hD wD τD hL hS hO _ _ => (zbL (j := 0) (hL.sub hS) hc54 (us := [.int .i64 (q.at_.chapter), .int .i64 (q.at_.line), .int .i64 (q.at_.word)]) X X zaD zO X X)) ?_
  refine zax 8 (.res (fun _ res_ => ∃ p, res_ = .slice p 0 0) (fun _ _ _ _ f => f)) [] rfl t_kr t_kr ?_ ?_
  ·
   intro hD wD τD hL hS hO 
   have st58 := St.start hS
   refine zfj st58 X ⟨_, zT⟩ zaE<|fun v59 w60 f61 st62=> ?_
   exact zt ⟨_, _, rfl, st62, _, rfl, f61⟩
  refine zf 9 [] X t_kr t_kr X X (fun hD wD τD hL hS hO  => (zL X zx X zbd X))<|zf 10 [0] X t_kr t_kr X X (fun hD wD τD hL hS hO _ _ => (ze (j := 3) (hL.sub hS) (hc5.up ((le35.trans le41).trans le45)) X X X zbv))<|zf 11 [] X t_kr t_kr X X (fun hD wD τD hL hS hO  => (zdP X))<|zf 12 [1, 0] X t_kr t_kr X X (fun hD wD τD hL hS hO _ _ _ _ => (zao he55 X X (hk := X) (hu := zau) (hz := zbz)))<|zf 13 [0] X t_kr t_kr X X (fun hD wD τD hL hS hO _ _ => (zL X zam X zbO X))<|zf 14 [0] X t_kr t_kr X X (fun hD wD τD hL hS hO _ _ => (ze (j := 3) (hL.sub hS) hc54 X X X zca)) ?_
  refine zax 15 (.res (fun h' res_ => Sl LHead h' res_ q.heads) (fun _ _ _ hl f => f.up hl)) [6, 0] rfl t_kr t_kr ?_ ?_
  ·
   intro hD wD τD hL hS hO gv8_ gf8_ _ _
   have st63 := St.start hS
   have st64 := st63.snoc
   have f65 := OSl.nil LHead 72 hD
   have f66 := OSl.nil0 LHead 72 hD gf8_
   refine zaR (k := 0) (nb := 24) st64 f66 rfl (f57.up hL) rfl rfl rfl zaE Tryz.info72 rfl rfl rfl (by decide) rfl (by simp only [List.length_take, List.length_append, List.length_cons, List.length_nil, List.nil_append]; omega) (by simp only [List.length_take, List.length_append, List.length_cons, List.length_nil, List.nil_append]; omega) ?_
   intro v67 o68 w69 _ e70 f71 st72
   subst e70
   obtain ⟨h73, le74, f75, st76⟩ := OSl.freeze (k := 0) st72 f71 rfl (by simp only [List.length_take, List.length_append, List.length_cons, List.length_nil, List.nil_append]; omega)
   exact zt ⟨_, _, rfl, st76.done, _, rfl, f75⟩
  refine zax 16 (.res (fun h' res_ => ∃ gv16_0, res_ = .agg #[.int .i64 ((Question.mk (q.at_) (q.heads))).at_.chapter, .int .i64 ((Question.mk (q.at_) (q.heads))).at_.line, .int .i64 ((Question.mk (q.at_) (q.heads))).at_.word, gv16_0] ∧ Sl LHead h' gv16_0 ((Question.mk (q.at_) (q.heads))).heads) (by rintro _ _ _ hl ⟨gv16_0, e_, gf16_0⟩; exact ⟨gv16_0, e_, gf16_0.up hl⟩)) [8, 0] rfl t_kr t_kr ?_ ?_
  ·
   intro hD wD τD hL hS hO _ _ gv15_0 gf15_0
   have st77 := St.start hS
   refine zq rfl rfl (zbW (cs := [.int .i64 (q.at_.chapter), .int .i64 (q.at_.line), .int .i64 (q.at_.word), gv15_0]) (by obtain ⟨_, _, rfl⟩ := Sl.form gf15_0; kernel_rfl)) ?_
   exact zt ⟨_, _, rfl, st77, _, rfl, ⟨_, rfl, gf15_0⟩⟩
  refine zax 17 (.res (fun h' res_ => Sl LQuestion h' res_ ([(Question.mk (q.at_) (q.heads))])) (fun _ _ _ hl f => f.up hl)) [0] rfl t_kr t_kr ?_ ?_
  ·
   intro hD wD τD hL hS hO gv16_ gf16_
   obtain ⟨gv16_0, rfl, gf16_0⟩ := gf16_
   have st78 := St.start hS
   refine zaL (L := LQuestion) (xs := [(Question.mk (q.at_) (q.heads))]) (cs := [.int .i64 ((Question.mk (q.at_) (q.heads))).at_.chapter, .int .i64 ((Question.mk (q.at_) (q.heads))).at_.line, .int .i64 ((Question.mk (q.at_) (q.heads))).at_.word, gv16_0]) st78 (Enc.cons (L := LQuestion) (vs := [.int .i64 ((Question.mk (q.at_) (q.heads))).at_.chapter, .int .i64 ((Question.mk (q.at_) (q.heads))).at_.line, .int .i64 ((Question.mk (q.at_) (q.heads))).at_.word, gv16_0]) (x := (Question.mk (q.at_) (q.heads))) (h := hD) (⟨_, X, gf16_0⟩) Enc.nil) X X X zau Tryz.info84 X X X t_kr<|fun v79 w80 h83 le84 f81 st82=> ?_
   exact zt ⟨_, _, rfl, st82, _, rfl, f81⟩
  refine zbx<|zf 19 [18, 17, 16, 15, 14, 13, 12, 11, 10, 9, 8, 7, 6, 5, 4, 3, 2, 1, 0] X t_kr t_kr X X (fun hD wD τD hL hS hO _ _ _ _ _ _ _ _ _ _ _ _ _ _ _ _ gv8_ gf8_ _ _ _ _ _ _ _ _ _ _ _ _ gv15_0 gf15_0 gv16_ gf16_ gv17_0 gf17_0 => (zL X zx X zbd X))<|zbx<|zbN X X X X X X ⟨t_kr, X, t_kr, X, t_kr, X, X, t_kr, (zbe X (zbe X zcl))⟩<|fun hE86 w87 _ le88 st89 _ _ gv17_0x85 gf17_0x85 gv15_0x85 gf15_0x85=> ?_
  refine zaR (k := 2) (nb := 48) st89 (hO_c1_3.up le88) rfl gf17_0x85 rfl rfl rfl zau Tryz.info84 rfl rfl rfl (by decide) rfl (by simp only [List.length_take, List.length_append, List.length_cons, List.length_nil, List.nil_append]; omega) (by simp only [List.length_take, List.length_append, List.length_cons, List.length_nil, List.nil_append]; omega) ?_
  intro v90 o91 w92 _ e93 f94 st95
  subst e93
  refine zt ⟨_, rfl, _, _, Le.refl _, st95, ?_⟩
  intro hE97 w98 _ le99 st100 _ _ _ _ _ _ _ _ _ _ _ _ _ _ _ _ _ _ gv8_x96 gf8_x96 _ _ _ _ _ _ _ _ _ _ _ _ gv15_0x96 gf15_0x96 gv16_x96 gf16_x96 gv17_0x96 gf17_0x96
  obtain ⟨gv16_0x96, rfl, gf16_0x96⟩ := gf16_x96
  refine zbR st100 (k := 1) X X (v := v90) X f94.one zbd X X X<|fun w101 st102=> ?_
  refine zt ⟨undef, rfl, _, _, Le.refl _, st102, ?_⟩
  intro hE103 w104 _ le105 st106 _ _ _ _ _ _ _ _ _ _ _ _ _ _ _ _ gv8_x107 gf8_x107 _ _ _ _ _ _ _ _ _ _ _ _ gv15_0x107 gf15_0x107 gv16_x107 gf16_x107 gv17_0x107 gf17_0x107 _ _
  obtain ⟨gv16_0x107, rfl, gf16_0x107⟩ := gf16_x107
  refine AllDeps.fin X<|zP<|O<|zo<|zk X X<|zaP X X t_om X<|zz X X<|Y ?_
  have l108 := ((le45.trans le88).trans le99).trans le105
  refine ⟨⟨i + 1, v90, o91, hE103⟩, ⟨rfl, trivial⟩, ?_, ⟨l108, st106, ?_, ?_⟩, ?_⟩
  ·exact zav
  ·refine OSl.to (f94.up (le99.trans le105)) ?_
   rw [zbb hq]
  ·first | omega | (simp; omega)
  show p.questions.length - ((i + 1)) < p.questions.length - i
  omega
 refine zaC<|zh<|zh<|zah<|O<|zj<|W.sr<|zz X X<|Y<|zF ?_
 have st112 := st46.snoc
 have f113 := OSl.nil LVoter 79 h44
 refine zat ([5, 6] ++ t_rg 41 26) (G := Nat × Value × List (Nat × Obj) × Heap) (fun ⟨k, v_c1_4, o_c1_4, h109⟩ => [(5, .int .i64 (k : Int))]) (fun ⟨k, v_c1_4, o_c1_4, h109⟩ w' => Le h44 h109 ∧ St h w h109 w' [[(b7, .cells (List.toArray [(.slice none 0 0), (.slice none 0 0), (.slice none 0 0), (.slice none 0 0), (.slice none 0 0)]) 32)], [(b31, .cells (List.toArray [gv6_0x32, gv6_1x32, gv6_2x32, v_c1_3, v_c1_4]) 32)], o_c1_3, o_c1_4] ∧ (OSl LVoter 79 h109 v_c1_4 (p.voters.take k) o_c1_4) ∧ (k ≤ p.voters.length)) (fun ⟨k, v_c1_4, o_c1_4, h109⟩ => p.voters.length - k) ⟨0, (.slice none 0 0), [], h44⟩ ⟨rfl, trivial⟩ ⟨Le.refl _, st112, (OSl.to f113 (by simp)), zaM⟩ ?_
 rintro ⟨k, v_c1_4, o_c1_4, h109⟩ _ w114 ⟨le110, st111, hO_c1_4, hk⟩
 refine zj<|W.sr<|zk X X<|U X zx X zbp X X<|have l115:=((le35.trans le41).trans le45).trans le110;E (j := 4) st111.sub (hc5.up l115) X X X zbI X<|have l116:=l50.trans le110;zaJ (p_f4.up l116) X zaA X<|zaV X X X<|Y ?_
 refine zH rfl (fun c117 => ?_) (fun c117 => ?_)
 ·
  refine zC<|O<|zj<|zF<|W.sr<|U X zx X zbp X X<|E (j := 4) st111.sub (hc5.up l115) X X X zbI X<|zk X X ?_
  obtain ⟨v, hv⟩ : ∃ y_, (p.voters)[k]? = some y_ := t_ge (by omega)
  obtain ⟨b118, o119, _, he121, hc120, hr_v⟩ := Sl.elem (p_f4.up l116) hv
  obtain ⟨v122, rfl, f123⟩ := hr_v
  have f123_b := f123.le
  refine zV he121 X X (hk := X) (hu := zaA) (hz := zbA) X<|have hvh:=smallP_v hsm hv;zy st111.sub hc120 X Tryz.isAgg79 zbA X X<|zae st111 Tryz.zeroValue79 X X<|fun b124 w125 st126=>zM st126 (k := 4) X X X (za X (za X (za f123.one zap))) zbA X X X<|fun w127 st128=> ?_
  obtain ⟨h129, le130, hb131, st133⟩ := st128.freeze (k := 4) rfl
  have hc132 := Cells.of hb131
  refine Y<|zbh (er := ([1], [], [], [], 0)) (dsts := [53, 54, 55, 56, 57, 58, 59, 60, 61, 62, 63, 64, 65, 66]) st133 Tryz.mixed<|zf 0 [] X t_kr t_kr X X (fun hD wD τD hL hS hO  => (zL X zx X zbp X))<|zf 1 [0] X t_kr t_kr X X (fun hD wD τD hL hS hO _ _ => (zfk ((hO X).get (k := 1) X) X X zbI))<|zf 2 [] X t_kr t_kr X X (fun hD wD τD hL hS hO  => (zL X zaU X zr X))<|zf 3 [0] X t_kr t_kr X X (fun hD wD τD hL hS hO _ _ => (ze (j := 0) (hL.sub hS) hc132 X X X zN))<|zf 4 [] X t_kr t_kr X X (fun hD wD τD hL hS hO  => (zL X zaU X zr X))<|zf 5 [0] X t_kr t_kr X X (fun hD wD τD hL hS hO _ _ => (ze (j := 1) (hL.sub hS) hc132 X X X zN)) ?_
  refine zax 6 (.res (fun _ res_ => ∃ p, res_ = .slice p 0 0) (fun _ _ _ _ f => f)) [] rfl t_kr t_kr ?_ ?_
  ·
   intro hD wD τD hL hS hO 
   have st134 := St.start hS
   refine zfj st134 X ⟨_, zr⟩ zp<|fun v135 w136 f137 st138=> ?_
   exact zt ⟨_, _, rfl, st138, _, rfl, f137⟩
  refine zf 7 [] X t_kr t_kr X X (fun hD wD τD hL hS hO  => (zL X zaU X zcy X))<|zf 8 [0] X t_kr t_kr X X (fun hD wD τD hL hS hO _ _ => (ze (j := 2) (hL.sub hS) hc132 X X X zcU)) ?_
  refine zax 9 (.res (fun h' res_ => Sl LInt h' res_ v.votes) (fun _ _ _ hl f => f.up hl)) [2, 0] rfl t_kr t_kr ?_ ?_
  ·
   intro hD wD τD hL hS hO gv6_ gf6_ _ _
   have st139 := St.start hS
   have st140 := st139.snoc
   have f141 := OSl.nil LInt 3 hD
   have f142 := OSl.nil0 LInt 3 hD gf6_
   refine zaR (k := 0) (nb := 8) st140 f142 rfl (f123.up (le130.trans hL)) rfl rfl rfl zp Tryz.info3 rfl rfl rfl (by decide) rfl (by simp only [List.length_take, List.length_append, List.length_cons, List.length_nil, List.nil_append]; omega) (by simp only [List.length_take, List.length_append, List.length_cons, List.length_nil, List.nil_append]; omega) ?_
   intro v143 o144 w145 _ e146 f147 st148
   subst e146
   obtain ⟨h149, le150, f151, st152⟩ := OSl.freeze (k := 0) st148 f147 rfl (by simp only [List.length_take, List.length_append, List.length_cons, List.length_nil, List.nil_append]; omega)
   exact zt ⟨_, _, rfl, st152.done, _, rfl, f151⟩
  refine zax 10 (.res (fun h' res_ => ∃ gv10_0, res_ = .agg #[.int .i64 ((Voter.mk ((v.id)) ((v.wrong)) (v.votes))).id, .int .i64 ((Voter.mk ((v.id)) ((v.wrong)) (v.votes))).wrong, gv10_0] ∧ Sl LInt h' gv10_0 ((Voter.mk ((v.id)) ((v.wrong)) (v.votes))).votes) (by rintro _ _ _ hl ⟨gv10_0, e_, gf10_0⟩; exact ⟨gv10_0, e_, gf10_0.up hl⟩)) [6, 4, 0] rfl t_kr t_kr ?_ ?_
  ·
   intro hD wD τD hL hS hO _ _ _ _ gv9_0 gf9_0
   have st153 := St.start hS
   refine zq rfl rfl (zbW (cs := [.int .i64 (v.id), .int .i64 (v.wrong), gv9_0]) (by obtain ⟨_, _, rfl⟩ := Sl.form gf9_0; kernel_rfl)) ?_
   exact zt ⟨_, _, rfl, st153, _, rfl, ⟨_, rfl, gf9_0⟩⟩
  refine zax 11 (.res (fun h' res_ => Sl LVoter h' res_ ([(Voter.mk ((v.id)) ((v.wrong)) (v.votes))])) (fun _ _ _ hl f => f.up hl)) [0] rfl t_kr t_kr ?_ ?_
  ·
   intro hD wD τD hL hS hO gv10_ gf10_
   obtain ⟨gv10_0, rfl, gf10_0⟩ := gf10_
   have st154 := St.start hS
   refine zaL (L := LVoter) (xs := [(Voter.mk ((v.id)) ((v.wrong)) (v.votes))]) (cs := [.int .i64 ((Voter.mk ((v.id)) ((v.wrong)) (v.votes))).id, .int .i64 ((Voter.mk ((v.id)) ((v.wrong)) (v.votes))).wrong, gv10_0]) st154 (Enc.cons (L := LVoter) (vs := [.int .i64 ((Voter.mk ((v.id)) ((v.wrong)) (v.votes))).id, .int .i64 ((Voter.mk ((v.id)) ((v.wrong)) (v.votes))).wrong, gv10_0]) (x := (Voter.mk ((v.id)) ((v.wrong)) (v.votes))) (h := hD) (⟨_, X, gf10_0⟩) Enc.nil) X X X zaA Tryz.info79 X X X t_kr<|fun v155 w156 h159 le160 f157 st158=> ?_
   exact zt ⟨_, _, rfl, st158, _, rfl, f157⟩
  refine zbx<|zf 13 [12, 11, 10, 9, 8, 7, 6, 5, 4, 3, 2, 1, 0] X t_kr t_kr X X (fun hD wD τD hL hS hO _ _ _ _ _ _ _ _ _ _ _ _ gv6_ gf6_ _ _ _ _ gv9_0 gf9_0 gv10_ gf10_ gv11_0 gf11_0 => (zL X zx X zbp X))<|zbx<|zbN X X X X X X ⟨t_kr, X, t_kr, X, t_kr, X, X, t_kr, (zbe X (zbe X zcl))⟩<|fun hE162 w163 _ le164 st165 _ _ gv11_0x161 gf11_0x161 gv9_0x161 gf9_0x161=> ?_
  refine zaR (k := 3) (nb := 40) st165 (hO_c1_4.up (le130.trans le164)) rfl gf11_0x161 rfl rfl rfl zaA Tryz.info79 rfl rfl rfl (by decide) rfl (by simp only [List.length_take, List.length_append, List.length_cons, List.length_nil, List.nil_append]; omega) (by simp only [List.length_take, List.length_append, List.length_cons, List.length_nil, List.nil_append]; omega) ?_
  intro v166 o167 w168 _ e169 f170 st171
  subst e169
  refine zt ⟨_, rfl, _, _, Le.refl _, st171, ?_⟩
  intro hE173 w174 _ le175 st176 _ _ _ _ _ _ _ _ _ _ _ _ _ _ gv6_x172 gf6_x172 _ _ _ _ gv9_0x172 gf9_0x172 gv10_x172 gf10_x172 gv11_0x172 gf11_0x172
  obtain ⟨gv10_0x172, rfl, gf10_0x172⟩ := gf10_x172
  refine zbR st176 (k := 1) X X (v := v166) X f170.one zbp X X X<|fun w177 st178=> ?_
  refine zt ⟨undef, rfl, _, _, Le.refl _, st178, ?_⟩
  intro hE179 w180 _ le181 st182 _ _ _ _ _ _ _ _ _ _ _ _ gv6_x183 gf6_x183 _ _ _ _ gv9_0x183 gf9_0x183 gv10_x183 gf10_x183 gv11_0x183 gf11_0x183 _ _
  obtain ⟨gv10_0x183, rfl, gf10_0x183⟩ := gf10_x183
  refine AllDeps.fin X<|zP<|O<|zo<|zk X X<|zaP X X t_om X<|zz X X<|Y ?_
  have l184 := (((le110.trans le130).trans le164).trans le175).trans le181
  refine ⟨⟨k + 1, v166, o167, hE179⟩, ⟨rfl, trivial⟩, ?_, ⟨l184, st182.take 4, ?_, ?_⟩, ?_⟩
  ·exact zav
  ·refine OSl.to (f170.up (le175.trans le181)) ?_
   rw [zbb hv]
  ·first | omega | (simp; omega)
  show p.voters.length - ((k + 1)) < p.voters.length - k
  omega
 refine zaC<|zh<|zh<|zah<|O<|W.sr<|zcd (st111.get (k := 1) X) X zbV zbm X X<|zM st111 (k := 0) X X X (za gf6_0x32.one (za gf6_1x32.one (za gf6_2x32.one (za hO_c1_3.one (za hO_c1_4.one zap))))) zbm X X X<|fun w185 st186=> ?_
 obtain ⟨h187, le188, hb189, st191⟩ := st186.freeze (k := 0) rfl
 have hc190 := Cells.of hb189
 refine Y<|zB<|zeT Tryz.results16 X zbV zbm X st191.sub hc190 ?_
 obtain ⟨h192, le193, f194, st195⟩ := OSl.freeze (k := 2) st191 (hO_c1_3.up (le110.trans le188)) rfl (by simp only [List.length_take, List.length_append, List.length_cons, List.length_nil, List.nil_append]; omega)
 obtain ⟨h196, le197, f198, st199⟩ := OSl.freeze (k := 3) st195 (hO_c1_4.up (le188.trans le193)) rfl (by simp only [List.length_take, List.length_append, List.length_cons, List.length_nil, List.nil_append]; omega)
 refine ⟨h196, _, rfl, st199.done, ?_⟩
 refine ⟨_, _, _, _, _, ?_, Sl.to (gf6_0x32.up (((((le41.trans le45).trans le110).trans le188).trans le193).trans le197)) ?_, Sl.to (gf6_1x32.up (((((le41.trans le45).trans le110).trans le188).trans le193).trans le197)) ?_, Sl.to (gf6_2x32.up (((((le41.trans le45).trans le110).trans le188).trans le193).trans le197)) ?_, Sl.to (f194.up le197) ?_, Sl.to f198 ?_⟩
 all_goals first | rfl | (rw [List.take_of_length_le (by omega)])
set_option maxHeartbeats 1000000 in
theorem c_postilref07_Same {h : Heap} {w : World} (hs : Sub h w) {a : Poll} {a_v0 : Value} (a_f0 : Sl LChapter h a_v0 a.text.chapters) {a_v1 : Value} (a_f1 : Sl LRule h a_v1 a.lexicon.rules) {a_v2 : Value} (a_f2 : Sl LDecision h a_v2 a.lexicon.decisions) {a_v3 : Value} (a_f3 : Sl LQuestion h a_v3 a.questions) {a_v4 : Value} (a_f4 : Sl LVoter h a_v4 a.voters) {b : Poll} {b_v0 : Value} (b_f0 : Sl LChapter h b_v0 b.text.chapters) {b_v1 : Value} (b_f1 : Sl LRule h b_v1 b.lexicon.rules) {b_v2 : Value} (b_f2 : Sl LDecision h b_v2 b.lexicon.decisions) {b_v3 : Value} (b_f3 : Sl LQuestion h b_v3 b.questions) {b_v4 : Value} (b_f4 : Sl LVoter h b_v4 b.voters) : Calls Tryz.prog 26 #[.agg #[a_v0, a_v1, a_v2, a_v3, a_v4], .agg #[b_v0, b_v1, b_v2, b_v3, b_v4]] w (Rets h w (fun _ _ res_ => res_ = .bool (decide (a = b)))) := by
 refine zS (n := 126) Tryz.func26 X X X<|have st0:=t_s0 hs;have a_f0_b:=a_f0.le;have a_f1_b:=a_f1.le;have a_f2_b:=a_f2.le;have a_f3_b:=a_f3.le;have a_f4_b:=a_f4.le;have b_f0_b:=b_f0.le;have b_f1_b:=b_f1.le;have b_f2_b:=b_f2.le;have b_f3_b:=b_f3.le;have b_f4_b:=b_f4.le;W.sr<|zG st0 (cs := [a_v0, a_v1, a_v2, a_v3, a_v4]) X X X<|fun b1 w2 h3 le4 hc5 st6=>zG st6 (cs := [b_v0, b_v1, b_v2, b_v3, b_v4]) X X X<|fun b7 w8 h9 le10 hc11 st12=>zJ X X<|Y<|zj<|W.sr<|U X zx X zac X X<|zab (j := 0) st12.sub (hc5.up le10) (us := [a_v0]) X X zaO zac X X X<|U X zx X zac X X<|zab (j := 0) st12.sub hc11 (us := [b_v0]) X X zaO zac X X X<|have l13:=le4.trans le10;zn st12 X X X Tryz.call74 X (c_postilref01_Same st12.sub (a := a.text) (a_f0.up l13) (b := b.text) (b_f0.up l13)) ?_
 intro r14 w15 h16 le17 st18 q19
 obtain rfl := q19
 refine zbQ X X<|zai X X ?_
 refine zaY (d := 13) rfl (fun g20 => ?_) (fun g20 => ?_)
 ·
  refine Z X X X X X<|Z X X X X X<|Z X X X X X<|Z X X X X X<|Z X X X X X<|Z X X X X X<|zaf (v := (.bool _)) X X X<|zai X X<|Z X X X X X<|Z X X X X X<|Z X X X X X<|Z X X X X X<|Z X X X X X<|Z X X X X X<|Z X X X X X<|zaf (v := (.bool _)) X X X<|zai X X<|Z X X X X X<|Z X X X X X<|Z X X X X X<|Z X X X X X<|Z X X X X X<|Z X X X X X<|Z X X X X X<|zaf (v := (.bool _)) X X X<|Y ?_
  refine zad rfl (fun c21 => ?_) (fun c21 => ?_)
  ·
   refine W.sr<|zJ X X<|Y<|zB<|zd<|zc zdL ?_
   refine ⟨h16, _, rfl, st18.done, ?_⟩
   refine zw ?_
   have q : a ≠ b := by
    rintro rfl
    simp_all
   simp [q]
  cases c21
 refine M X X X<|U X zx X zR X X<|M X X X<|zab (j := 1) st18.sub (hc5.up (le10.trans le17)) (us := [a_v1, a_v2]) X X zaK zR X X X<|M X X X<|U X zx X zR X X<|M X X X<|zab (j := 1) st18.sub (hc11.up le17) (us := [b_v1, b_v2]) X X zaK zR X X X<|M X X X<|have l22:=l13.trans le17;zn st18 X X X Tryz.call31 X (zhG st18.sub (a := a.lexicon) (a_f1.up l22) (a_f2.up l22) (b := b.lexicon) (b_f1.up l22) (b_f2.up l22))<|fun r23 w24 h25 le26 st27 q28=> ?_
 obtain rfl := q28
 refine M X X X<|zbQ X X<|zX (v := (.bool _)) X X X<|zai X X ?_
 refine zaY (d := 21) rfl (fun g29 => ?_) (fun g29 => ?_)
 ·
  refine Z X X X X X<|Z X X X X X<|Z X X X X X<|Z X X X X X<|Z X X X X X<|Z X X X X X<|Z X X X X X<|zaf (v := (.bool _)) X X X<|zai X X<|Z X X X X X<|Z X X X X X<|Z X X X X X<|Z X X X X X<|Z X X X X X<|Z X X X X X<|Z X X X X X<|zaf (v := (.bool _)) X X X<|Y ?_
  refine zad rfl (fun c30 => ?_) (fun c30 => ?_)
  ·
   refine W.sr<|zJ X X<|Y<|zB<|zd<|zc zdL ?_
   refine ⟨h25, _, rfl, st27.done, ?_⟩
   refine zw ?_
   have q : a ≠ b := by
    rintro rfl
    simp_all
   simp [q]
  cases c30
 refine M X X X<|U X zx X zbd X X<|M X X X<|E (j := 3) st27.sub (hc5.up ((le10.trans le17).trans le26)) X X X zbv X<|M X X X<|have l31:=l22.trans le26;zaJ (a_f3.up l31) X zau X<|M X X X<|U X zx X zbd X X<|M X X X<|E (j := 3) st27.sub (hc11.up (le17.trans le26)) X X X zbv X<|M X X X<|zaJ (b_f3.up l31) X zau X<|M X X X<|zcF X X X<|zX (v := (.bool _)) X X X<|zai X X ?_
 refine zaB (d := 30) rfl (fun g32 => ?_) (fun g32 => ?_)
 ·
  refine Z X X X X X<|Z X X X X X<|Z X X X X X<|Z X X X X X<|Z X X X X X<|Z X X X X X<|Z X X X X X<|zaf (v := (.bool _)) X X X<|Y ?_
  refine zad rfl (fun c33 => ?_) (fun c33 => ?_)
  ·
   refine W.sr<|zJ X X<|Y<|zB<|zd<|zc zdL ?_
   refine ⟨h25, _, rfl, st27.done, ?_⟩
   refine zw ?_
   have q : a ≠ b := by
    rintro rfl
    simp_all
   simp [q]
  cases c33
 refine M X X X<|U X zx X zbp X X<|M X X X<|E (j := 4) st27.sub (hc5.up ((le10.trans le17).trans le26)) X X X zbI X<|M X X X<|zaJ (a_f4.up l31) X zaA X<|M X X X<|U X zx X zbp X X<|M X X X<|E (j := 4) st27.sub (hc11.up (le17.trans le26)) X X X zbI X<|M X X X<|zaJ (b_f4.up l31) X zaA X<|M X X X<|zcF X X X<|zX (v := (.bool _)) X X X<|Y ?_
 refine zH rfl (fun c34 => ?_) (fun c34 => ?_)
 ·
  refine W.sr<|zJ X X<|Y<|zB<|zd<|zc zdL ?_
  refine ⟨h25, _, rfl, st27.done, ?_⟩
  refine zw ?_
  have q : a ≠ b := by
   rintro rfl
   simp_all
  simp [q]
 refine zC<|O<|zj<|W.sr<|zz X X<|Y<|zF ?_
 refine zat ([4, 5] ++ t_rg 39 36) (G := Nat × Heap) (fun ⟨i, h35⟩ => [(5, .int .i64 (i : Int))]) (fun ⟨i, h35⟩ w' => Le h25 h35 ∧ St h w h35 w' [] ∧ (i ≤ a.questions.length) ∧ (a.questions.take i = b.questions.take i)) (fun ⟨i, h35⟩ => a.questions.length - i) ⟨0, h25⟩ ⟨rfl, trivial⟩ ⟨Le.refl _, st27, zaM, zaM⟩ ?_
 rintro ⟨i, h35⟩ _ w38 ⟨le36, st37, hi, he⟩
 refine zj<|W.sr<|zk X X<|U X zx X zbd X X<|have l39:=((le10.trans le17).trans le26).trans le36;E (j := 3) st37.sub (hc5.up l39) X X X zbv X<|have l40:=l31.trans le36;zaJ (a_f3.up l40) X zau X<|zaV X X X<|Y ?_
 refine zH rfl (fun c41 => ?_) (fun c41 => ?_)
 ·
  refine zC<|O<|zj<|zF<|zj<|zbj Tryz.mixed t_kr (Cls h35 _) (Cls.drew st37)<|zD X zx X zbd X X<|zl X X (fun _ hC => (ze (j := 3) hC.sub (hc5.up l39) X X X zbv))<|zbJ X X ?_
  obtain ⟨c, hc⟩ : ∃ y_, (a.questions)[i]? = some y_ := t_ge (by omega)
  obtain ⟨b42, o43, _, he45, hc44, hr_c⟩ := Sl.elem (a_f3.up l40) hc
  obtain ⟨v46, rfl, f47⟩ := hr_c
  have f47_b := f47.le
  refine zaG he45 X X (hk := X) (hu := zau) (hz := zbz) X<|zD X zam X zO X X<|zl X X (fun _ hC => (zbL (j := 0) hC.sub hc44 (us := [.int .i64 (c.at_.chapter), .int .i64 (c.at_.line), .int .i64 (c.at_.word)]) X X zaD zO X X))<|zD X zx X zbd X X<|zl X X (fun _ hC => (ze (j := 3) hC.sub (hc11.up ((le17.trans le26).trans le36)) X X X zbv))<|zbJ X X ?_
  obtain ⟨d, hd⟩ : ∃ y_, (b.questions)[i]? = some y_ := t_ge (by omega)
  obtain ⟨b48, o49, _, he51, hc50, hr_d⟩ := Sl.elem (b_f3.up l40) hd
  obtain ⟨v52, rfl, f53⟩ := hr_d
  have f53_b := f53.le
  refine zaG he51 X X (hk := X) (hu := zau) (hz := zbz) X<|zD X zam X zO X X<|zl X X (fun _ hC => (zbL (j := 0) hC.sub hc50 (us := [.int .i64 (d.at_.chapter), .int .i64 (d.at_.line), .int .i64 (d.at_.word)]) X X zaD zO X X))<|zl X X (fun _ _ => (ziz X X zeb (Tryz.eq_Place c.at_ d.at_)))<|zdS X X ?_
  refine zcP (d := 59) rfl (fun g54 => ?_) (fun g54 => ?_)
  ·
   refine zb X X X X X<|zb X X X X X<|zb X X X X X<|zb X X X X X<|zb X X X X X<|zb X X X X X<|zb X X X X X<|zb X X X X X<|zb X X X X X<|zb X X X X X<|zb X X X X X<|zb X X X X X<|zb X X X X X<|zb X X X X X<|zcK (v := (.bool _)) X X X<|zaN ?_
   rintro w55 ⟨h56, s57⟩
   have st58 := st37.call0 s57
   refine O ?_
   refine zad rfl (fun c59 => ?_) (fun c59 => ?_)
   ·
    refine W.sr<|zJ X X<|Y<|zB<|zI<|zd<|zd<|zI<|zd<|zc zdL ?_
    refine ⟨h56, _, rfl, st58.done, ?_⟩
    refine zw ?_
    have q1 : c ≠ d := by
     rintro rfl
     simp_all
    have q : a ≠ b := fun e_ => zdz hc hd q1 (by rw [e_])
    simp [q]
   cases c59
  refine zg X X X<|zD X zx X zbd X X<|zg X X X<|zl X X (fun _ hC => (ze (j := 3) hC.sub (hc5.up l39) X X X zbv))<|zg X X X<|zbJ X X<|zg X X X<|zaG he45 X X (hk := X) (hu := zau) (hz := zbz) X<|zg X X X<|zD X zam X zbO X X<|zg X X X<|zl X X (fun _ hC => (ze (j := 3) hC.sub hc44 X X X zca))<|zg X X X<|zD X zx X zbd X X<|zg X X X<|zl X X (fun _ hC => (ze (j := 3) hC.sub (hc11.up ((le17.trans le26).trans le36)) X X X zbv))<|zg X X X<|zbJ X X<|zg X X X<|zaG he51 X X (hk := X) (hu := zau) (hz := zbz) X<|zg X X X<|zD X zam X zbO X X<|zg X X X<|zl X X (fun _ hC => (ze (j := 3) hC.sub hc50 X X X zca))<|zg X X X<|zbU X X (fun _ => zbc X Tryz.call75 X) (fun _ hC => Rets.quiet hC (zis hC.sub f47 f53))<|zg X X X<|zhO X X<|zcL (v := (.bool _)) X X X<|zaN ?_
  rintro w60 ⟨h61, s62⟩
  have st63 := st37.call0 s62
  refine O ?_
  refine zad rfl (fun c64 => ?_) (fun c64 => ?_)
  ·
   refine W.sr<|zJ X X<|Y<|zB<|zI<|zd<|zd<|zI<|zd<|zc zdL ?_
   refine ⟨h61, _, rfl, st63.done, ?_⟩
   refine zw ?_
   have q1 : c ≠ d := by
    rintro rfl
    simp_all
   have q : a ≠ b := fun e_ => zdz hc hd q1 (by rw [e_])
   simp [q]
  refine zC<|zP<|O<|zo<|zk X X<|zaP X X t_om X<|zz X X<|Y ?_
  refine ⟨⟨i + 1, h61⟩, ⟨rfl, trivial⟩, ?_, ⟨(le36.trans s62.le), st63, ?_, ?_⟩, ?_⟩
  ·exact zav
  ·first | omega | (simp; omega)
  ·exact zdI he hc hd (by rcases c with ⟨c1, c2⟩; rcases d with ⟨d1, d2⟩; simp_all)
  show a.questions.length - ((i + 1)) < a.questions.length - i
  omega
 refine zaC<|zh<|zh<|zah<|O<|zj<|W.sr<|zz X X<|Y<|zF ?_
 refine zat ([4, 6] ++ t_rg 75 51) (G := Nat × Heap) (fun ⟨k, h65⟩ => [(6, .int .i64 (k : Int))]) (fun ⟨k, h65⟩ w' => Le h35 h65 ∧ St h w h65 w' [] ∧ (k ≤ a.voters.length) ∧ (a.voters.take k = b.voters.take k)) (fun ⟨k, h65⟩ => a.voters.length - k) ⟨0, h35⟩ ⟨rfl, trivial⟩ ⟨Le.refl _, st37, zaM, zaM⟩ ?_
 rintro ⟨k, h65⟩ _ w68 ⟨le66, st67, hk, hf⟩
 refine zj<|W.sr<|zk X X<|U X zx X zbp X X<|E (j := 4) st67.sub (hc5.up (l39.trans le66)) X X X zbI X<|have l69:=l40.trans le66;zaJ (a_f4.up l69) X zaA X<|zaV X X X<|Y ?_
 refine zH rfl (fun c70 => ?_) (fun c70 => ?_)
 ·
  refine zC<|O<|zj<|zF<|zj<|zbj Tryz.mixed t_kr (Cls h65 _) (Cls.drew st67)<|zD X zx X zbp X X<|zl X X (fun _ hC => (ze (j := 4) hC.sub (hc5.up (l39.trans le66)) X X X zbI))<|zbJ X X ?_
  obtain ⟨v, hv⟩ : ∃ y_, (a.voters)[k]? = some y_ := t_ge (by omega)
  obtain ⟨b71, o72, _, he74, hc73, hr_v⟩ := Sl.elem (a_f4.up l69) hv
  obtain ⟨v75, rfl, f76⟩ := hr_v
  have f76_b := f76.le
  refine zaG he74 X X (hk := X) (hu := zaA) (hz := zbA) X<|zD X zaU X zr X X<|zl X X (fun _ hC => (ze (j := 0) hC.sub hc73 X X X zN))<|zD X zx X zbp X X<|have l77:=((le17.trans le26).trans le36).trans le66;zl X X (fun _ hC => (ze (j := 4) hC.sub (hc11.up l77) X X X zbI))<|zbJ X X ?_
  obtain ⟨u, hu⟩ : ∃ y_, (b.voters)[k]? = some y_ := t_ge (by omega)
  obtain ⟨b78, o79, _, he81, hc80, hr_u⟩ := Sl.elem (b_f4.up l69) hu
  obtain ⟨v82, rfl, f83⟩ := hr_u
  have f83_b := f83.le
  refine zaG he81 X X (hk := X) (hu := zaA) (hz := zbA) X<|zD X zaU X zr X X<|zl X X (fun _ hC => (ze (j := 0) hC.sub hc80 X X X zN))<|u_neq X X X<|zdS X X ?_
  refine zcP (d := 95) rfl (fun g84 => ?_) (fun g84 => ?_)
  ·
   refine zb X X X X X<|zb X X X X X<|zb X X X X X<|zb X X X X X<|zb X X X X X<|zb X X X X X<|zb X X X X X<|zb X X X X X<|zb X X X X X<|zb X X X X X<|zb X X X X X<|zb X X X X X<|zb X X X X X<|zcK (v := (.bool _)) X X X<|zdS X X<|zb X X X X X<|zb X X X X X<|zb X X X X X<|zb X X X X X<|zb X X X X X<|zb X X X X X<|zb X X X X X<|zb X X X X X<|zb X X X X X<|zb X X X X X<|zb X X X X X<|zb X X X X X<|zb X X X X X<|zb X X X X X<|zcK (v := (.bool _)) X X X ?_
   refine zaN ?_
   rintro w85 ⟨h86, s87⟩
   have st88 := st67.call0 s87
   refine O ?_
   refine zad rfl (fun c89 => ?_) (fun c89 => ?_)
   ·
    refine W.sr<|zJ X X<|Y<|zB<|zI<|zd<|zd<|zI<|zd<|zc zdL ?_
    refine ⟨h86, _, rfl, st88.done, ?_⟩
    refine zw ?_
    have q1 : v ≠ u := by
     rintro rfl
     simp_all
    have q : a ≠ b := fun e_ => zdz hv hu q1 (by rw [e_])
    simp [q]
   cases c89
  refine zg X X X<|zD X zx X zbp X X<|zg X X X<|zl X X (fun _ hC => (ze (j := 4) hC.sub (hc5.up (l39.trans le66)) X X X zbI))<|zg X X X<|zbJ X X<|zg X X X<|zaG he74 X X (hk := X) (hu := zaA) (hz := zbA) X<|zg X X X<|zD X zaU X zr X X<|zg X X X<|zl X X (fun _ hC => (ze (j := 1) hC.sub hc73 X X X zN))<|zg X X X<|zD X zx X zbp X X<|zg X X X<|zl X X (fun _ hC => (ze (j := 4) hC.sub (hc11.up l77) X X X zbI))<|zg X X X<|zbJ X X<|zg X X X<|zaG he81 X X (hk := X) (hu := zaA) (hz := zbA) X<|zg X X X<|zD X zaU X zr X X<|zg X X X<|zl X X (fun _ hC => (ze (j := 1) hC.sub hc80 X X X zN))<|zg X X X<|u_neq X X X<|zcL (v := (.bool _)) X X X<|zdS X X ?_
  refine zcP (d := 110) rfl (fun g90 => ?_) (fun g90 => ?_)
  ·
   refine zb X X X X X<|zb X X X X X<|zb X X X X X<|zb X X X X X<|zb X X X X X<|zb X X X X X<|zb X X X X X<|zb X X X X X<|zb X X X X X<|zb X X X X X<|zb X X X X X<|zb X X X X X<|zb X X X X X<|zb X X X X X<|zcK (v := (.bool _)) X X X<|zaN ?_
   rintro w91 ⟨h92, s93⟩
   have st94 := st67.call0 s93
   refine O ?_
   refine zad rfl (fun c95 => ?_) (fun c95 => ?_)
   ·
    refine W.sr<|zJ X X<|Y<|zB<|zI<|zd<|zd<|zI<|zd<|zc zdL ?_
    refine ⟨h92, _, rfl, st94.done, ?_⟩
    refine zw ?_
    have q1 : v ≠ u := by
     rintro rfl
     simp_all
    have q : a ≠ b := fun e_ => zdz hv hu q1 (by rw [e_])
    simp [q]
   cases c95
  refine zg X X X<|zD X zx X zbp X X<|zg X X X<|zl X X (fun _ hC => (ze (j := 4) hC.sub (hc5.up (l39.trans le66)) X X X zbI))<|zg X X X<|zbJ X X<|zg X X X<|zaG he74 X X (hk := X) (hu := zaA) (hz := zbA) X<|zg X X X<|zD X zaU X zcy X X<|zg X X X<|zl X X (fun _ hC => (ze (j := 2) hC.sub hc73 X X X zcU))<|zg X X X<|zD X zx X zbp X X<|zg X X X<|zl X X (fun _ hC => (ze (j := 4) hC.sub (hc11.up l77) X X X zbI))<|zg X X X<|zbJ X X<|zg X X X<|zaG he81 X X (hk := X) (hu := zaA) (hz := zbA) X<|zg X X X<|zD X zaU X zcy X X<|zg X X X<|zl X X (fun _ hC => (ze (j := 2) hC.sub hc80 X X X zcU))<|zg X X X<|zbU X X (fun _ => zbc X Tryz.call21 X) (fun _ hC => Rets.quiet hC (ziJ hC.sub f76 f83))<|zg X X X<|zhO X X<|zcL (v := (.bool _)) X X X<|zaN ?_
  rintro w96 ⟨h97, s98⟩
  have st99 := st67.call0 s98
  refine O ?_
  refine zad rfl (fun c100 => ?_) (fun c100 => ?_)
  ·
   refine W.sr<|zJ X X<|Y<|zB<|zI<|zd<|zd<|zI<|zd<|zc zdL ?_
   refine ⟨h97, _, rfl, st99.done, ?_⟩
   refine zw ?_
   have q1 : v ≠ u := by
    rintro rfl
    simp_all
   have q : a ≠ b := fun e_ => zdz hv hu q1 (by rw [e_])
   simp [q]
  refine zC<|zP<|O<|zo<|zk X X<|zaP X X t_om X<|zz X X<|Y ?_
  refine ⟨⟨k + 1, h97⟩, ⟨rfl, trivial⟩, ?_, ⟨(le66.trans s98.le), st99, ?_, ?_⟩, ?_⟩
  ·exact zav
  ·first | omega | (simp; omega)
  ·exact zdI hf hv hu (by rcases v with ⟨v1, v2, v3⟩; rcases u with ⟨u1, u2, u3⟩; simp_all)
  show a.voters.length - ((k + 1)) < a.voters.length - k
  omega
 refine zaC<|zh<|zh<|zah<|O<|W.sr<|zJ X X<|Y<|zB<|zc zdL ?_
 refine ⟨h65, _, rfl, st67.done, ?_⟩
 refine zw ?_
 have q1 := zeH he (by omega) (by omega)
 have q2 := zeH hf (by omega) (by omega)
 rcases a with ⟨a1, a2, a3, a4⟩; rcases b with ⟨b1, b2, b3, b4⟩
 simp_all
end Go.Pk

namespace Go.Pk
open Go Go.RowKit Go.Proofs
set_option maxHeartbeats 4000000 in
theorem c_postilref07_Decide {h : Heap} {w : World} (hs : Sub h w) {p : Poll} {p_v0 : Value} (p_f0 : Sl LChapter h p_v0 p.text.chapters) {p_v1 : Value} (p_f1 : Sl LRule h p_v1 p.lexicon.rules) {p_v2 : Value} (p_f2 : Sl LDecision h p_v2 p.lexicon.decisions) {p_v3 : Value} (p_f3 : Sl LQuestion h p_v3 p.questions) {p_v4 : Value} (p_f4 : Sl LVoter h p_v4 p.voters) : Calls Tryz.prog 28 #[.agg #[p_v0, p_v1, p_v2, p_v3, p_v4]] w (Rets h w (fun h' _ res_ => ∃ u0 u1, res_ = .tuple #[.agg #[u0, u1], .int .i64 (zeV p)] ∧ Sl LRule h' u0 ((zcH p)).rules ∧ Sl LDecision h' u1 ((zcH p)).decisions)) := by
 refine zS (n := 104) Tryz.func28 X X X<|have st0:=t_s0 hs;have p_f0_b:=p_f0.le;have p_f1_b:=p_f1.le;have p_f2_b:=p_f2.le;have p_f3_b:=p_f3.le;have p_f4_b:=p_f4.le;W.sr<|zG st0 (cs := [p_v0, p_v1, p_v2, p_v3, p_v4]) X X X<|fun b1 w2 h3 le4 hc5 st6=>zae st6 zcR X X<|fun b7 w8 st9=>zz X X<|Y<|W.sr<|zy st9.sub hc5 X zbV zbm X X<|zn st9 X X X Tryz.call56 X (zhD st9.sub (p := p) (p_f0.up le4) (p_f1.up le4) (p_f2.up le4) (p_f3.up le4) (p_f4.up le4) _)<|fun r10 w11 h12 le13 st14 q15=> ?_
 obtain ⟨v16, rfl, f17⟩ := q15
 have f17_b := f17.le
 refine zdu X X<|zak (v := v16) X X X<|zak (v := (.int _ _)) X X X<|zaj (v := v16) X X<|zz X X<|Y<|zj<|W.sr<|zk X X<|zcF X X X<|Y ?_
 refine zH rfl (fun c18 => ?_) (fun c18 => ?_)
 ·
  refine W.sr<|zq X X (zbW (cs := [(.slice none 0 0), (.slice none 0 0)]) t_kr)<|zk X X<|zM st14 (k := 0) X X X (za X (za X zap)) zR X X X<|fun w19 st20=>zz X X<|Y<|zB<|zd<|zbF Tryz.results28 X zaK zR X (st20.get (k := 0) X) ?_
  have e1 : zcH p = zec := by rw [zcH, if_neg (by simpa using c18)]
  have e2 : zeV p = allE p true := by rw [zeV, if_neg (by simpa using c18)]
  refine ⟨h12, _, rfl, st20.done, ?_⟩
  refine ⟨_, _, tup2 ?_ (zar ?_), Sl.to (Sl.nil _ _) ?_, Sl.to (Sl.nil _ _) ?_⟩
  all_goals first | rfl | exact e2.symm | (rw [e1]; done) | (rw [e1]; rfl) | (rw [e1]; assumption)
 refine zC<|O<|zj ?_
 have hz0 : allE p true = 0 := by simpa using c18
 obtain ⟨hk1, hk2, hk3, hk4⟩ := all_ok hz0
 have hk5 := List.length_pos_iff.2 hk3
 have hk6 : (allL p true).length = (zas p).length := by rw [hk4]
 have hk7 := zih (zdj hk1).2
 have hk8 := zeh (zdj hk1).2
 refine zo<|zy st14.sub (hc5.up le13) X zbV zbm X X<|zaa (v := v16) X X ?_
 have l21 := le4.trans le13
 refine zn st14 rfl rfl rfl Tryz.call81 rfl (zgw st14.sub (p := p) (p_f0.up l21) (p_f1.up l21) (p_f2.up l21) (p_f3.up l21) (p_f4.up l21) f17 (by omega) (by intro t_ ht_; rw [hk4] at ht_; exact zhi ht_) (by omega)) ?_
 intro r22 w23 h24 le25 st26 q27
 obtain ⟨v28, e30, f29⟩ := q27
 rw [← e30] at f29
 have f29_b := f29.le
 have f31 := Sl.to f29 (show _ = (zbK (zas p)) from by rw [hk4])
 have f31_b := f31.le
 refine zaj (v := r22) X X<|Y<|W.sr<|U X zx X zR X X<|zab (j := 1) st26.sub (hc5.up (le13.trans le25)) (us := [p_v1, p_v2]) X X zaK zR X X X ?_
 have l32 := l21.trans le25
 refine zn st26 rfl rfl rfl Tryz.call53 rfl (zhF st26.sub (x := p.lexicon) (p_f1.up l32) (p_f2.up l32) (by exact small_of (zdj hk1).1)) ?_
 intro r33 w34 h35 le36 st37 q38
 obtain ⟨v39, v41, rfl, f40, f42⟩ := q38
 have f40_b := f40.le
 have f42_b := f42.le
 refine zae st37 zcR X X<|fun b43 w44 st45=>zM st45 (k := 1) X X X (za f40.one (za f42.one zap)) zR X X X<|fun w46 st47=>Y<|zj<|W.sr<|zz X X<|Y<|zF ?_
 refine zat ([3, 5] ++ t_rg 8 6 ++ t_rg 29 74) (G := Nat × Lexicon × Value × Value × Heap) (fun ⟨k, x, w1, w2, h48⟩ => [(8, .int .i64 (k : Int))]) (fun ⟨k, x, w1, w2, h48⟩ w' => Le h35 h48 ∧ St h w h48 w' [[(b7, .cells (List.toArray [(.slice none 0 0), (.slice none 0 0)]) 28)], [(b43, .cells (List.toArray [w1, w2]) 28)]] ∧ (k ≤ (zbK (zas p)).length) ∧ (Sl LRule h48 w1 x.rules) ∧ (Sl LDecision h48 w2 x.decisions) ∧ (decK p (zbK (zas p)) k = (x, 0))) (fun ⟨k, x, w1, w2, h48⟩ => (zbK (zas p)).length - k) ⟨0, p.lexicon, v39, v41, h35⟩ ⟨rfl, trivial⟩ ⟨Le.refl _, st47, zaM, (by exact f40), (by exact f42), (by rfl)⟩ ?_
 rintro ⟨k, x, w1, w2, h48⟩ _ w51 ⟨le49, st50, hk, hw1, hw2, hdk⟩
 have hw1_b := hw1.le
 have hw2_b := hw2.le
 refine zj<|W.sr<|zk X X<|zaa (v := r22) X X<|zaJ (f31.up (le36.trans le49)) X zp X<|zaV X X X<|Y ?_
 refine zH rfl (fun c52 => ?_) (fun c52 => ?_)
 ·
  refine zC<|O<|zj<|zF<|zj ?_
  have hk9 : k < p.questions.length := by have q_ := set_len7 hk3; omega
  have hx0 := dec_ok (zdj hk1).1 hdk
  have hxd := zeF hx0
  have hxr := zhx hx0
  refine zo<|U X zx X zbd X X<|have l53:=((le13.trans le25).trans le36).trans le49;E (j := 3) st50.sub (hc5.up l53) X X X zbv X<|zk X X ?_
  obtain ⟨q, hq⟩ : ∃ y_, (p.questions)[k]? = some y_ := t_ge (by omega)
  have l58 := (l32.trans le36).trans le49
  obtain ⟨b54, o55, _, he57, hc56, hr_q⟩ := Sl.elem (p_f3.up l58) hq
  obtain ⟨v59, rfl, f60⟩ := hr_q
  have f60_b := f60.le
  refine zV he57 X X (hk := X) (hu := zau) (hz := zbz) X<|zy st50.sub hc56 X Tryz.isAgg84 zbz X X<|zae st50 Tryz.zeroValue84 X X<|fun b61 w62 st63=>zM st63 (k := 2) X X X (za X (za X (za X (za f60.one zap)))) zbz X X X<|fun w64 st65=> ?_
  obtain ⟨h66, le67, hb68, st70⟩ := st65.freeze (k := 2) rfl
  have hc69 := Cells.of hb68
  refine Y<|zj<|W.sr<|zaa (v := r22) X X<|zk X X ?_
  obtain ⟨ch, hch⟩ : ∃ y_, ((zbK (zas p)))[k]? = some y_ := t_ge (by omega)
  obtain ⟨b71, o72, _, he74, hc73, hr_ch⟩ := Sl.elem (f31.up ((le36.trans le49).trans le67)) hch
  obtain rfl := hr_ch
  refine zV he74 X X (hk := X) (hu := zp) (hz := zr) X<|E (j := 0) st70.sub hc73 X X X zN X<|zaV X X X<|Y ?_
  refine zH rfl (fun c75 => ?_) (fun c75 => ?_)
  ·
   refine zaC<|zh<|zah<|O<|zo<|zk X X<|zaP X X t_om X<|zz X X<|Y ?_
   refine ⟨⟨k + 1, (x), w1, w2, h66⟩, ⟨rfl, trivial⟩, ?_, ⟨(le49.trans le67), st70.take 2, ?_, ?_, ?_, ?_⟩, ?_⟩
   ·exact zav
   ·first | omega | (simp; omega)
   ·exact (hw1.up le67)
   ·exact (hw2.up le67)
   ·exact dec_skip hdk hq hch c75
   show (zbK (zas p)).length - ((k + 1)) < (zbK (zas p)).length - k
   omega
  refine zC<|O<|zj ?_
  have hin := set_in hk3 hq hch (by have q_ := c75; omega)
  refine zo<|U X zx X zac X X<|zab (j := 0) st70.sub (hc5.up (l53.trans le67)) (us := [p_v0]) X X zaO zac X X X<|zcd (st70.get (k := 1) X) X zaK zR X X<|U X zam X zO X X<|zab (j := 0) st70.sub hc69 (us := [.int .i64 (q.at_.chapter), .int .i64 (q.at_.line), .int .i64 (q.at_.word)]) X X zaD zO X X X<|have l76:=l58.trans le67;zn st70 X X X Tryz.call82 X (c_postilref04_HeadOf st70.sub (t := p.text) (p_f0.up l76) (x := x) (hw1.up le67) (hw2.up le67) (p := q.at_))<|fun r77 w78 h79 le80 st81 q82=> ?_
  obtain rfl := q82
  refine zdu X X<|zak (v := (.agg (List.toArray _))) X X X<|zak (v := (.int _ _)) X X X<|zae st81 zdb X X<|fun b83 w84 st85=>zM st85 (k := 3) X X X (za X (za X zap)) zT X X X<|fun w86 st87=> ?_
  obtain ⟨h88, le89, hb90, st92⟩ := st87.freeze (k := 3) rfl
  have hc91 := Cells.of hb90
  refine zz X X<|Y<|zj<|zj<|zbj Tryz.mixed t_kr (Cls h88 _) (Cls.drew st92)<|zl X X (fun _ hC => (zZ hC.sub hc91 X zbl zT X))<|zD X zam X zbO X X<|zl X X (fun _ hC => (ze (j := 3) hC.sub (hc69.up (le80.trans le89)) X X X zca))<|zdn (v := r22) X X<|zbJ X X<|zaG he74 X X (hk := X) (hu := zp) (hz := zr) X<|zl X X (fun _ hC => (ze (j := 0) hC.sub (hc73.up (le80.trans le89)) X X X zN)) ?_
  obtain ⟨hd, hhd⟩ : ∃ y_, (q.heads)[ch.toNat]? = some y_ := t_ge (by omega)
  obtain ⟨b93, o94, _, he96, hc95, hr_hd⟩ := Sl.elem (f60.up ((le67.trans le80).trans le89)) hhd
  obtain ⟨rfl, ls97, lu98⟩ := hr_hd
  simp only [big] at ls97
  refine zl rfl rfl (fun _ _ => (zao he96 rfl rfl (hk := (show _ = ((ch.toNat : Nat) : Int) by omega)) (hu := zaE) (hz := zT))) ?_
  refine zl X X (fun _ hC => (zZ hC.sub hc95 X zbl zT X))<|zl X X (fun _ _ => (zge X X zea (Tryz.eq_Head (askR (p.text) (x) (q.at_)).to hd)))<|zaN ?_
  rintro w99 ⟨h100, s101⟩
  have st102 := st92.call0 s101
  refine O ?_
  refine zH rfl (fun c103 => ?_) (fun c103 => ?_)
  ·
   refine zaC<|zh<|zah<|O<|zo<|zk X X<|zaP X X t_om X<|zz X X<|Y ?_
   have l104 := (((le49.trans le67).trans le80).trans le89).trans s101.le
   refine ⟨⟨k + 1, (x), w1, w2, h100⟩, ⟨rfl, trivial⟩, ?_, ⟨l104, st102.take 2, ?_, ?_, ?_, ?_⟩, ?_⟩
   ·exact zav
   ·first | omega | (simp; omega)
   ·exact (hw1.up (((le67.trans le80).trans le89).trans s101.le))
   ·exact (hw2.up (((le67.trans le80).trans le89).trans s101.le))
   ·exact dec_same hdk hq hch (by omega) hhd c103
   show (zbK (zas p)).length - ((k + 1)) < (zbK (zas p)).length - k
   omega
  refine zC<|O<|W.sr<|zz X X<|Y<|zj<|W.sr<|zz X X<|Y<|zF ?_
  refine zat ([12, 13] ++ t_rg 64 15) (G := Nat × Heap) (fun ⟨i, h105⟩ => [(12, .int .i64 (zdU (x.decisions.take i))), (13, .int .i64 (i : Int))]) (fun ⟨i, h105⟩ w' => Le h100 h105 ∧ St h w h105 w' [[(b7, .cells (List.toArray [(.slice none 0 0), (.slice none 0 0)]) 28)], [(b43, .cells (List.toArray [w1, w2]) 28)], [], []] ∧ (i ≤ x.decisions.length)) (fun ⟨i, h105⟩ => x.decisions.length - i) ⟨0, h100⟩ ⟨(zar (by rfl)), rfl, trivial⟩ ⟨Le.refl _, st102, zaM⟩ ?_
  rintro ⟨i, h105⟩ _ w108 ⟨le106, st107, hi⟩
  have hmn := mostN_le' (zgF hx0) i
  have hmp := mostN_pos (x.decisions.take i)
  refine zj<|W.sr<|zk X X<|U X zQ X zaS X X<|zcp (st107.get (k := 1) X) X X zbr X<|have l109:=(((le67.trans le80).trans le89).trans s101.le).trans le106;zaJ (hw2.up l109) X zU X<|zaV X X X<|Y ?_
  refine zH rfl (fun c110 => ?_) (fun c110 => ?_)
  ·
   refine zC<|O<|zj<|zF<|zo<|zk X X<|U X zQ X zaS X X<|zcp (st107.get (k := 1) X) X X zbr X<|zk X X ?_
   obtain ⟨d, hd⟩ : ∃ y_, (x.decisions)[i]? = some y_ := t_ge (by omega)
   obtain ⟨b111, o112, _, he114, hc113, hr_d⟩ := Sl.elem (hw2.up l109) hd
   obtain ⟨rfl, lu115, ls116, ls117, lu118⟩ := hr_d
   simp only [big] at ls116
   simp only [big] at ls117
   refine zV he114 X X (hk := X) (hu := zU) (hz := zK) X<|U X zi X zr X X<|E (j := 0) st107.sub hc113 X X X zN X<|zq X X (r_max X X)<|zz X X<|zt<|zP<|O<|zo<|zk X X<|zaP X X t_om X<|zz X X<|Y ?_
   refine ⟨⟨i + 1, h105⟩, ⟨?_, rfl, trivial⟩, ?_, ⟨le106, st107, ?_⟩, ?_⟩
   ·exact zar (mostI_snoc hd)
   ·exact zav
   ·first | omega | (simp; omega)
   show x.decisions.length - ((i + 1)) < x.decisions.length - i
   omega
  refine zaC<|zh<|zh<|zah<|O<|zj<|have l119:=((((l53.trans le67).trans le80).trans le89).trans s101.le).trans le106;have l120:=((le80.trans le89).trans s101.le).trans le106;zbh (er := ([2], [], [], [], 0)) (dsts := [80, 81, 82, 83, 84, 85, 86, 87, 88, 89, 90, 91, 92, 93, 94, 95, 96, 79, 97, 98, 5]) st107 Tryz.mixed<|zf 0 [] X t_kr t_kr X X (fun hD wD τD hL hS hO  => (zL X zx X zac X))<|zf 1 [0] X t_kr t_kr X X (fun hD wD τD hL hS hO _ _ => (zbL (j := 0) (hL.sub hS) (hc5.up l119) (us := [p_v0]) X X zaO zac X X))<|zf 2 [] X t_kr t_kr X X (fun hD wD τD hL hS hO  => (r_load_ball ((hO X).get (k := 1) X) X zaK zR X))<|zf 3 [] X t_kr t_kr X X (fun hD wD τD hL hS hO  => (zdP X))<|zf 4 [0] X t_kr t_kr X X (fun hD wD τD hL hS hO _ _ => (zij X X t_om))<|zf 5 [] X t_kr t_kr X X (fun hD wD τD hL hS hO  => (zL X zam X zO X))<|zf 6 [0] X t_kr t_kr X X (fun hD wD τD hL hS hO _ _ => (zbL (j := 0) (hL.sub hS) (hc69.up l120) (us := [.int .i64 (q.at_.chapter), .int .i64 (q.at_.line), .int .i64 (q.at_.word)]) X X zaD zO X X))<|zf 7 [] X t_kr t_kr X X (fun hD wD τD hL hS hO  => (zL X zam X zbO X))<|zf 8 [0] X t_kr t_kr X X (fun hD wD τD hL hS hO _ _ => (ze (j := 3) (hL.sub hS) (hc69.up l120) X X X zca))<|zf 9 [] X t_kr t_kr X X (fun hD wD τD hL hS hO  => (zdp (v := r22) X))<|zf 10 [] X t_kr t_kr X X (fun hD wD τD hL hS hO  => (zdP X))<|zf 11 [1, 0] X t_kr t_kr X X (fun hD wD τD hL hS hO _ _ _ _ => (zao he74 X X (hk := X) (hu := zp) (hz := zr)))<|zf 12 [0] X t_kr t_kr X X (fun hD wD τD hL hS hO _ _ => (ze (j := 0) (hL.sub hS) (hc73.up l120) X X X zN)) ?_
  refine zf 13 [4, 0] rfl t_kr t_kr rfl rfl (fun hD wD τD hL hS hO _ _ _ _ => (zao he96 rfl rfl (hk := (show _ = ((ch.toNat : Nat) : Int) by omega)) (hu := zaE) (hz := zT))) ?_
  refine zf 14 [0] X t_kr t_kr X X (fun hD wD τD hL hS hO _ _ => (zZ (hL.sub hS) (hc95.up (s101.le.trans le106)) X zbl zT X))<|zf 15 [10, 8, 0] X t_kr t_kr X X (fun hD wD τD hL hS hO _ _ _ _ _ _ => (zbW (cs := [.int .i64 ((zdU (x.decisions.take i)) + 1), .int .u8 3, strV [], .int .i64 (q.at_.chapter), .int .i64 (q.at_.line), .int .i64 (q.at_.word), strV (hd.stem), .int .u8 (hd.mark), .int .i64 0]) t_kr)) ?_
  refine zax 16 (.res (fun h' res_ => ∃ gv16_0 gv16_1, res_ = .tuple #[.agg #[gv16_0, gv16_1], .int .i64 (addE (p.text) (x) (({ zbf with number := ((zdU (x.decisions.take i)) + 1), kind := 3, at_ := q.at_, to := hd } : Decision)))] ∧ Sl LRule h' gv16_0 ((addN (p.text) (x) (({ zbf with number := ((zdU (x.decisions.take i)) + 1), kind := 3, at_ := q.at_, to := hd } : Decision)))).rules ∧ Sl LDecision h' gv16_1 ((addN (p.text) (x) (({ zbf with number := ((zdU (x.decisions.take i)) + 1), kind := 3, at_ := q.at_, to := hd } : Decision)))).decisions) (by rintro _ _ _ hl ⟨gv16_0, gv16_1, e_, gf16_0, gf16_1⟩; exact ⟨gv16_0, gv16_1, e_, gf16_0.up hl, gf16_1.up hl⟩)) [14, 13, 0] rfl t_kr t_kr ?_ ?_
  ·
   intro hD wD τD hL hS hO _ _ _ _ _ _
   have st121 := St.start hS
   refine zn st121 rfl rfl rfl Tryz.call83 rfl (c_postilref04_Add st121.sub (t := p.text) (p_f0.up (((((l76.trans le80).trans le89).trans s101.le).trans le106).trans hL)) (x := x) (hw1.up (l109.trans hL)) (hw2.up (l109.trans hL)) (d := ({ zbf with number := ((zdU (x.decisions.take i)) + 1), kind := 3, at_ := q.at_, to := hd } : Decision)) (by first | assumption | decide | omega | (simp [zbf, zdc]; done) | (dsimp only; omega) | (simp; omega)) (by first | assumption | (simp [zbf, zdc, big]; done) | (simp [zbf, zdc, big]; omega) | omega) (by first | assumption | (simp [zbf, zdc, big]; done) | (simp [zbf, zdc, big]; omega) | omega) (by first | assumption | decide | omega | (simp [zbf, zdc]; done) | (dsimp only; omega) | (simp; omega))) ?_
   intro r122 w123 h124 le125 st126 q127
   obtain ⟨v128, v130, rfl, f129, f131⟩ := q127
   have f129_b := f129.le
   have f131_b := f131.le
   exact zt ⟨_, _, rfl, st126, _, rfl, ⟨_, _, rfl, f129, f131⟩⟩
  refine zax 17 (.res (fun h' res_ => ∃ gv17_0 gv17_1, res_ = .tuple #[.agg #[gv17_0, gv17_1], .int .i64 ((addE (p.text) (x) (({ zbf with number := ((zdU (x.decisions.take i)) + 1), kind := 3, at_ := q.at_, to := hd } : Decision))))] ∧ Sl LRule h' gv17_0 ((addN (p.text) (x) (({ zbf with number := ((zdU (x.decisions.take i)) + 1), kind := 3, at_ := q.at_, to := hd } : Decision)))).rules ∧ Sl LDecision h' gv17_1 ((addN (p.text) (x) (({ zbf with number := ((zdU (x.decisions.take i)) + 1), kind := 3, at_ := q.at_, to := hd } : Decision)))).decisions) (by rintro _ _ _ hl ⟨gv17_0, gv17_1, e_, gf17_0, gf17_1⟩; exact ⟨gv17_0, gv17_1, e_, gf17_0.up hl, gf17_1.up hl⟩)) [0] rfl t_kr t_kr ?_ ?_
  ·
   intro hD wD τD hL hS hO gv16_ gf16_
   obtain ⟨gv16_0, gv16_1, rfl, gf16_0, gf16_1⟩ := gf16_
   have st132 := St.start hS
   refine zdu X X ?_
   exact zt ⟨_, _, rfl, st132, _, rfl, ⟨_, _, rfl, gf16_0, gf16_1⟩⟩
  refine zax 18 (.res (fun h' res_ => ∃ gv18_0 gv18_1, res_ = .agg #[gv18_0, gv18_1] ∧ Sl LRule h' gv18_0 ((addN (p.text) (x) (({ zbf with number := ((zdU (x.decisions.take i)) + 1), kind := 3, at_ := q.at_, to := hd } : Decision)))).rules ∧ Sl LDecision h' gv18_1 ((addN (p.text) (x) (({ zbf with number := ((zdU (x.decisions.take i)) + 1), kind := 3, at_ := q.at_, to := hd } : Decision)))).decisions) (by rintro _ _ _ hl ⟨gv18_0, gv18_1, e_, gf18_0, gf18_1⟩; exact ⟨gv18_0, gv18_1, e_, gf18_0.up hl, gf18_1.up hl⟩)) [0] rfl t_kr t_kr ?_ ?_
  ·
   intro hD wD τD hL hS hO gv17_ gf17_
   obtain ⟨gv17_0, gv17_1, rfl, gf17_0, gf17_1⟩ := gf17_
   have st133 := St.start hS
   refine zak (v := (.agg (List.toArray _))) X X X ?_
   exact zt ⟨_, _, rfl, st133, _, rfl, ⟨_, _, rfl, gf17_0, gf17_1⟩⟩
  refine zax 19 (.det (.int .i64 ((addE (p.text) (x) (({ zbf with number := ((zdU (x.decisions.take i)) + 1), kind := 3, at_ := q.at_, to := hd } : Decision)))))) [1] rfl t_kr t_kr ?_ ?_
  ·
   intro hD wD τD hL hS hO gv17_ gf17_
   obtain ⟨gv17_0, gv17_1, rfl, gf17_0, gf17_1⟩ := gf17_
   have st134 := St.start hS
   refine zak (v := (.int _ _)) X X X ?_
   exact zt ⟨_, _, rfl, st134, (), rfl, trivial⟩
  refine zbx<|zf 21 [20, 19, 18, 17, 16, 15, 14, 13, 12, 11, 10, 9, 8, 7, 6, 5, 4, 3, 2, 1, 0] X t_kr t_kr X X (fun hD wD τD hL hS hO _ _ _ _ _ _ _ _ _ _ _ _ _ _ _ _ _ _ _ _ _ _ _ _ _ _ _ _ _ _ _ _ gv16_ gf16_ gv17_ gf17_ gv18_ gf18_ _ _ => (r_asI X))<|zbN X X X X X X ⟨t_kr, X, t_kr, X, t_kr, X, X, t_kr, (zbe X zcl)⟩<|fun hE136 w137 _ le138 st139 _ _ _ _ _ _ _ _ _ _ _ _ _ _ _ _ _ _ _ _ _ _ _ _ _ _ _ _ _ _ _ _ gv16_x135 gf16_x135 gv17_x135 gf17_x135 gv18_x135 gf18_x135=> ?_
  obtain ⟨gv16_0x135, gv16_1x135, rfl, gf16_0x135, gf16_1x135⟩ := gf16_x135
  obtain ⟨gv17_0x135, gv17_1x135, rfl, gf17_0x135, gf17_1x135⟩ := gf17_x135
  obtain ⟨gv18_0x135, gv18_1x135, rfl, gf18_0x135, gf18_1x135⟩ := gf18_x135
  refine zM st139 (k := 1) X X X (za gf18_0x135.one (za gf18_1x135.one zap)) zR X X X<|fun w140 st141=> ?_
  refine zt ⟨undef, rfl, _, _, Le.refl _, st141, ?_⟩
  intro hE142 w143 _ le144 st145 _ _ _ _ _ _ _ _ _ _ _ _ _ _ _ _ _ _ _ _ _ _ _ _ _ _ _ _ _ _ _ _ gv16_x146 gf16_x146 gv17_x146 gf17_x146 gv18_x146 gf18_x146 _ _ _ _
  obtain ⟨gv16_0x146, gv16_1x146, rfl, gf16_0x146, gf16_1x146⟩ := gf16_x146
  obtain ⟨gv17_0x146, gv17_1x146, rfl, gf17_0x146, gf17_1x146⟩ := gf17_x146
  obtain ⟨gv18_0x146, gv18_1x146, rfl, gf18_0x146, gf18_1x146⟩ := gf18_x146
  refine AllDeps.fin X<|O<|W.sr<|zk X X<|zcF X X X<|Y ?_
  refine zH rfl (fun c147 => ?_) (fun c147 => ?_)
  ·
   refine W.sr<|zq X X (zbW (cs := [(.slice none 0 0), (.slice none 0 0)]) t_kr)<|zk X X<|zM st145 (k := 0) X X X (za X (za X zap)) zR X X X<|fun w148 st149=>zz X X<|Y<|zB<|zI<|zd<|zd<|zI<|zd<|zbF Tryz.results28 X zaK zR X (st149.get (k := 0) X) ?_
   have hk0 : allE p true = 0 := hz0
   have e9 : zdU (x.decisions.take i) = zdU x.decisions := mostN_take (by omega)
   have ea : ¬ addE p.text x (decD x q hd) = 0 := by have q_ := c147; rw [e9] at q_; exact q_
   have ef := dec_err hdk hq hch (by omega) hhd (by assumption) ea
   have e1 : zcH p = zec := by rw [zcH, if_pos hz0, ef]
   have e2 : zeV p = addE p.text x (decD x q hd) := by rw [zeV, if_pos hz0, ef]
   rw [e9]
   refine ⟨hE142, _, rfl, st149.done, ?_⟩
   refine ⟨_, _, tup2 ?_ (zar ?_), Sl.to (Sl.nil _ _) ?_, Sl.to (Sl.nil _ _) ?_⟩
   all_goals first | rfl | exact e2.symm | (rw [e1]; done) | (rw [e1]; rfl) | (rw [e1]; assumption)
  refine zC<|zP<|O<|zo<|zk X X<|zaP X X t_om X<|zz X X<|Y ?_
  have l150 := ((((((le49.trans le67).trans le80).trans le89).trans s101.le).trans le106).trans le138).trans le144
  refine ⟨⟨k + 1, (((addN (p.text) (x) (({ zbf with number := ((zdU (x.decisions.take i)) + 1), kind := 3, at_ := q.at_, to := hd } : Decision))))), gv18_0x135, gv18_1x135, hE142⟩, ⟨rfl, trivial⟩, ?_, ⟨l150, st145.take 2, ?_, ?_, ?_, ?_⟩, ?_⟩
  ·exact zav
  ·first | omega | (simp; omega)
  ·exact (gf18_0x135.up le144)
  ·exact (gf18_1x135.up le144)
  ·have e9 : zdU (x.decisions.take i) = zdU x.decisions := mostN_take (by omega)
   have ea : addE p.text x (decD x q hd) = 0 := by have q_ := c147; rw [e9] at q_; exact Classical.not_not.1 q_
   rw [e9]
   exact (dec_add hdk hq hch (by omega) hhd (by assumption)).trans (Prod.ext rfl ea)
  show (zbK (zas p)).length - ((k + 1)) < (zbK (zas p)).length - k
  omega
 refine zaC<|zh<|zh<|zah<|O<|W.sr<|zcd (st50.get (k := 1) X) X zaK zR X X<|zM st50 (k := 0) X X X (za hw1.one (za hw2.one zap)) zR X X X<|fun w151 st152=>zz X X<|Y<|zB<|zbF Tryz.results28 X zaK zR X (st152.get (k := 0) X) ?_
 have ek : k = (zbK (zas p)).length := by omega
 have e1 : zcH p = x := by rw [zcH, if_pos hz0, ← ek, hdk]
 have e2 : zeV p = 0 := by rw [zeV, if_pos hz0, ← ek, hdk]
 refine ⟨h48, _, rfl, st152.done, ?_⟩
 refine ⟨_, _, tup2 ?_ (zar ?_), Sl.to hw1 ?_, Sl.to hw2 ?_⟩
 all_goals first | rfl | exact e2.symm | (rw [e1]; done) | (rw [e1]; rfl) | (rw [e1]; assumption)
end Go.Pk

namespace Go.Pk
open Go Go.RowKit Go.Proofs
set_option maxHeartbeats 4000000 in
theorem c_vote_Decide {h : Heap} {w : World} (hs : Sub h w) {p : Poll} {p_v0 : Value} (p_f0 : Sl LChapter h p_v0 p.text.chapters) {p_v1 : Value} (p_f1 : Sl LRule h p_v1 p.lexicon.rules) {p_v2 : Value} (p_f2 : Sl LDecision h p_v2 p.lexicon.decisions) {p_v3 : Value} (p_f3 : Sl LQuestion h p_v3 p.questions) {p_v4 : Value} (p_f4 : Sl LVoter h p_v4 p.voters) (K1 : Cells h 1 0 Tryz.glob1) (K0 : Cells h 0 0 Tryz.glob0) : Calls Tryz.prog 27 #[.agg #[p_v0, p_v1, p_v2, p_v3, p_v4]] w (fun e_ w' => ∃ h' v0_ v1_ o0_ o1_, e_ = .returned (.tuple #[.agg #[v0_, v1_], .int .i64 (zeV p)]) ∧ Le h h' ∧ St h w h' w' [o0_, o1_] ∧ OSl LRule 68 h' v0_ (((zcH p)).rules) o0_ ∧ OSl LDecision 74 h' v1_ (((zcH p)).decisions) o1_) := by
 refine zS (n := 101) Tryz.func27 X X X<|have st0:=t_s0 hs;have p_f0_b:=p_f0.le;have p_f1_b:=p_f1.le;have p_f2_b:=p_f2.le;have p_f3_b:=p_f3.le;have p_f4_b:=p_f4.le;W.sr<|zG st0 (cs := [p_v0, p_v1, p_v2, p_v3, p_v4]) X X X<|fun b1 w2 h3 le4 hc5 st6=>zae st6 zcR X X<|fun b7 w8 st9=>zz X X<|Y<|W.sr<|zy st9.sub hc5 X zbV zbm X X<|zn st9 X X X Tryz.call54 X (c_vote_all st9.sub (p := p) (p_f0.up le4) (p_f1.up le4) (p_f2.up le4) (p_f3.up le4) (p_f4.up le4) _ (K1.up le4) (K0.up le4))<|fun r10 w11 h12 le13 st14 q15=> ?_
 obtain ⟨v16, rfl, f17⟩ := q15
 have f17_b := f17.le
 refine zdu X X<|zak (v := v16) X X X<|zak (v := (.int _ _)) X X X<|zaj (v := v16) X X<|zz X X<|Y<|zj<|W.sr<|zk X X<|zcF X X X<|Y ?_
 refine zH rfl (fun c18 => ?_) (fun c18 => ?_)
 ·
  refine W.sr<|zq X X (zbW (cs := [(.slice none 0 0), (.slice none 0 0)]) t_kr)<|zk X X<|zM st14 (k := 0) X X X (za X (za X zap)) zR X X X<|fun w19 st20=>zz X X<|Y<|zB<|zd<|zbF Tryz.results27 X zaK zR X (st20.get (k := 0) X) ?_
  have st21 := st20.snoc
  have f22 := OSl.nil LRule 68 h12
  have st23 := st21.snoc
  have f24 := OSl.nil LDecision 74 h12
  have e1 : zcH p = zec := by rw [zcH, if_neg (by simpa using c18)]
  have e2 : zeV p = allE p true := by rw [zeV, if_neg (by simpa using c18)]
  refine ⟨h12, (.slice none 0 0), (.slice none 0 0), _, _, congrArg Ending.returned (tup2 rfl (zar ?_)), (le4.trans le13), st23.sublist (own' := [[], []]) (.cons _ (.cons_cons _ (.cons_cons _ (.slnil)))), OSl.to f22 ?_, OSl.to f24 ?_⟩
  all_goals first | rfl | exact e2.symm | (rw [e1]; done) | (rw [e1]; rfl) | (rw [e1]; assumption)
 refine zC<|O<|zj ?_
 have hz0 : allE p true = 0 := by simpa using c18
 obtain ⟨hk1, hk2, hk3, hk4⟩ := all_ok hz0
 have hk5 := List.length_pos_iff.2 hk3
 have hk6 : (allL p true).length = (zas p).length := by rw [hk4]
 have hk7 := zih (zdj hk1).2
 have hk8 := zeh (zdj hk1).2
 have hlx := smallX_len (small_of (zdj hk1).1)
 refine zbh (er := ([], [], [], [9], 3)) (dsts := [24, 25, 26, 27, 28, 29, 30, 31, 32, 6]) st14 Tryz.mixed<|zf 0 [] X t_kr t_kr X X (fun hD wD τD hL hS hO  => (zL X zx X zR X))<|zf 1 [0] X t_kr t_kr X X (fun hD wD τD hL hS hO _ _ => (zL X zQ X zbP X))<|zf 2 [0] X t_kr t_kr X X (fun hD wD τD hL hS hO _ _ => (ze (j := 1) (hL.sub hS) (hc5.up le13) X X X zcs))<|zbx<|zf 4 [] X t_kr t_kr X X (fun hD wD τD hL hS hO  => (zL X zx X zR X))<|zf 5 [0] X t_kr t_kr X X (fun hD wD τD hL hS hO _ _ => (zL X zQ X zaS X))<|zf 6 [0] X t_kr t_kr X X (fun hD wD τD hL hS hO _ _ => (ze (j := 2) (hL.sub hS) (hc5.up le13) X X X zbr))<|zbx<|zbx<|zhL zcR X<|zbx<|zbN X X X X X X ⟨t_kr, X, t_kr, X, t_kr, X, X, t_kr, (zbe X (zbe X (zbe X (zbe X zcl))))⟩<|fun hE26 w27 _ ls32 hl31 le28 st29 _ _=> ?_
 obtain ⟨oL30, rfl⟩ := zhy hl31
 have l33 := (le4.trans le13).trans le28
 refine zaT rfl rfl (zbc rfl Tryz.call76 rfl) ((zdW st29.sub (p_f1.up l33) (by omega)).mono ?_)
 rintro _ w35 ⟨h36, v34, o39, rfl, le37, s41, f40⟩
 refine ⟨_, rfl, ?_⟩
 have st38 := st29.call s41
 refine zt ⟨_, rfl, _, [[(b7, .cells (List.toArray [(.slice none 0 0), (.slice none 0 0)]) 28)]], [o39], le37, st38, ?_⟩
 intro hE43 w44 _ ls49 hl48 le45 st46 _ _
 obtain ⟨oL47, rfl⟩ := zhy hl48
 have l50 := (l33.trans le37).trans le45
 refine zaT rfl rfl (zbc rfl Tryz.call77 rfl) ((zcB st46.sub (p_f2.up l50) (by omega)).mono ?_)
 rintro _ w52 ⟨h53, v51, o56, rfl, le54, s58, f57⟩
 refine ⟨_, rfl, ?_⟩
 have st55 := st46.call s58
 refine zt ⟨_, rfl, _, [[(b7, .cells (List.toArray [(.slice none 0 0), (.slice none 0 0)]) 28)]], [o39, o56], le54, st55, ?_⟩
 intro hE60 w61 _ ls66 hl65 le62 st63 
 obtain ⟨oL64, rfl⟩ := zhy hl65
 refine zq rfl rfl (zbW (cs := [v34, v51]) (by obtain ⟨_, _, rfl⟩ := OSl.form f40; obtain ⟨_, _, rfl⟩ := OSl.form f57; kernel_rfl)) ?_
 refine zt ⟨_, rfl, _, [[(b7, .cells (List.toArray [(.slice none 0 0), (.slice none 0 0)]) 28)]], [o39, o56], Le.refl _, st63, ?_⟩
 intro b68
 intro hE69 w70 _ le71 st72 _ _ _ _ _ _ _ _ _ _ _ _
 refine zM st72 (k := 1) X X X (za f40.one (za f57.one zap)) zR X X X<|fun w73 st74=> ?_
 refine zt ⟨undef, rfl, _, _, Le.refl _, st74, ?_⟩
 intro hE75 w76 _ le77 st78 _ _ _ _ _ _ _ _ _ _ _ _
 refine AllDeps.fin X<|O<|zj<|W.sr<|zaa (v := v16) X X ?_
 have l80 := (((((le28.trans le37).trans le45).trans le54).trans le62).trans le71).trans le77
 refine zn st78 rfl rfl rfl Tryz.call78 rfl (c_vote_settled st78.sub (f17.up l80) (by omega) (by intro t_ ht_; rw [hk4] at ht_; exact zhi ht_) (by omega)) ?_
 intro r81 w82 h83 le84 st85 q86
 obtain ⟨v87, e89, f88⟩ := q86
 rw [← e89] at f88
 have f88_b := f88.le
 have f90 := Sl.to f88 (show _ = (zbK (zas p)) from by rw [hk4])
 have f90_b := f90.le
 refine zaJ f90 X zp X<|zk X X<|Y<|zF ?_
 have l94 := ((((le45.trans le54).trans le62).trans le71).trans le77).trans le84
 have l95 := ((le62.trans le71).trans le77).trans le84
 refine zat ([3, 5] ++ t_rg 7 6 ++ [14] ++ t_rg 36 64) (G := Nat × Lexicon × Value × Value × List (Nat × Obj) × List (Nat × Obj) × Heap) (fun ⟨k, x, v_c1_0, v_c1_1, o_c1_0, o_c1_1, h91⟩ => [(36, .int .i64 (k : Int))]) (fun ⟨k, x, v_c1_0, v_c1_1, o_c1_0, o_c1_1, h91⟩ w' => Le h83 h91 ∧ St h w h91 w' [[(b7, .cells (List.toArray [(.slice none 0 0), (.slice none 0 0)]) 28)], [(b68, .cells (List.toArray [v_c1_0, v_c1_1]) 28)], o_c1_0, o_c1_1] ∧ (OSl LRule 68 h91 v_c1_0 (x.rules) o_c1_0) ∧ (OSl LDecision 74 h91 v_c1_1 (x.decisions) o_c1_1) ∧ (k ≤ (zbK (zas p)).length) ∧ (decK p (zbK (zas p)) k = (x, 0))) (fun ⟨k, x, v_c1_0, v_c1_1, o_c1_0, o_c1_1, h91⟩ => (zbK (zas p)).length - k) ⟨0, p.lexicon, v34, v51, o39, o56, h83⟩ ⟨rfl, trivial⟩ ⟨Le.refl _, st85, (OSl.to (f40.up l94) (by rfl)), (OSl.to (f57.up l95) (by rfl)), zaM, (by rfl)⟩ ?_
 rintro ⟨k, x, v_c1_0, v_c1_1, o_c1_0, o_c1_1, h91⟩ _ w96 ⟨le92, st93, hO_c1_0, hO_c1_1, hk, hdk⟩
 refine W.sr<|zaV X X X<|Y<|zj ?_
 refine zH rfl (fun c97 => ?_) (fun c97 => ?_)
 ·
  refine zC<|O<|zj<|zF<|W.sr<|zk X X ?_
  obtain ⟨ch, hch⟩ : ∃ y_, ((zbK (zas p)))[k]? = some y_ := t_ge (by omega)
  obtain ⟨b98, o99, _, he101, hc100, hr_ch⟩ := Sl.elem (f90.up le92) hch
  obtain rfl := hr_ch
  refine zV he101 X X (hk := X) (hu := zp) (hz := zr) X<|E (j := 0) st93.sub hc100 X X X zN X<|zz X X<|zz X X<|Y<|zj ?_
  have hk9 : k < p.questions.length := by have q_ := set_len7 hk3; omega
  have hx0 := dec_ok (zdj hk1).1 hdk
  have hxd := zeF hx0
  have hxr := zhx hx0
  refine zo<|U X zx X zbd X X<|have l102:=((((((((le13.trans le28).trans le37).trans le45).trans le54).trans le62).trans le71).trans le77).trans le84).trans le92;E (j := 3) st93.sub (hc5.up l102) X X X zbv X<|zk X X ?_
  obtain ⟨q, hq⟩ : ∃ y_, (p.questions)[k]? = some y_ := t_ge (by omega)
  have l107 := (((((l50.trans le54).trans le62).trans le71).trans le77).trans le84).trans le92
  obtain ⟨b103, o104, _, he106, hc105, hr_q⟩ := Sl.elem (p_f3.up l107) hq
  obtain ⟨v108, rfl, f109⟩ := hr_q
  have f109_b := f109.le
  refine zV he106 X X (hk := X) (hu := zau) (hz := zbz) X<|zy st93.sub hc105 X Tryz.isAgg84 zbz X X<|zae st93 Tryz.zeroValue84 X X<|fun b110 w111 st112=>zM st112 (k := 4) X X X (za X (za X (za X (za f109.one zap)))) zbz X X X<|fun w113 st114=> ?_
  obtain ⟨h115, le116, hb117, st119⟩ := st114.freeze (k := 4) rfl
  have hc118 := Cells.of hb117
  refine Y<|zj<|W.sr<|zk X X<|zaV X X X<|Y ?_
  refine zH rfl (fun c120 => ?_) (fun c120 => ?_)
  ·
   refine zaC<|zh<|zah<|O<|zo<|zaP X X t_om X<|zk X X<|Y ?_
   refine ⟨⟨k + 1, x, v_c1_0, v_c1_1, o_c1_0, o_c1_1, h115⟩, ⟨rfl, trivial⟩, ?_, ⟨(le92.trans le116), st119.take 4, ?_, ?_, ?_, ?_⟩, ?_⟩
   ·exact zav
   ·refine OSl.to (hO_c1_0.up le116) ?_
    rfl
   ·refine OSl.to (hO_c1_1.up le116) ?_
    rfl
   ·first | omega | (simp; omega)
   ·exact dec_skip hdk hq hch c120
   show (zbK (zas p)).length - ((k + 1)) < (zbK (zas p)).length - k
   omega
  refine zC<|O<|zj<|W.sr<|U X zx X zac X X<|zab (j := 0) st119.sub (hc5.up (l102.trans le116)) (us := [p_v0]) X X zaO zac X X X<|zcd (st119.get (k := 1) X) X zaK zR X X<|U X zam X zO X X<|zab (j := 0) st119.sub hc118 (us := [.int .i64 (q.at_.chapter), .int .i64 (q.at_.line), .int .i64 (q.at_.word)]) X X zaD zO X X X ?_
  have ha121 := zhm st119.sub
  have f122 := (OSl.whole (k := 2) st119 (hO_c1_0.up le116) rfl t_om).2
  have f123 := (OSl.whole (k := 3) st119 (hO_c1_1.up le116) rfl t_om).2
  have l124 := (l107.trans le116).trans ha121
  refine zn st119 X X X Tryz.call79 X (Rets.thaw st119.sub (c_stem_HeadOf (zfc _) (t := p.text) (p_f0.up l124) (x := x) f122 f123 (p := q.at_) (K1.up l124)))<|fun r125 w126 h127 le128 st129 q130=> ?_
  obtain rfl := q130
  refine zdu X X<|zak (v := (.agg (List.toArray _))) X X X<|zak (v := (.int _ _)) X X X<|zae st129 zdb X X<|fun b131 w132 st133=>zM st133 (k := 5) X X X (za X (za X zap)) zT X X X<|fun w134 st135=> ?_
  obtain ⟨h136, le137, hb138, st140⟩ := st135.freeze (k := 5) rfl
  have hc139 := Cells.of hb138
  refine zz X X<|Y<|zj ?_
  have hin := set_in hk3 hq hch (by have q_ := c120; omega)
  refine zbj Tryz.mixed t_kr (Cls h136 _) (Cls.drew st140)<|zl X X (fun _ hC => (zZ hC.sub hc139 X zbl zT X))<|zD X zam X zbO X X<|zl X X (fun _ hC => (ze (j := 3) hC.sub (hc118.up (le128.trans le137)) X X X zca))<|zbJ X X ?_
  obtain ⟨hd, hhd⟩ : ∃ y_, (q.heads)[ch.toNat]? = some y_ := t_ge (by omega)
  obtain ⟨b141, o142, _, he144, hc143, hr_hd⟩ := Sl.elem (f109.up ((le116.trans le128).trans le137)) hhd
  obtain ⟨rfl, ls145, lu146⟩ := hr_hd
  simp only [big] at ls145
  refine zl rfl rfl (fun _ _ => (zao he144 rfl rfl (hk := (show _ = ((ch.toNat : Nat) : Int) by omega)) (hu := zaE) (hz := zT))) ?_
  refine zl X X (fun _ hC => (zZ hC.sub hc143 X zbl zT X))<|zl X X (fun _ _ => (zge X X zea (Tryz.eq_Head (askR (p.text) (x) (q.at_)).to hd)))<|zaN ?_
  rintro w147 ⟨h148, s149⟩
  have st150 := st140.call0 s149
  refine O ?_
  refine zH rfl (fun c151 => ?_) (fun c151 => ?_)
  ·
   refine zaC<|zh<|zah<|O<|zo<|zaP X X t_om X<|zk X X<|Y ?_
   have l152 := (((le92.trans le116).trans le128).trans le137).trans s149.le
   refine ⟨⟨k + 1, x, v_c1_0, v_c1_1, o_c1_0, o_c1_1, h148⟩, ⟨rfl, trivial⟩, ?_, ⟨l152, st150.take 4, ?_, ?_, ?_, ?_⟩, ?_⟩
   ·exact zav
   ·refine OSl.to (hO_c1_0.up (((le116.trans le128).trans le137).trans s149.le)) ?_
    rfl
   ·refine OSl.to (hO_c1_1.up (((le116.trans le128).trans le137).trans s149.le)) ?_
    rfl
   ·first | omega | (simp; omega)
   ·exact dec_same hdk hq hch (by omega) hhd c151
   show (zbK (zas p)).length - ((k + 1)) < (zbK (zas p)).length - k
   omega
  refine zC<|O<|zj<|zbh (er := ([], [], [], [], 0)) (dsts := [64, 65, 66, 67, 68, 69, 70, 71, 12]) st150 Tryz.mixed<|zf 0 [] X t_kr t_kr X X (fun hD wD τD hL hS hO  => (zL X zam X zO X))<|zf 1 [0] X t_kr t_kr X X (fun hD wD τD hL hS hO _ _ => (zbL (j := 0) (hL.sub hS) (hc118.up ((le128.trans le137).trans s149.le)) (us := [.int .i64 (q.at_.chapter), .int .i64 (q.at_.line), .int .i64 (q.at_.word)]) X X zaD zO X X))<|zf 2 [] X t_kr t_kr X X (fun hD wD τD hL hS hO  => (zL X zam X zbO X))<|zf 3 [0] X t_kr t_kr X X (fun hD wD τD hL hS hO _ _ => (ze (j := 3) (hL.sub hS) (hc118.up ((le128.trans le137).trans s149.le)) X X X zca))<|zf 4 [] X t_kr t_kr X X (fun hD wD τD hL hS hO  => (zdP X)) ?_
  refine zf 5 [1, 0] rfl t_kr t_kr rfl rfl (fun hD wD τD hL hS hO _ _ _ _ => (zao he144 rfl rfl (hk := (show _ = ((ch.toNat : Nat) : Int) by omega)) (hu := zaE) (hz := zT))) ?_
  refine zf 6 [0] X t_kr t_kr X X (fun hD wD τD hL hS hO _ _ => (zZ (hL.sub hS) (hc143.up s149.le) X zbl zT X))<|zf 7 [5, 0] X t_kr t_kr X X (fun hD wD τD hL hS hO _ _ _ _ => (zbW (cs := [.int .i64 1, .int .u8 3, strV [], .int .i64 (q.at_.chapter), .int .i64 (q.at_.line), .int .i64 (q.at_.word), strV (hd.stem), .int .u8 (hd.mark), .int .i64 0]) t_kr))<|zhL zbD X<|zbx<|zbN X X X X X X ⟨t_kr, X, t_kr, X, t_kr, X, X, t_kr, (zbe X zcl)⟩<|fun b153=>fun hE155 w156 _ le157 st158 _ _ _ _ _ _ _ _ _ _ _ _ _ _ _ _=>zM st158 (k := 6) X X X (za X (za X (za X (za X (za X (za X (za X (za X (za X zap))))))))) zK X X X<|fun w159 st160=> ?_
  refine zt ⟨undef, rfl, _, _, Le.refl _, st160, ?_⟩
  intro hE161 w162 _ le163 st164 _ _ _ _ _ _ _ _ _ _ _ _ _ _ _ _
  refine AllDeps.fin X<|O<|zj<|W.sr<|U X zQ X zaS X X<|zcp (st164.get (k := 1) X) X X zbr X<|have l166:=((((le116.trans le128).trans le137).trans s149.le).trans le157).trans le163;zeu (hO_c1_1.up l166) X zU X<|zk X X<|Y<|zF ?_
  refine zat ([14] ++ t_rg 75 12) (G := Nat × Int × Heap) (fun ⟨j, n, h167⟩ => [(75, .int .i64 (j : Int))]) (fun ⟨j, n, h167⟩ w' => Le hE161 h167 ∧ St h w h167 w' [[(b7, .cells (List.toArray [(.slice none 0 0), (.slice none 0 0)]) 28)], [(b68, .cells (List.toArray [v_c1_0, v_c1_1]) 28)], o_c1_0, o_c1_1, [], [], [(b153, .cells (List.toArray [.int .i64 n, .int .u8 3, strV [], .int .i64 (q.at_.chapter), .int .i64 (q.at_.line), .int .i64 (q.at_.word), strV (hd.stem), .int .u8 (hd.mark), .int .i64 0]) 74)]] ∧ (j ≤ x.decisions.length) ∧ (n = nextN (x.decisions.take j))) (fun ⟨j, n, h167⟩ => x.decisions.length - j) ⟨0, 1, hE161⟩ ⟨rfl, trivial⟩ ⟨Le.refl _, st164, zaM, (by rfl)⟩ ?_
  rintro ⟨j, n, h167⟩ _ w170 ⟨le168, st169, hj, hn⟩
  have hnn := nextN_le (zgF hx0) j
  rw [← hn] at hnn
  refine W.sr<|zaV X X X<|Y<|zj ?_
  refine zH rfl (fun c171 => ?_) (fun c171 => ?_)
  ·
   refine zC<|O<|zj<|zF<|W.sr ?_
   obtain ⟨d, hd⟩ : ∃ y_, (x.decisions)[j]? = some y_ := t_ge (by omega)
   obtain ⟨b172, o173, cur174, _, e177, he175, hr_d, hc176⟩ := OSl.elem (hO_c1_1.up (l166.trans le168)) hd
   subst e177
   obtain ⟨rfl, lu178, ls179, ls180, lu181⟩ := hr_d
   simp only [big] at ls179
   simp only [big] at ls180
   refine zV he175 X X (hk := X) (hu := zU) (hz := zK) X<|zq X X (r_load_curN (st169.get (k := 3) X) hc176 X zaI zK X)<|zae st169 zbD X X<|fun b182 w183 st184=>zM st184 (k := 7) X X X (za X (za X (za X (za X (za X (za X (za X (za X (za X zap))))))))) zK X X X<|fun w185 st186=> ?_
   obtain ⟨h187, le188, hb189, st191⟩ := st186.freeze (k := 7) rfl
   have hc190 := Cells.of hb189
   refine Y<|zo<|U X zi X zr X X<|zcp (st191.get (k := 6) X) X X zN X<|U X zi X zr X X<|E (j := 0) st191.sub hc190 X X X zN X ?_
   refine zq rfl rfl (zij rfl rfl (by have q_ := (zgF hx0).2 d (List.mem_of_getElem? hd); omega)) ?_
   refine zq X X (r_max X X)<|U X zi X zr X X<|zbR st191 (k := 6) X X X X zr X X X<|fun w192 st193=>zt<|zP<|O<|zo<|zaP X X t_om X<|zk X X<|Y ?_
   refine ⟨⟨j + 1, (maxI n ((d.number) + 1)), h187⟩, ⟨rfl, trivial⟩, ?_, ⟨(le168.trans le188), st193.take 7, ?_, ?_⟩, ?_⟩
   ·exact zav
   ·first | omega | (simp; omega)
   ·rw [hn, nextN_snoc hd]
   show x.decisions.length - ((j + 1)) < x.decisions.length - j
   omega
  refine zaC<|zh<|zh<|zah<|O<|zj ?_
  have e9 : n = zdU x.decisions + 1 := hn.trans (nextN_eq (by omega))
  have e8 : decN n q hd = decD x q hd := by rw [e9]; rfl
  refine zo<|U X zx X zac X X<|have l194:=((((((l102.trans le116).trans le128).trans le137).trans s149.le).trans le157).trans le163).trans le168;zab (j := 0) st169.sub (hc5.up l194) (us := [p_v0]) X X zaO zac X X X<|zcd (st169.get (k := 1) X) X zaK zR X X<|zcd (st169.get (k := 6) X) X zaI zK X X ?_
  have ha195 := zhm st169.sub
  have f196 := (OSl.whole (k := 2) st169 (hO_c1_0.up (l166.trans le168)) rfl t_om).2
  have f197 := (OSl.whole (k := 3) st169 (hO_c1_1.up (l166.trans le168)) rfl t_om).2
  have l198 := (((((((l107.trans le116).trans le128).trans le137).trans s149.le).trans le157).trans le163).trans le168).trans ha195
  refine zaT rfl rfl (zbc rfl Tryz.call80 rfl) ((c_stem_Add (zfc _) (t := p.text) (p_f0.up l198) (x := x) f196 f197 (d := (decN n q hd)) (by first | assumption | decide | omega | (simp [decN, zbf, zdc]; done) | (simp [decN]; omega) | (dsimp only; omega) | (simp; omega)) (by first | assumption | (simp [decN, zbf, zdc, big]; done) | (simp [decN, zbf, zdc, big]; omega) | omega) (by first | assumption | (simp [decN, zbf, zdc, big]; done) | (simp [decN, zbf, zdc, big]; omega) | omega) (by first | assumption | decide | omega | (simp [decN, zbf, zdc]; done) | (simp [decN]; omega) | (dsimp only; omega) | (simp; omega)) (K1.up l198)).mono ?_)
  rintro _ w199 ⟨h200, v204, v207, o205, o208, rfl, le201, s203, f206, f209⟩
  refine ⟨_, rfl, ?_⟩
  have s210 := St.thawO s203 st169.sub
  replace f206 := OSl.heap (fun _ _ _ _ q_ => q_) f206 h167
  replace f209 := OSl.heap (fun _ _ _ _ q_ => q_) f209 h167
  have st202 := st169.call s210
  refine zdu X X<|zak (v := (.agg (List.toArray _))) X X X<|zak (v := (.int _ _)) X X X<|zM st202 (k := 1) X X X (za f206.one (za f209.one zap)) zR X X X<|fun w211 st212=>zz X X<|Y<|W.sr<|zk X X<|zcF X X X<|Y ?_
  refine zH rfl (fun c213 => ?_) (fun c213 => ?_)
  ·
   refine W.sr<|zq X X (zbW (cs := [(.slice none 0 0), (.slice none 0 0)]) t_kr)<|zk X X<|zM st212 (k := 0) X X X (za X (za X zap)) zR X X X<|fun w214 st215=>zz X X<|Y<|zB<|zI<|zd<|zd<|zI<|zd<|zbF Tryz.results27 X zaK zR X (st215.get (k := 0) X) ?_
   have st216 := st215.snoc
   have f217 := OSl.nil LRule 68 h167
   have st218 := st216.snoc
   have f219 := OSl.nil LDecision 74 h167
   have ea : ¬ addE p.text x (decD x q hd) = 0 := by have q_ := c213; rw [e8] at q_; exact q_
   have ef := dec_err hdk hq hch (by omega) hhd (by assumption) ea
   have e1 : zcH p = zec := by rw [zcH, if_pos hz0, ef]
   have e2 : zeV p = addE p.text x (decD x q hd) := by rw [zeV, if_pos hz0, ef]
   rw [← e8] at e2
   refine ⟨h167, (.slice none 0 0), (.slice none 0 0), _, _, congrArg Ending.returned (tup2 rfl (zar ?_)), (((((((l107.trans le116).trans le128).trans le137).trans s149.le).trans le157).trans le163).trans le168), st218.sublist (own' := [[], []]) (.cons _ (.cons _ (.cons _ (.cons _ (.cons _ (.cons _ (.cons _ (.cons _ (.cons _ (.cons_cons _ (.cons_cons _ (.slnil)))))))))))), OSl.to f217 ?_, OSl.to f219 ?_⟩
   all_goals first | rfl | exact e2.symm | (rw [e1]; done) | (rw [e1]; rfl) | (rw [e1]; assumption)
  refine zC<|zP<|O<|zo<|zaP X X t_om X<|zk X X<|Y ?_
  have st220 : St h w h167 _ [[(b7, .cells (List.toArray [(.slice none 0 0), (.slice none 0 0)]) 28)], [(b68, .cells (List.toArray [v204, v207]) 28)], o205, o_c1_1, [], [], [(b153, .cells (List.toArray [.int .i64 n, .int .u8 3, strV [], .int .i64 (q.at_.chapter), .int .i64 (q.at_.line), .int .i64 (q.at_.word), strV (hd.stem), .int .u8 (hd.mark), .int .i64 0]) 74)], [], o208] := St.move (k := 2) (j := 7) st212 rfl rfl (by omega)
  have st221 : St h w h167 _ [[(b7, .cells (List.toArray [(.slice none 0 0), (.slice none 0 0)]) 28)], [(b68, .cells (List.toArray [v204, v207]) 28)], o205, o208, [], [], [(b153, .cells (List.toArray [.int .i64 n, .int .u8 3, strV [], .int .i64 (q.at_.chapter), .int .i64 (q.at_.line), .int .i64 (q.at_.word), strV (hd.stem), .int .u8 (hd.mark), .int .i64 0]) 74)], [], []] := St.move (k := 3) (j := 8) st220 rfl rfl (by omega)
  have l222 := ((((((le92.trans le116).trans le128).trans le137).trans s149.le).trans le157).trans le163).trans le168
  refine ⟨⟨k + 1, ((addN (p.text) (x) ((decN n q hd)))), v204, v207, o205, o208, h167⟩, ⟨rfl, trivial⟩, ?_, ⟨l222, st221.take 4, ?_, ?_, ?_, ?_⟩, ?_⟩
  ·exact zav
  ·refine OSl.to f206 ?_
   rfl
  ·refine OSl.to f209 ?_
   rfl
  ·first | omega | (simp; omega)
  ·have ea : addE p.text x (decD x q hd) = 0 := by have q_ := c213; rw [e8] at q_; exact Classical.not_not.1 q_
   rw [e8]
   exact (dec_add hdk hq hch (by omega) hhd (by assumption)).trans (Prod.ext rfl ea)
  show (zbK (zas p)).length - ((k + 1)) < (zbK (zas p)).length - k
  omega
 refine zaC<|zh<|zh<|zah<|O<|W.sr<|zcd (st93.get (k := 1) X) X zaK zR X X<|zM st93 (k := 0) X X X (za hO_c1_0.one (za hO_c1_1.one zap)) zR X X X<|fun w223 st224=>zz X X<|Y<|zB<|zbF Tryz.results27 X zaK zR X (st224.get (k := 0) X) ?_
 have ek : k = (zbK (zas p)).length := by omega
 have e1 : zcH p = x := by rw [zcH, if_pos hz0, ← ek, hdk]
 have e2 : zeV p = 0 := by rw [zeV, if_pos hz0, ← ek, hdk]
 refine ⟨h91, v_c1_0, v_c1_1, _, _, congrArg Ending.returned (tup2 rfl (zar ?_)), ((((((l50.trans le54).trans le62).trans le71).trans le77).trans le84).trans le92), st224.sublist (own' := [o_c1_0, o_c1_1]) (.cons _ (.cons _ (.cons_cons _ (.cons_cons _ (.slnil))))), OSl.to hO_c1_0 ?_, OSl.to hO_c1_1 ?_⟩
 all_goals first | rfl | exact e2.symm | (rw [e1]; done) | (rw [e1]; rfl) | (rw [e1]; assumption)
end Go.Pk
