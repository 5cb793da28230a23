/- A PART OF THE PROOF: contracts of functions, each walked once (much of it printed by a program of the author's own). -/
import Derived.Test.YtfpiiheehdedmaaGreatDoorT12
import Derived.Test.YtfpiiheehdedmaaGreatDoorT9
import Derived.Test.YtfpiiheehdedmaaGreatDoorT2
import Derived.Test.YtfpiiheehdedmaaGreatDoorT6
import Derived.Test.YtfpiiheehdedmaaGreatDoorT3
import Derived.Test.YtfpiiheehdedmaaGreatDoorT8
import Derived.Test.YtfpiiheehdedmaaGreatDoorT7
import Derived.Test.YtfpiiheehdedmaaGreatDoorT4
set_option linter.unusedSimpArgs false
set_option linter.unusedVariables false
set_option maxRecDepth 4000
namespace Go.Pk
open Go Go.RowKit Go.Proofs
theorem c_vote_Truth {h : Heap} {w : World} (hs : Sub h w) {p : Poll} {p_v0 : Value} (p_f0 : Sl LChapter h p_v0 p.text.chapters) {p_v1 : Value} (p_f1 : Sl LRule h p_v1 p.lexicon.rules) {p_v2 : Value} (p_f2 : Sl LDecision h p_v2 p.lexicon.decisions) {p_v3 : Value} (p_f3 : Sl LQuestion h p_v3 p.questions) {p_v4 : Value} (p_f4 : Sl LVoter h p_v4 p.voters) (K1 : Cells h 1 0 Tryz.glob1) (K0 : Cells h 0 0 Tryz.glob0) : Calls Tryz.prog 39 #[.agg #[p_v0, p_v1, p_v2, p_v3, p_v4]] w (Rets h w (fun h' _ res_ => ∃ u0, res_ = .tuple #[u0, .int .i64 (allE p true)] ∧ Sl LInt h' u0 ((((allL p true)[0]?).getD [])))) := by
 refine zP (n := 17) Tryz.func39 X X X<|have st0:=t_s0 hs;have p_f0_b:=p_f0.le;have p_f1_b:=p_f1.le;have p_f2_b:=p_f2.le;have p_f3_b:=p_f3.le;have p_f4_b:=p_f4.le;W.sr<|zJ st0 (cs := [p_v0, p_v1, p_v2, p_v3, p_v4]) X X X<|fun b1 w2 h3 le4 hc5 st6=>zcM X X<|zq X X<|Y<|W.sr<|zr st6.sub hc5 X zaE zad X X<|ze st6 X X X zhj X (zfi st6.sub (p := p) (p_f0.up le4) (p_f1.up le4) (p_f2.up le4) (p_f3.up le4) (p_f4.up le4) _ (K1.up le4) (K0.up le4))<|fun r7 w8 h9 le10 st11 q12=> ?_
 obtain ⟨v13, rfl, f14⟩ := q12
 have f14_b := f14.le
 refine zbY X X<|zA (v := v13) X X X<|zA (v := (.int _ _)) X X X<|zaf (v := v13) X X<|zq X X<|Y<|zj<|W.sr<|zh X X<|zcf X X X<|Y ?_
 refine zC rfl (fun c15 => ?_) (fun c15 => ?_)
 ·
  refine W.sr<|zh X X<|zcM X X<|zq X X<|Y<|zw<|zd<|zbb Tryz.results39 ?_
  refine ⟨h9, _, rfl, st11.done, ?_⟩
  refine ⟨_, tup2 rfl (zah ?_), Sl.to (Sl.nil _ _) ?_⟩
  all_goals simp_all [allL]
 refine zy<|O<|zj ?_
 have hz0 : allE p true = 0 := by simpa using c15
 obtain ⟨hk1, hk2, hk3, hk4⟩ := zgQ hz0
 have hk5 := List.length_pos_iff.2 hk3
 have hk6 : (allL p true).length = (zM p).length := by rw [hk4]
 have hk7 := zep (zcb hk1).2
 have hk8 := zcO (zcb hk1).2
 refine zn<|zR (v := v13) X X ?_
 obtain ⟨a, ha⟩ : ∃ y_, ((allL (p) (true)))[0]? = some y_ := t_ge (by omega)
 obtain ⟨b16, o17, _, he19, hc18, hr_a⟩ := Sl.elem f14 ha
 obtain ⟨v20, rfl, f21⟩ := hr_a
 have f21_b := f21.le
 refine zU he19 X X (hk := X) (hu := zbw) (hz := zbs) X<|U (j := 0) st11.sub hc18 X X X zce X<|zaf (v := v20) X X<|zq X X<|Y<|zw<|zbb Tryz.results39 ?_
 refine ⟨h9, _, rfl, st11.done, ?_⟩
 refine ⟨_, tup2 rfl (zah ?_), Sl.to f21 ?_⟩
 all_goals simp_all [allL]
theorem zhY {h : Heap} {w : World} (hs : Sub h w) {ts_v : Value} {ts : (List (List Int))} (ts_f : Sl (LSl LInt) h ts_v ts) {p_ : Nat} (hn : 0 < ts.length) (hl : ∀ t ∈ ts, t.length = p_) (hq : p_ ≤ 6) : Calls Tryz.prog 78 #[ts_v] w (Rets h w (fun h' _ res_ => ∃ u0, res_ = u0 ∧ Sl LInt h' u0 ((zcU ts)))) := by
 refine zP (n := 39) Tryz.func78 X X X<|have st0:=t_s0 hs;have ts_f_b:=ts_f.le;W.sr<|zcM X X<|Y<|zj ?_
 obtain ⟨a0, ha0⟩ : ∃ y, (ts)[0]? = some y := ⟨_, List.getElem?_eq_getElem (by omega)⟩
 refine zn<|have hla0:=hl a0 (List.mem_of_getElem? ha0);zR (v := ts_v) X X ?_
 obtain ⟨b1, o2, _, he4, hc3, hr_a0⟩ := Sl.elem ts_f ha0
 obtain ⟨v5, rfl, f6⟩ := hr_a0
 have f6_b := f6.le
 refine zU he4 X X (hk := X) (hu := zbw) (hz := zbs) X<|U (j := 0) st0.sub hc3 X X X zce X ?_
 refine zay rfl rfl (zaV rfl Tryz.call109 rfl) ((zet st0.sub f6 (by have q2 := hl a0 (List.mem_of_getElem? ha0); omega)).mono ?_)
 rintro _ w8 ⟨h9, v7, o12, rfl, le10, s14, f13⟩
 refine ⟨_, rfl, ?_⟩
 have st11 := st0.call s14
 refine zaf (v := v7) X X<|Y<|zj<|W.sr<|zR (v := ts_v) X X<|zaH (ts_f.up le10) X zbw X<|zh X X<|Y<|zG ?_
 refine zax ([5, 6, 7] ++ t_rg 14 24) (G := Nat × List (Nat × Obj) × Heap) (fun ⟨i, o_3, h15⟩ => [(14, .int .i64 (i : Int))]) (fun ⟨i, o_3, h15⟩ w' => Le h9 h15 ∧ St h w h15 w' [o_3] ∧ (OSl LInt 3 h15 v7 ((setK (ts.take i) a0)) o_3) ∧ (i ≤ ts.length)) (fun ⟨i, o_3, h15⟩ => ts.length - i) ⟨0, o12, h9⟩ ⟨rfl, trivial⟩ ⟨Le.refl _, st11, (OSl.to f13 (by (rw [setK_nil]))), zaW⟩ ?_
 rintro ⟨i, o_3, h15⟩ _ w18 ⟨le16, st17, hO_3, hi⟩
 refine W.sr<|zaX X X X<|Y<|zj ?_
 refine zC rfl (fun c19 => ?_) (fun c19 => ?_)
 ·
  refine zy<|O<|zj<|zG<|W.sr ?_
  obtain ⟨t, ht⟩ : ∃ y_, (ts)[i]? = some y_ := t_ge (by omega)
  have l24 := le10.trans le16
  obtain ⟨b20, o21, _, he23, hc22, hr_t⟩ := Sl.elem (ts_f.up l24) ht
  obtain ⟨v25, rfl, f26⟩ := hr_t
  have f26_b := f26.le
  refine zU he23 X X (hk := X) (hu := zbw) (hz := zbs) X<|U (j := 0) st17.sub hc22 X X X zce X<|zaf (v := v25) X X<|Y<|W.sr<|zR (v := v25) X X<|zaH f26 X zg X<|zh X X<|Y<|zG ?_
  refine zax ([6, 7] ++ t_rg 20 17) (G := Nat × List (Nat × Obj) × Heap) (fun ⟨k, o_3, h27⟩ => [(20, .int .i64 (k : Int))]) (fun ⟨k, o_3, h27⟩ w' => Le h15 h27 ∧ St h w h27 w' [o_3] ∧ (OSl LInt 3 h27 v7 ((setM ts a0 i k)) o_3) ∧ (k ≤ t.length)) (fun ⟨k, o_3, h27⟩ => t.length - k) ⟨0, o_3, h15⟩ ⟨rfl, trivial⟩ ⟨Le.refl _, st17, (OSl.to hO_3 (by exact (setM_zero _ _ _).symm)), zaW⟩ ?_
  rintro ⟨k, o_3, h27⟩ _ w30 ⟨le28, st29, hO_3, hk⟩
  have hml := setM_len ts a0 i k
  refine W.sr<|zaX X X X<|Y<|zj ?_
  refine zC rfl (fun c31 => ?_) (fun c31 => ?_)
  ·
   refine zy<|O<|zj<|zG<|W.sr<|zh X X ?_
   obtain ⟨x, hx⟩ : ∃ y_, (t)[k]? = some y_ := t_ge (by omega)
   obtain ⟨b32, o33, _, he35, hc34, hr_x⟩ := Sl.elem (f26.up le28) hx
   obtain rfl := hr_x
   refine zU he35 X X (hk := X) (hu := zg) (hz := zl) X<|U (j := 0) st29.sub hc34 X X X zz X<|zq X X<|zq X X<|Y<|W.sr<|zh X X<|zR (v := ts_v) X X<|zU he4 X X (hk := X) (hu := zbw) (hz := zbs) X<|have l36:=l24.trans le28;U (j := 0) st29.sub (hc3.up l36) X X X zce X<|zh X X ?_
   obtain ⟨y, hy⟩ : ∃ y_, (a0)[k]? = some y_ := t_ge (by have q1 := hl t (List.mem_of_getElem? ht); have q2 := hl a0 (List.mem_of_getElem? ha0); omega)
   obtain ⟨b37, o38, _, he40, hc39, hr_y⟩ := Sl.elem (f6.up l36) hy
   obtain rfl := hr_y
   refine zU he40 X X (hk := X) (hu := zg) (hz := zl) X<|U (j := 0) st29.sub hc39 X X X zz X<|zcf X X X<|Y ?_
   refine zC rfl (fun c41 => ?_) (fun c41 => ?_)
   ·
    refine zn<|zR (v := v7) X X<|zh X X ?_
    obtain ⟨y42, hy42⟩ : ∃ y_, ((setM ts a0 i k))[k]? = some y_ := t_ge (by rw [setM_len]; have q1 := hl t (List.mem_of_getElem? ht); have q2 := hl a0 (List.mem_of_getElem? ha0); omega)
    obtain ⟨b43, o44, cur45, _, e48, he46, hr_y42, hc47⟩ := OSl.elem hO_3 hy42
    subst e48
    obtain rfl := hr_y42
    refine zU he46 X X (hk := X) (hu := zg) (hz := zl) X ?_
    refine zdS (k := 0) st29 hO_3 rfl (by rw [setM_len]; have q1 := hl t (List.mem_of_getElem? ht); have q2 := hl a0 (List.mem_of_getElem? ha0); omega) he46 rfl rfl (rfl) zl ?_
    intro o49 w50 _ e51 f52 st53
    subst e51
    refine zp<|zO<|O<|zn<|zaM X X t_om X<|zh X X<|Y ?_
    refine ⟨⟨k + 1, o49, h27⟩, ⟨rfl, trivial⟩, ?_, ⟨le28, st53, ?_, ?_⟩, ?_⟩
    ·exact zau
    ·refine OSl.to f52 ?_
     exact (setM_else ht hy hx c41).symm
    ·first | omega | (simp; omega)
    show t.length - ((k + 1)) < t.length - k
    omega
   refine zy<|zO<|O<|zn<|zaM X X t_om X<|zh X X<|Y ?_
   refine ⟨⟨k + 1, o_3, h27⟩, ⟨rfl, trivial⟩, ?_, ⟨le28, st29, ?_, ?_⟩, ?_⟩
   ·exact zau
   ·refine OSl.to hO_3 ?_
    exact (setM_same ht hy hx (by simpa using c41)).symm
   ·first | omega | (simp; omega)
   show t.length - ((k + 1)) < t.length - k
   omega
  refine zaI<|zm<|zm<|zam<|zO<|O<|zn<|zaM X X t_om X<|zh X X<|Y ?_
  refine ⟨⟨i + 1, o_3, h27⟩, ⟨rfl, trivial⟩, ?_, ⟨(le16.trans le28), st29, ?_, ?_⟩, ?_⟩
  ·exact zau
  ·refine OSl.to hO_3 ?_
   exact setM_end (by have q1 := hl t (List.mem_of_getElem? ht); omega)
  ·first | omega | (simp; omega)
  show ts.length - ((i + 1)) < ts.length - i
  omega
 refine zaI<|zm<|zm<|zam<|O<|W.sr<|zR (v := v7) X X<|zaf (v := v7) X X<|Y<|zw<|zb Tryz.results78 ?_
 obtain ⟨h54, le55, f56, st57⟩ := OSl.freeze (k := 0) st17 hO_3 rfl (by rw [zfL]; omega)
 refine ⟨h54, _, rfl, st57.done, ?_⟩
 refine ⟨_, rfl, Sl.to f56 ?_⟩
 rw [zcU, ha0, List.take_of_length_le (by omega)]
theorem zdx {h : Heap} {w : World} (hs : Sub h w) {p : Poll} {p_v0 : Value} (p_f0 : Sl LChapter h p_v0 p.text.chapters) {p_v1 : Value} (p_f1 : Sl LRule h p_v1 p.lexicon.rules) {p_v2 : Value} (p_f2 : Sl LDecision h p_v2 p.lexicon.decisions) {p_v3 : Value} (p_f3 : Sl LQuestion h p_v3 p.questions) {p_v4 : Value} (p_f4 : Sl LVoter h p_v4 p.voters) (K1 : Cells h 1 0 Tryz.glob1) (K0 : Cells h 0 0 Tryz.glob0) : Calls Tryz.prog 37 #[.agg #[p_v0, p_v1, p_v2, p_v3, p_v4]] w (Rets h w (fun h' _ res_ => ∃ u0, res_ = .tuple #[u0, .int .i64 (allE p true)] ∧ Sl LInt h' u0 ((zbz p)))) := by
 refine zP (n := 16) Tryz.func37 X X X<|have st0:=t_s0 hs;have p_f0_b:=p_f0.le;have p_f1_b:=p_f1.le;have p_f2_b:=p_f2.le;have p_f3_b:=p_f3.le;have p_f4_b:=p_f4.le;W.sr<|zJ st0 (cs := [p_v0, p_v1, p_v2, p_v3, p_v4]) X X X<|fun b1 w2 h3 le4 hc5 st6=>zcM X X<|zq X X<|Y<|W.sr<|zr st6.sub hc5 X zaE zad X X<|ze st6 X X X zhj X (zfi st6.sub (p := p) (p_f0.up le4) (p_f1.up le4) (p_f2.up le4) (p_f3.up le4) (p_f4.up le4) _ (K1.up le4) (K0.up le4))<|fun r7 w8 h9 le10 st11 q12=> ?_
 obtain ⟨v13, rfl, f14⟩ := q12
 have f14_b := f14.le
 refine zbY X X<|zA (v := v13) X X X<|zA (v := (.int _ _)) X X X<|zaf (v := v13) X X<|zq X X<|Y<|zj<|W.sr<|zh X X<|zcf X X X<|Y ?_
 refine zC rfl (fun c15 => ?_) (fun c15 => ?_)
 ·
  refine W.sr<|zh X X<|zcM X X<|zq X X<|Y<|zw<|zd<|zbb Tryz.results37 ?_
  refine ⟨h9, _, rfl, st11.done, ?_⟩
  refine ⟨_, tup2 rfl (zah ?_), Sl.to (Sl.nil _ _) ?_⟩
  all_goals (simp_all [zbz])
 refine zy<|O<|zj ?_
 have hz0 : allE p true = 0 := by simpa using c15
 obtain ⟨hk1, hk2, hk3, hk4⟩ := zgQ hz0
 have hk5 := List.length_pos_iff.2 hk3
 have hk6 : (allL p true).length = (zM p).length := by rw [hk4]
 have hk7 := zep (zcb hk1).2
 have hk8 := zcO (zcb hk1).2
 refine zn<|zR (v := v13) X X ?_
 refine ze st11 rfl rfl rfl Tryz.call78 rfl (zhY st11.sub f14 (by omega) (by intro t ht_; rw [hk4] at ht_; exact zdB ht_) (by omega)) ?_
 intro r16 w17 h18 le19 st20 q21
 obtain ⟨v22, e24, f23⟩ := q21
 rw [← e24] at f23
 have f23_b := f23.le
 refine zaf (v := r16) X X<|zq X X<|Y<|zw<|zbb Tryz.results37 ?_
 refine ⟨h18, _, rfl, st20.done, ?_⟩
 refine ⟨_, tup2 rfl (zah ?_), Sl.to f23 ?_⟩
 all_goals first | (rw [zbz, if_pos hz0, hk4]; done) | (simp_all [zbz]; done)
theorem c_vote_Open {h : Heap} {w : World} (hs : Sub h w) {p : Poll} {p_v0 : Value} (p_f0 : Sl LChapter h p_v0 p.text.chapters) {p_v1 : Value} (p_f1 : Sl LRule h p_v1 p.lexicon.rules) {p_v2 : Value} (p_f2 : Sl LDecision h p_v2 p.lexicon.decisions) {p_v3 : Value} (p_f3 : Sl LQuestion h p_v3 p.questions) {p_v4 : Value} (p_f4 : Sl LVoter h p_v4 p.voters) (question : Int) (K1 : Cells h 1 0 Tryz.glob1) (K0 : Cells h 0 0 Tryz.glob0) : Calls Tryz.prog 36 #[.agg #[p_v0, p_v1, p_v2, p_v3, p_v4], .int .i64 question] w (Rets h w (fun h' _ res_ => ∃ u0, res_ = .tuple #[u0, .int .i64 (allE p (inB question 0 ((p.questions.length : Int) - 1)))] ∧ Sl LInt h' u0 ((openR p question)))) := by
 refine zP (n := 44) Tryz.func36 X X X<|have st0:=t_s0 hs;have p_f0_b:=p_f0.le;have p_f1_b:=p_f1.le;have p_f2_b:=p_f2.le;have p_f3_b:=p_f3.le;have p_f4_b:=p_f4.le;W.sr<|zJ st0 (cs := [p_v0, p_v1, p_v2, p_v3, p_v4]) X X X<|fun b1 w2 h3 le4 hc5 st6=>zcM X X<|zq X X<|Y<|zj<|zbg (er := ([], [], [], [], 0)) (dsts := [12, 13, 14, 15, 16, 17, 18, 19, 20, 11, 21, 22, 6, 7]) st6 Tryz.mixed<|zc 0 [] X t_kr t_kr X X (fun hD wD τD hL hS hO  => (zat (hL.sub hS) hc5 X zaE zad X))<|zc 1 [] X t_kr t_kr X X (fun hD wD τD hL hS hO  => (zB X zt X zbe X))<|zc 2 [0] X t_kr t_kr X X (fun hD wD τD hL hS hO _ _ => (zf (j := 3) (hL.sub hS) hc5 X X X zby))<|zc 3 [0] X t_kr t_kr X X (fun hD wD τD hL hS hO _ _ => (zhS (p_f3.up le4) X zaq))<|zc 4 [0] X t_kr t_kr X X (fun hD wD τD hL hS hO _ _ => (ziF X X t_om))<|zc 5 [] X t_kr t_kr X X (fun hD wD τD hL hS hO  => (zel X)) ?_
 refine zas 6 (.res (fun h' res_ => Sl LInt h' res_ ([question])) (fun _ _ _ hl f => f.up hl)) [0] rfl t_kr t_kr ?_ ?_
 ·
  intro hD wD τD hL hS hO _ _
  have st7 := St.start hS
  refine zac (L := LInt) (xs := [question]) (cs := [.int .i64 question]) st7 (Enc.cons (L := LInt) (vs := [.int .i64 question]) (x := question) (h := hD) (X) Enc.nil) X X X zg Tryz.info3 X X X t_kr<|fun v8 w9 h12 le13 f10 st11=> ?_
  exact zp ⟨_, _, rfl, st11, _, rfl, f10⟩
 refine zas 7 (.det (.bool ((inB question 0 ((p.questions.length : Int) - 1))))) [2, 0] rfl t_kr t_kr ?_ ?_
 ·
  intro hD wD τD hL hS hO _ _ gv6_0 gf6_0
  have st14 := St.start hS
  have con := (zes st14.sub (lo := 0) (hi := ((p.questions.length : Int) - 1)) gf6_0)
  rw [inAll_one] at con
  refine ze st14 X X X zfm X con<|fun r15 w16 h17 le18 st19 q20=> ?_
  obtain rfl := q20
  clear con
  exact zp ⟨_, _, rfl, st19, (), rfl, trivial⟩
 refine zas 8 (.res (fun h' res_ => ∃ gv8_0, res_ = .tuple #[gv8_0, .int .i64 (allE (p) (((inB question 0 ((p.questions.length : Int) - 1)))))] ∧ Sl (LSl LInt) h' gv8_0 ((allL (p) (((inB question 0 ((p.questions.length : Int) - 1))))))) (by rintro _ _ _ hl ⟨gv8_0, e_, gf8_0⟩; exact ⟨gv8_0, e_, gf8_0.up hl⟩)) [7, 0] rfl t_kr t_kr ?_ ?_
 ·
  intro hD wD τD hL hS hO _ _ _ _
  have st21 := St.start hS
  refine ze st21 X X X zhj X (zfi st21.sub (p := p) (p_f0.up (le4.trans hL)) (p_f1.up (le4.trans hL)) (p_f2.up (le4.trans hL)) (p_f3.up (le4.trans hL)) (p_f4.up (le4.trans hL)) _ (K1.up (le4.trans hL)) (K0.up (le4.trans hL)))<|fun r22 w23 h24 le25 st26 q27=> ?_
  obtain ⟨v28, rfl, f29⟩ := q27
  have f29_b := f29.le
  exact zp ⟨_, _, rfl, st26, _, rfl, ⟨_, rfl, f29⟩⟩
 refine zas 9 (.res (fun h' res_ => ∃ gv9_0, res_ = .tuple #[gv9_0, .int .i64 ((allE (p) (((inB question 0 ((p.questions.length : Int) - 1))))))] ∧ Sl (LSl LInt) h' gv9_0 (((allL (p) (((inB question 0 ((p.questions.length : Int) - 1)))))))) (by rintro _ _ _ hl ⟨gv9_0, e_, gf9_0⟩; exact ⟨gv9_0, e_, gf9_0.up hl⟩)) [0] rfl t_kr t_kr ?_ ?_
 ·
  intro hD wD τD hL hS hO gv8_ gf8_
  obtain ⟨gv8_0, rfl, gf8_0⟩ := gf8_
  have st30 := St.start hS
  refine zbY X X ?_
  exact zp ⟨_, _, rfl, st30, _, rfl, ⟨_, rfl, gf8_0⟩⟩
 refine zas 10 (.res (fun h' res_ => Sl (LSl LInt) h' res_ ((((allL (p) (((inB question 0 ((p.questions.length : Int) - 1))))))))) (fun _ _ _ hl f => f.up hl)) [0] rfl t_kr t_kr ?_ ?_
 ·
  intro hD wD τD hL hS hO gv9_ gf9_
  obtain ⟨gv9_0, rfl, gf9_0⟩ := gf9_
  have st31 := St.start hS
  refine zA (v := gv9_0) X X X ?_
  exact zp ⟨_, _, rfl, st31, _, rfl, gf9_0⟩
 refine zas 11 (.det (.int .i64 ((allE (p) (((inB question 0 ((p.questions.length : Int) - 1)))))))) [1] rfl t_kr t_kr ?_ ?_
 ·
  intro hD wD τD hL hS hO gv9_ gf9_
  obtain ⟨gv9_0, rfl, gf9_0⟩ := gf9_
  have st32 := St.start hS
  refine zA (v := (.int _ _)) X X X ?_
  exact zp ⟨_, _, rfl, st32, (), rfl, trivial⟩
 refine zas 12 (.res (fun h' res_ => Sl (LSl LInt) h' res_ (((((allL (p) (((inB question 0 ((p.questions.length : Int) - 1)))))))))) (fun _ _ _ hl f => f.up hl)) [11, 10, 9, 8, 7, 6, 5, 4, 3, 2, 1] rfl t_kr t_kr ?_ ?_
 ·
  intro hD wD τD hL hS hO _ _ _ _ _ _ _ _ _ _ _ _ gv6_0 gf6_0 _ _ gv8_ gf8_ gv9_ gf9_ gv10_0 gf10_0
  obtain ⟨gv8_0, rfl, gf8_0⟩ := gf8_
  obtain ⟨gv9_0, rfl, gf9_0⟩ := gf9_
  have st33 := St.start hS
  refine zaf (v := gv10_0) X X ?_
  exact zp ⟨_, _, rfl, st33, _, rfl, gf10_0⟩
 refine zc 13 [12, 11, 10, 9, 8, 7, 6, 5, 4, 3, 2, 1, 0] X t_kr t_kr X X (fun hD wD τD hL hS hO _ _ _ _ _ _ _ _ _ _ _ _ gv6_0 gf6_0 _ _ gv8_ gf8_ gv9_ gf9_ gv10_0 gf10_0 _ _ gv12_0 gf12_0 => (r_asI X))<|zbP X X X X X X ⟨t_kr, X, t_kr, X, t_kr, X, X, t_kr, zcu⟩<|fun hE34 w35 _ le36 st37 _ _ _ _ _ _ _ _ _ _ _ _ gv6_0x38 gf6_0x38 _ _ gv8_x38 gf8_x38 gv9_x38 gf9_x38 gv10_0x38 gf10_0x38 _ _ gv12_0x38 gf12_0x38 _ _=> ?_
 obtain ⟨gv8_0x38, rfl, gf8_0x38⟩ := gf8_x38
 obtain ⟨gv9_0x38, rfl, gf9_0x38⟩ := gf9_x38
 refine AllDeps.fin X<|O<|zj<|W.sr<|zh X X<|zcf X X X<|Y ?_
 refine zC rfl (fun c39 => ?_) (fun c39 => ?_)
 ·
  refine W.sr<|zh X X<|zcM X X<|zq X X<|Y<|zw<|zd<|zbb Tryz.results36 ?_
  refine ⟨hE34, _, rfl, st37.done, ?_⟩
  refine ⟨_, tup2 rfl (zah ?_), Sl.to (Sl.nil _ _) ?_⟩
  all_goals (simp_all [openR])
 refine zy<|O<|zj ?_
 have hz0 : allE p (inB question 0 ((p.questions.length : Int) - 1)) = 0 := by simpa using c39
 obtain ⟨hk1, hk2, hk3, hk4⟩ := zgQ hz0
 have hk5 := List.length_pos_iff.2 hk3
 have hk6 : (allL p (inB question 0 ((p.questions.length : Int) - 1))).length = (zM p).length := by rw [hk4]
 have hk7 := zep (zcb hk1).2
 have hk8 := zcO (zcb hk1).2
 have hin : inB question 0 ((p.questions.length : Int) - 1) = true := (zgQ hz0).2.1
 have hin2 : 0 ≤ question ∧ question < (p.questions.length : Int) := by simp only [inB, Bool.and_eq_true, decide_eq_true_eq] at hin; omega
 obtain ⟨q, hq⟩ : ∃ q, p.questions[question.toNat]? = some q := ⟨_, List.getElem?_eq_getElem (by omega)⟩
 have hq0 := zgL (zcb hk1).2 hq
 refine zn<|zcM X X<|Y<|zj<|W.sr<|zR (v := gv12_0x38) X X<|zaH gf12_0x38 X zbw X<|zh X X<|Y<|zG ?_
 have st43 := st37.snoc
 have f44 := OSl.nil LInt 3 hE34
 refine zax ([8, 10] ++ t_rg 28 12) (G := Nat × Value × List (Nat × Obj) × Heap) (fun ⟨i, v_8, o_8, h40⟩ => [(8, v_8), (28, .int .i64 (i : Int))]) (fun ⟨i, v_8, o_8, h40⟩ w' => Le hE34 h40 ∧ St h w h40 w' [o_8] ∧ (OSl LInt 3 h40 v_8 ((((allL p (inB question 0 ((p.questions.length : Int) - 1))).take i).map (choiceAt question.toNat))) o_8) ∧ (i ≤ (allL p (inB question 0 ((p.questions.length : Int) - 1))).length)) (fun ⟨i, v_8, o_8, h40⟩ => (allL p (inB question 0 ((p.questions.length : Int) - 1))).length - i) ⟨0, (.slice none 0 0), [], hE34⟩ ⟨rfl, rfl, trivial⟩ ⟨Le.refl _, st43, (OSl.to f44 (by rfl)), zaW⟩ ?_
 rintro ⟨i, v_8, o_8, h40⟩ _ w45 ⟨le41, st42, hO_8, hi⟩
 refine W.sr<|zaX X X X<|Y<|zj ?_
 refine zC rfl (fun c46 => ?_) (fun c46 => ?_)
 ·
  refine zy<|O<|zj<|zG<|W.sr ?_
  obtain ⟨t, ht⟩ : ∃ y_, ((((((allL (p) (((inB question 0 ((p.questions.length : Int) - 1))))))))))[i]? = some y_ := t_ge (by omega)
  obtain ⟨b47, o48, _, he50, hc49, hr_t⟩ := Sl.elem (gf12_0x38.up le41) ht
  obtain ⟨v51, rfl, f52⟩ := hr_t
  have f52_b := f52.le
  refine zU he50 X X (hk := X) (hu := zbw) (hz := zbs) X<|U (j := 0) st42.sub hc49 X X X zce X<|zaf (v := v51) X X<|Y<|zn<|zR (v := v_8) X X<|zR (v := v51) X X<|zh X X ?_
  obtain ⟨a, ha⟩ : ∃ y_, (t)[question.toNat]? = some y_ := t_ge (by have q1 := zdB (show t ∈ zM p from by rw [← hk4]; exact List.mem_of_getElem? ht); omega)
  obtain ⟨b53, o54, _, he56, hc55, hr_a⟩ := Sl.elem f52 ha
  obtain rfl := hr_a
  refine zi rfl rfl (zav he56 rfl rfl (hk := (show _ = ((question.toNat : Nat) : Int) by omega)) (hu := zg) (hz := zl)) ?_
  refine U (j := 0) st42.sub hc55 X X X zz X<|zac (L := LInt) (xs := [a]) (cs := [.int .i64 a]) st42 (Enc.cons (L := LInt) (vs := [.int .i64 a]) (x := a) (h := h40) (X) Enc.nil) X X X zg Tryz.info3 X X X t_kr<|fun v57 w58 h61 le62 f59 st60=> ?_
  refine zbB (k := 0) (nb := 8) st60 (hO_8.up le62) rfl f59 rfl rfl rfl zg Tryz.info3 rfl rfl rfl (by decide) rfl (by simp only [List.length_append, List.length_map, List.length_take, List.length_cons, List.length_nil]; omega) (by simp only [List.length_append, List.length_map, List.length_take, List.length_cons, List.length_nil]; omega) ?_
  intro v63 o64 w65 _ e66 f67 st68
  subst e66
  refine zaf (v := v63) X X<|zp<|zO<|O<|zn<|zaM X X t_om X<|zh X X<|Y ?_
  refine ⟨⟨i + 1, v63, o64, h61⟩, ⟨rfl, rfl, trivial⟩, ?_, ⟨(le41.trans le62), st68, ?_, ?_⟩, ?_⟩
  ·exact zau
  ·refine OSl.to f67 ?_
   rw [zbf ht, List.map_append, List.map_cons, List.map_nil, ziw ha]
  ·first | omega | (simp; omega)
  show (allL p (inB question 0 ((p.questions.length : Int) - 1))).length - ((i + 1)) < (allL p (inB question 0 ((p.questions.length : Int) - 1))).length - i
  omega
 refine zaI<|zm<|zm<|zam<|O<|W.sr<|zR (v := v_8) X X ?_
 have con := sort1 (L := LInt) (T := 3) (f := 94) (fun n : Int => .int .i64 n) id rfl (fun l => l.mergeSort fun a b => decide (a ≤ b)) (fun l => List.mergeSort_perm _ _) (fun blk off cap zs w hH hb hs => Tryz.slices_Sort_int blk off cap zs w hH hb hs) (fun p cap w => Tryz.slices_Sort_int_none p cap w) (i := 0) st42 hO_8 rfl (by simp only [List.length_mergeSort, List.length_map, List.length_take]; omega)
 refine zay rfl rfl (zaV rfl Tryz.call94 rfl) (con.mono ?_)
 rintro _ w69 ⟨rfl, o70, _, e71, f72, st73⟩
 subst e71
 refine ⟨_, rfl, ?_⟩
 clear con
 refine Y<|W.sr<|zR (v := v_8) X X ?_
 have con := zie (rest := []) f72 (by simp only [List.length_mergeSort, List.length_map, List.length_take]; omega) st73
 refine zay rfl rfl (zaV rfl Tryz.call95 rfl) (con.mono ?_)
 rintro _ w74 ⟨h75, o76, v77, rfl, le78, st79, f80⟩
 refine ⟨_, rfl, ?_⟩
 clear con
 have f81 := OSl.to f80 (show _ = (zht (zM p) question.toNat q.heads.length) from by rw [List.take_of_length_le (by omega), hk4]; exact open_sorted fun t ht_ => truth_at ht_ hq)
 refine zaf (v := v77) X X<|zq X X<|Y<|zw<|zbb Tryz.results36 ?_
 obtain ⟨h82, le83, f84, st85⟩ := OSl.freeze (k := 0) st79 f81 rfl (by have q_ := openK_len (zM p) question.toNat q.heads.length; omega)
 refine ⟨h82, _, rfl, st85.done, ?_⟩
 refine ⟨_, tup2 rfl (zah ?_), Sl.to f84 ?_⟩
 all_goals first | exact hz0.symm | (rw [openR, if_pos hz0, hq]; rfl) | (simp_all [openR]; done)
end Go.Pk

namespace Go.Pk
open Go Go.RowKit Go.Proofs
set_option maxHeartbeats 1000000 in
theorem c_postilref07_Great {h : Heap} {w : World} (hs : Sub h w) {p : Poll} {p_v0 : Value} (p_f0 : Sl LChapter h p_v0 p.text.chapters) {p_v1 : Value} (p_f1 : Sl LRule h p_v1 p.lexicon.rules) {p_v2 : Value} (p_f2 : Sl LDecision h p_v2 p.lexicon.decisions) {p_v3 : Value} (p_f3 : Sl LQuestion h p_v3 p.questions) {p_v4 : Value} (p_f4 : Sl LVoter h p_v4 p.voters) : Calls Tryz.prog 15 #[.agg #[p_v0, p_v1, p_v2, p_v3, p_v4]] w (Rets h w (fun _ _ res_ => res_ = .bool ((!zdV p)))) := by
 refine zP (n := 79) Tryz.func15 X X X<|have st0:=t_s0 hs;have p_f0_b:=p_f0.le;have p_f1_b:=p_f1.le;have p_f2_b:=p_f2.le;have p_f3_b:=p_f3.le;have p_f4_b:=p_f4.le;W.sr<|zJ st0 (cs := [p_v0, p_v1, p_v2, p_v3, p_v4]) X X X<|fun b1 w2 h3 le4 hc5 st6=>zF X X<|Y<|zj<|W.sr<|E X zt X zaA X X<|zal (j := 0) st6.sub hc5 (us := [p_v0]) X X zbk zaA X X X<|ze st6 X X X Tryz.call50 X (c_postilref01_Great st6.sub (t := p.text) (p_f0.up le4))<|fun r7 w8 h9 le10 st11 q12=> ?_
 obtain rfl := q12
 refine zS X X ?_
 refine zaw (d := 9) rfl (fun g13 => ?_) (fun g13 => ?_)
 ·
  refine M X X X X X<|M X X X X X<|M X X X X X<|zT (v := (.bool _)) X X X<|zS X X<|M X X X X X<|M X X X X X<|M X X X X X<|M X X X X X<|zT (v := (.bool _)) X X X<|zS X X<|M X X X X X<|M X X X X X<|M X X X X X<|M X X X X X<|zT (v := (.bool _)) X X X<|Y ?_
  refine zae rfl (fun c14 => ?_) (fun c14 => ?_)
  ·
   refine W.sr<|zF X X<|Y<|zw<|zd<|zb zey ?_
   refine ⟨h9, _, rfl, st11.done, ?_⟩
   refine zx ?_
   rw [small_no p (.inl (by simp_all))]; rfl
  cases c14
 refine Z X X X<|E X zt X zaC X X<|Z X X X<|zal (j := 1) st11.sub (hc5.up le10) (us := [p_v1, p_v2]) X X zbL zaC X X X<|Z X X X<|have l15:=le4.trans le10;ze st11 X X X Tryz.call51 X (c_postilref04_Great st11.sub (x := p.lexicon) (p_f1.up l15) (p_f2.up l15))<|fun r16 w17 h18 le19 st20 q21=> ?_
 obtain rfl := q21
 refine zN (v := (.bool _)) X X X<|zS X X ?_
 refine zaw (d := 14) rfl (fun g22 => ?_) (fun g22 => ?_)
 ·
  refine M X X X X X<|M X X X X X<|M X X X X X<|M X X X X X<|zT (v := (.bool _)) X X X<|zS X X<|M X X X X X<|M X X X X X<|M X X X X X<|M X X X X X<|zT (v := (.bool _)) X X X<|Y ?_
  refine zae rfl (fun c23 => ?_) (fun c23 => ?_)
  ·
   refine W.sr<|zF X X<|Y<|zw<|zd<|zb zey ?_
   refine ⟨h18, _, rfl, st20.done, ?_⟩
   refine zx ?_
   rw [small_no p (.inr (.inl (by simp_all)))]; rfl
  cases c23
 refine Z X X X<|E X zt X zbe X X<|Z X X X<|U (j := 3) st20.sub (hc5.up (le10.trans le19)) X X X zby X<|Z X X X<|have l24:=l15.trans le19;zaH (p_f3.up l24) X zaq X<|Z X X X<|zdm X X X<|zN (v := (.bool _)) X X X<|zS X X ?_
 refine zY (d := 20) rfl (fun g25 => ?_) (fun g25 => ?_)
 ·
  refine M X X X X X<|M X X X X X<|M X X X X X<|M X X X X X<|zT (v := (.bool _)) X X X<|Y ?_
  refine zae rfl (fun c26 => ?_) (fun c26 => ?_)
  ·
   refine W.sr<|zF X X<|Y<|zw<|zd<|zb zey ?_
   refine ⟨h18, _, rfl, st20.done, ?_⟩
   refine zx ?_
   rw [small_no p (.inr (.inr (.inl (by omega))))]; rfl
  cases c26
 refine Z X X X<|E X zt X zaL X X<|Z X X X<|U (j := 4) st20.sub (hc5.up (le10.trans le19)) X X X zbj X<|Z X X X<|zaH (p_f4.up l24) X zaa X<|Z X X X<|zdm X X X<|zN (v := (.bool _)) X X X<|Y ?_
 refine zC rfl (fun c27 => ?_) (fun c27 => ?_)
 ·
  refine W.sr<|zF X X<|Y<|zw<|zd<|zb zey ?_
  refine ⟨h18, _, rfl, st20.done, ?_⟩
  refine zx ?_
  rw [small_no p (.inr (.inr (.inr (by omega))))]; rfl
 refine zy<|O<|zj<|W.sr<|zq X X<|Y<|zG ?_
 refine zax ([2, 3, 4] ++ t_rg 26 38) (G := Nat × Heap) (fun ⟨i, h28⟩ => [(3, .int .i64 (i : Int))]) (fun ⟨i, h28⟩ w' => Le h18 h28 ∧ St h w h28 w' [] ∧ (i ≤ p.questions.length) ∧ ((p.questions.take i).all zhp = true)) (fun ⟨i, h28⟩ => p.questions.length - i) ⟨0, h18⟩ ⟨rfl, trivial⟩ ⟨Le.refl _, st20, zaW, zaW⟩ ?_
 rintro ⟨i, h28⟩ _ w31 ⟨le29, st30, hi, hA⟩
 refine zj<|W.sr<|zh X X<|E X zt X zbe X X<|U (j := 3) st30.sub (hc5.up ((le10.trans le19).trans le29)) X X X zby X<|have l32:=l24.trans le29;zaH (p_f3.up l32) X zaq X<|zaX X X X<|Y ?_
 refine zC rfl (fun c33 => ?_) (fun c33 => ?_)
 ·
  refine zy<|O<|zj<|zG<|zj<|W.sr<|E X zt X zbe X X<|U (j := 3) st30.sub (hc5.up ((le10.trans le19).trans le29)) X X X zby X<|zh X X ?_
  obtain ⟨q, hq⟩ : ∃ y_, (p.questions)[i]? = some y_ := t_ge (by omega)
  obtain ⟨b34, o35, _, he37, hc36, hr_q⟩ := Sl.elem (p_f3.up l32) hq
  obtain ⟨v38, rfl, f39⟩ := hr_q
  have f39_b := f39.le
  refine zU he37 X X (hk := X) (hu := zaq) (hz := zbR) X<|E X zaF X zch X X<|U (j := 3) st30.sub hc36 X X X zcy X<|zaH f39 X zaZ X<|zdm X X X<|Y ?_
  refine zC rfl (fun c40 => ?_) (fun c40 => ?_)
  ·
   refine W.sr<|zF X X<|Y<|zw<|zd<|zK<|zd<|zd<|zK<|zd<|zb zey ?_
   refine ⟨h28, _, rfl, st30.done, ?_⟩
   refine zx ?_
   rw [small_noq hq (small_q6 (by omega))]; rfl
  refine zy<|O<|W.sr<|zq X X<|Y<|zG ?_
  refine zax ([2, 4] ++ t_rg 41 23) (G := Nat × Heap) (fun ⟨k, h41⟩ => [(4, .int .i64 (k : Int))]) (fun ⟨k, h41⟩ w' => Le h28 h41 ∧ St h w h41 w' [] ∧ (k ≤ q.heads.length) ∧ (((q.heads.take k).all fun h => decide (h.stem.length ≤ 40)) = true)) (fun ⟨k, h41⟩ => q.heads.length - k) ⟨0, h28⟩ ⟨rfl, trivial⟩ ⟨Le.refl _, st30, zaW, zaW⟩ ?_
  rintro ⟨k, h41⟩ _ w44 ⟨le42, st43, hk, hB⟩
  refine zj<|W.sr<|zh X X<|E X zt X zbe X X<|have l45:=((le10.trans le19).trans le29).trans le42;U (j := 3) st43.sub (hc5.up l45) X X X zby X<|zh X X<|zU he37 X X (hk := X) (hu := zaq) (hz := zbR) X<|E X zaF X zch X X<|U (j := 3) st43.sub (hc36.up le42) X X X zcy X<|zaH (f39.up le42) X zaZ X<|zaX X X X<|Y ?_
  refine zC rfl (fun c46 => ?_) (fun c46 => ?_)
  ·
   refine zy<|O<|zj<|zG<|W.sr<|E X zt X zbe X X<|U (j := 3) st43.sub (hc5.up l45) X X X zby X<|zh X X<|zU he37 X X (hk := X) (hu := zaq) (hz := zbR) X<|E X zaF X zch X X<|U (j := 3) st43.sub (hc36.up le42) X X X zcy X<|zh X X ?_
   obtain ⟨hd, hhd⟩ : ∃ y_, (q.heads)[k]? = some y_ := t_ge (by omega)
   obtain ⟨b47, o48, _, he50, hc49, hr_hd⟩ := Sl.elem (f39.up le42) hhd
   obtain ⟨rfl, ls51, lu52⟩ := hr_hd
   simp only [big] at ls51
   refine zU he50 X X (hk := X) (hu := zaZ) (hz := zai) X<|E X zbn X zak X X<|U (j := 0) st43.sub hc49 X X X zaD X<|zcx X zaB X<|zdm X X X<|Y ?_
   refine zC rfl (fun c53 => ?_) (fun c53 => ?_)
   ·
    refine W.sr<|zF X X<|Y<|zw<|zK<|zd<|zd<|zK<|zK<|zd<|zd<|zK<|zd<|zb zey ?_
    refine ⟨h41, _, rfl, st43.done, ?_⟩
    refine zx ?_
    rw [small_noq hq (small_qh hhd (by omega))]; rfl
   refine zy<|zO<|O<|zn<|zh X X<|zaM X X t_om X<|zq X X<|Y ?_
   refine ⟨⟨k + 1, h41⟩, ⟨rfl, trivial⟩, ?_, ⟨le42, st43, ?_, ?_⟩, ?_⟩
   ·exact zau
   ·first | omega | (simp; omega)
   ·rw [all_snocB hhd, hB, Bool.true_and]; exact decide_eq_true (by omega)
   show q.heads.length - ((k + 1)) < q.heads.length - k
   omega
  refine zaI<|zm<|zm<|zam<|zO<|O<|zn<|zh X X<|zaM X X t_om X<|zq X X<|Y ?_
  refine ⟨⟨i + 1, h41⟩, ⟨rfl, trivial⟩, ?_, ⟨(le29.trans le42), st43, ?_, ?_⟩, ?_⟩
  ·exact zau
  ·first | omega | (simp; omega)
  ·rw [all_snocB hq, hA, Bool.true_and]; exact small_qy (by omega) hB (by omega)
  show p.questions.length - ((i + 1)) < p.questions.length - i
  omega
 refine zaI<|zm<|zm<|zam<|O<|zj<|W.sr<|zq X X<|Y<|zG ?_
 refine zax ([2, 5] ++ t_rg 64 15) (G := Nat × Heap) (fun ⟨j, h54⟩ => [(5, .int .i64 (j : Int))]) (fun ⟨j, h54⟩ w' => Le h28 h54 ∧ St h w h54 w' [] ∧ (j ≤ p.voters.length) ∧ ((p.voters.take j).all smallV = true)) (fun ⟨j, h54⟩ => p.voters.length - j) ⟨0, h28⟩ ⟨rfl, trivial⟩ ⟨Le.refl _, st30, zaW, zaW⟩ ?_
 rintro ⟨j, h54⟩ _ w57 ⟨le55, st56, hj, hV⟩
 refine zj<|W.sr<|zh X X<|E X zt X zaL X X<|have l58:=((le10.trans le19).trans le29).trans le55;U (j := 4) st56.sub (hc5.up l58) X X X zbj X<|have l59:=l32.trans le55;zaH (p_f4.up l59) X zaa X<|zaX X X X<|Y ?_
 refine zC rfl (fun c60 => ?_) (fun c60 => ?_)
 ·
  refine zy<|O<|zj<|zG<|W.sr<|E X zt X zaL X X<|U (j := 4) st56.sub (hc5.up l58) X X X zbj X<|zh X X ?_
  obtain ⟨v, hv⟩ : ∃ y_, (p.voters)[j]? = some y_ := t_ge (by omega)
  obtain ⟨b61, o62, _, he64, hc63, hr_v⟩ := Sl.elem (p_f4.up l59) hv
  obtain ⟨v65, rfl, f66⟩ := hr_v
  have f66_b := f66.le
  refine zU he64 X X (hk := X) (hu := zaa) (hz := zaT) X<|E X zaz X zbs X X<|U (j := 2) st56.sub hc63 X X X zce X<|zaH f66 X zg X<|zdm X X X<|Y ?_
  refine zC rfl (fun c67 => ?_) (fun c67 => ?_)
  ·
   refine W.sr<|zF X X<|Y<|zw<|zK<|zd<|zd<|zK<|zd<|zb zey ?_
   refine ⟨h54, _, rfl, st56.done, ?_⟩
   refine zx ?_
   rw [small_nov hv (by omega)]; rfl
  refine zy<|zO<|O<|zn<|zh X X<|zaM X X t_om X<|zq X X<|Y ?_
  refine ⟨⟨j + 1, h54⟩, ⟨rfl, trivial⟩, ?_, ⟨le55, st56, ?_, ?_⟩, ?_⟩
  ·exact zau
  ·first | omega | (simp; omega)
  ·rw [all_snocB hv, hV, Bool.true_and]; exact decide_eq_true (by omega)
  show p.voters.length - ((j + 1)) < p.voters.length - j
  omega
 refine zaI<|zm<|zm<|zam<|O<|W.sr<|zF X X<|Y<|zw<|zb zey ?_
 refine ⟨h54, _, rfl, st56.done, ?_⟩
 refine zx ?_
 rw [small_yes (by simp_all) (by simp_all) (by omega) (by omega) hA (by omega) hV (by omega)]; rfl
end Go.Pk

namespace Go.Pk
open Go Go.RowKit Go.Proofs
theorem c_slices_Max_Lint_int {h : Heap} {w : World} (hs : Sub h w) {s_v : Value} {s : (List Int)} (s_f : Sl LInt h s_v s) (hn : 0 < s.length) : Calls Tryz.prog 108 #[s_v] w (Rets h w (fun _ _ res_ => res_ = .int .i64 ((maxL s)))) := by
 refine zP (n := 25) Tryz.func108 X X X<|have st0:=t_s0 hs;have s_f_b:=s_f.le;W.sr<|zq X X<|Y<|zj<|W.sr<|zR (v := s_v) X X<|zaH s_f X zg X<|zaX X X X<|Y ?_
 refine zC rfl (fun c1 => ?_) (fun c1 => ?_)
 ·
  exfalso
  have sure_ : (decide ((s.length : Int) < 1)) = false := by exact decide_eq_false (by omega)
  exact t_of sure_ c1
 refine zy<|O<|W.sr<|zR (v := s_v) X X ?_
 obtain ⟨a, ha⟩ : ∃ y_, (s)[0]? = some y_ := t_ge (by omega)
 obtain ⟨b2, o3, _, he5, hc4, hr_a⟩ := Sl.elem s_f ha
 obtain rfl := hr_a
 refine zU he5 X X (hk := X) (hu := zg) (hz := zl) X<|U (j := 0) st0.sub hc4 X X X zz X<|zq X X<|Y<|zj<|W.sr<|zq X X<|Y<|zG ?_
 refine zax ([3, 4] ++ t_rg 12 12) (G := Nat × Heap) (fun ⟨k, h6⟩ => [(3, .int .i64 (maxL (s.take k))), (4, .int .i64 (k : Int))]) (fun ⟨k, h6⟩ w' => Le h h6 ∧ St h w h6 w' [] ∧ (1 ≤ k ∧ k ≤ s.length)) (fun ⟨k, h6⟩ => s.length - k) ⟨1, h⟩ ⟨(zah (by rw [maxL_one ha])), rfl, trivial⟩ ⟨Le.refl _, st0, (by exact ⟨Nat.le_refl _, by omega⟩)⟩ ?_
 rintro ⟨k, h6⟩ _ w9 ⟨le7, st8, hk⟩
 refine zj<|W.sr<|zh X X<|zR (v := s_v) X X<|zaH (s_f.up le7) X zg X<|zaX X X X<|Y ?_
 refine zC rfl (fun c10 => ?_) (fun c10 => ?_)
 ·
  refine zy<|O<|zj<|zG<|zn<|zh X X<|zR (v := s_v) X X<|zh X X ?_
  obtain ⟨x, hx⟩ : ∃ y_, (s)[k]? = some y_ := t_ge (by omega)
  obtain ⟨b11, o12, _, he14, hc13, hr_x⟩ := Sl.elem (s_f.up le7) hx
  obtain rfl := hr_x
  refine zU he14 X X (hk := X) (hu := zg) (hz := zl) X<|U (j := 0) st8.sub hc13 X X X zz X<|zi X X (r_max X X)<|zq X X<|zp<|zO<|O<|zn<|zh X X<|zaM X X t_om X<|zq X X<|Y ?_
  refine ⟨⟨k + 1, h6⟩, ⟨?_, rfl, trivial⟩, ?_, ⟨le7, st8, ?_⟩, ?_⟩
  ·exact zah (by rw [maxL_take hx (by omega)])
  ·exact zau
  ·exact ⟨by omega, by omega⟩
  show s.length - ((k + 1)) < s.length - k
  omega
 refine zaI<|zm<|zm<|zam<|O<|W.sr<|zh X X<|zq X X<|Y<|zw<|zb Tryz.results108 ?_
 refine ⟨h6, _, rfl, st8.done, ?_⟩
 refine zah ?_
 rw [List.take_of_length_le (by omega)]
theorem zhC {h : Heap} {w : World} (hs : Sub h w) {l_v : Value} {l : (List (List Int))} (l_f : Sl (LSl LInt) h l_v l) (q : Int) (hq : 0 ≤ q) (hl : ∀ t ∈ l, ∃ a, t[q.toNat]? = some a ∧ 0 ≤ a ∧ a < 3) (hn : l.length ≤ 1000) : Calls Tryz.prog 70 #[l_v, .int .i64 q] w (Rets h w (fun _ _ res_ => res_ = .int .i64 ((zda l q.toNat)))) := by
 refine zP (n := 25) Tryz.func70 X X X<|have st0:=t_s0 hs;have l_f_b:=l_f.le;W.sr<|zq X X<|Y<|W.sr<|zQ st0 Tryz.zeroValue172 X X<|fun b1 w2 st3=>Y<|zj<|W.sr<|zR (v := l_v) X X<|zaH l_f X zbw X<|zh X X<|Y<|zG ?_
 refine zax ([7] ++ t_rg 10 13) (G := Nat × Int × Int × Int × Heap) (fun ⟨i, c0, c1, c2, h4⟩ => [(10, .int .i64 (i : Int))]) (fun ⟨i, c0, c1, c2, h4⟩ w' => Le h h4 ∧ St h w h4 w' [[(b1, .cells (List.toArray [.int .i64 c0, .int .i64 c1, .int .i64 c2]) 172)]] ∧ (i ≤ l.length) ∧ (c0 = (cntH (l.take i) q.toNat 0 : Nat) ∧ c1 = (cntH (l.take i) q.toNat 1 : Nat) ∧ c2 = (cntH (l.take i) q.toNat 2 : Nat))) (fun ⟨i, c0, c1, c2, h4⟩ => l.length - i) ⟨0, 0, 0, 0, h⟩ ⟨rfl, trivial⟩ ⟨Le.refl _, st3, zaW, (by exact ⟨rfl, rfl, rfl⟩)⟩ ?_
 rintro ⟨i, c0, c1, c2, h4⟩ _ w7 ⟨le5, st6, hi, hc⟩
 refine W.sr<|zaX X X X<|Y<|zj ?_
 refine zC rfl (fun c8 => ?_) (fun c8 => ?_)
 ·
  refine zy<|O<|zj<|zG<|W.sr ?_
  obtain ⟨t, ht⟩ : ∃ y_, (l)[i]? = some y_ := t_ge (by omega)
  obtain ⟨b9, o10, _, he12, hc11, hr_t⟩ := Sl.elem (l_f.up le5) ht
  obtain ⟨v13, rfl, f14⟩ := hr_t
  have f14_b := f14.le
  refine zU he12 X X (hk := X) (hu := zbw) (hz := zbs) X<|U (j := 0) st6.sub hc11 X X X zce X<|zaf (v := v13) X X<|Y ?_
  obtain ⟨a, ha⟩ : ∃ y, (t)[q.toNat]? = some y := ⟨_, List.getElem?_eq_getElem (by obtain ⟨a_, ha_, _⟩ := hl t (List.mem_of_getElem? ht); exact (List.getElem?_eq_some_iff.1 ha_).1)⟩
  rcases (show a = 0 ∨ a = 1 ∨ a = 2 by obtain ⟨a_, ha_, h0_, h3_⟩ := hl t (List.mem_of_getElem? ht); rw [ha] at ha_; cases ha_; omega) with hk15 | hk15 | hk15
  ·
   refine zn<|zR (v := v13) X X<|zh X X ?_
   obtain ⟨b16, o17, _, he19, hc18, hr_a⟩ := Sl.elem f14 ha
   obtain rfl := hr_a
   refine zi rfl rfl (zav he19 rfl rfl (hk := (show _ = ((q.toNat : Nat) : Int) by omega)) (hu := zg) (hz := zl)) ?_
   refine U (j := 0) st6.sub hc18 X X X zz X ?_
   refine zi rfl rfl (zbD rfl rfl (show _ = ((0 : Nat) : Int) by rw [hk15]; rfl) rfl zdc zl) ?_
   refine zbi (st6.get (k := 0) X) X X zz X ?_
   refine zi rfl rfl (zhs rfl rfl (by obtain ⟨q0, q1, q2⟩ := hc; have b0 := zfs (l.take i) q.toNat 0; have b1 := zfs (l.take i) q.toNat 1; have b2 := zfs (l.take i) q.toNat 2; rw [List.length_take] at b0 b1 b2; omega)) ?_
   refine zi rfl rfl (zbD rfl rfl (show _ = ((0 : Nat) : Int) by rw [hk15]; rfl) rfl zdc zl) ?_
   refine zar st6 (k := 0) X X X X zl X X X<|fun w20 st21=>zp<|zO<|O<|zn<|zaM X X t_om X<|zh X X<|Y ?_
   refine ⟨⟨i + 1, (c0 + 1), c1, c2, h4⟩, ⟨rfl, trivial⟩, ?_, ⟨le5, st21, ?_, ?_⟩, ?_⟩
   ·exact zau
   ·first | omega | (simp; omega)
   ·obtain ⟨q0, q1, q2⟩ := hc
    refine ⟨?_, ?_, ?_⟩ <;> (rw [cnt_up ht ha, hk15]; simp; omega)
   show l.length - ((i + 1)) < l.length - i
   omega
  ·
   refine zn<|zR (v := v13) X X<|zh X X ?_
   obtain ⟨b22, o23, _, he25, hc24, hr_a⟩ := Sl.elem f14 ha
   obtain rfl := hr_a
   refine zi rfl rfl (zav he25 rfl rfl (hk := (show _ = ((q.toNat : Nat) : Int) by omega)) (hu := zg) (hz := zl)) ?_
   refine U (j := 0) st6.sub hc24 X X X zz X ?_
   refine zi rfl rfl (zbD rfl rfl (show _ = ((1 : Nat) : Int) by rw [hk15]; rfl) rfl zdc zl) ?_
   refine zbi (st6.get (k := 0) X) X X zz X ?_
   refine zi rfl rfl (zhs rfl rfl (by obtain ⟨q0, q1, q2⟩ := hc; have b0 := zfs (l.take i) q.toNat 0; have b1 := zfs (l.take i) q.toNat 1; have b2 := zfs (l.take i) q.toNat 2; rw [List.length_take] at b0 b1 b2; omega)) ?_
   refine zi rfl rfl (zbD rfl rfl (show _ = ((1 : Nat) : Int) by rw [hk15]; rfl) rfl zdc zl) ?_
   refine zar st6 (k := 0) X X X X zl X X X<|fun w26 st27=>zp<|zO<|O<|zn<|zaM X X t_om X<|zh X X<|Y ?_
   refine ⟨⟨i + 1, c0, (c1 + 1), c2, h4⟩, ⟨rfl, trivial⟩, ?_, ⟨le5, st27, ?_, ?_⟩, ?_⟩
   ·exact zau
   ·first | omega | (simp; omega)
   ·obtain ⟨q0, q1, q2⟩ := hc
    refine ⟨?_, ?_, ?_⟩ <;> (rw [cnt_up ht ha, hk15]; simp; omega)
   show l.length - ((i + 1)) < l.length - i
   omega
  refine zn<|zR (v := v13) X X<|zh X X ?_
  obtain ⟨b28, o29, _, he31, hc30, hr_a⟩ := Sl.elem f14 ha
  obtain rfl := hr_a
  refine zi rfl rfl (zav he31 rfl rfl (hk := (show _ = ((q.toNat : Nat) : Int) by omega)) (hu := zg) (hz := zl)) ?_
  refine U (j := 0) st6.sub hc30 X X X zz X ?_
  refine zi rfl rfl (zbD rfl rfl (show _ = ((2 : Nat) : Int) by rw [hk15]; rfl) rfl zdc zl) ?_
  refine zbi (st6.get (k := 0) X) X X zz X ?_
  refine zi rfl rfl (zhs rfl rfl (by obtain ⟨q0, q1, q2⟩ := hc; have b0 := zfs (l.take i) q.toNat 0; have b1 := zfs (l.take i) q.toNat 1; have b2 := zfs (l.take i) q.toNat 2; rw [List.length_take] at b0 b1 b2; omega)) ?_
  refine zi rfl rfl (zbD rfl rfl (show _ = ((2 : Nat) : Int) by rw [hk15]; rfl) rfl zdc zl) ?_
  refine zar st6 (k := 0) X X X X zl X X X<|fun w32 st33=>zp<|zO<|O<|zn<|zaM X X t_om X<|zh X X<|Y ?_
  refine ⟨⟨i + 1, c0, c1, (c2 + 1), h4⟩, ⟨rfl, trivial⟩, ?_, ⟨le5, st33, ?_, ?_⟩, ?_⟩
  ·exact zau
  ·first | omega | (simp; omega)
  ·obtain ⟨q0, q1, q2⟩ := hc
   refine ⟨?_, ?_, ?_⟩ <;> (rw [cnt_up ht ha, hk15]; simp; omega)
  show l.length - ((i + 1)) < l.length - i
  omega
 refine zaI<|zm<|zm<|zam<|O<|zj ?_
 obtain ⟨h34, le35, hb36, st38⟩ := st6.freeze (k := 0) rfl
 have hc37 := Cells.of hb36
 refine zn ?_
 have fa40 := Sl.ofCells (L := LInt) (xs := [c0, c1, c2]) hc37 (Enc.cons (L := LInt) (vs := [.int .i64 c0]) (x := c0) (h := h34) (rfl) (Enc.cons (L := LInt) (vs := [.int .i64 c1]) (x := c1) (h := h34) (rfl) (Enc.cons (L := LInt) (vs := [.int .i64 c2]) (x := c2) (h := h34) (rfl) Enc.nil))) (by simp [big])
 refine zi X X (r_slice_arr X zdc zl) ?_
 refine ze st38 rfl rfl rfl Tryz.call108 rfl (c_slices_Max_Lint_int st38.sub fa40 (by simp)) ?_
 intro r41 w42 h43 le44 st45 q46
 obtain rfl := q46
 refine zq X X<|Y<|zw<|zb Tryz.results70 ?_
 refine ⟨h43, _, rfl, st45.done, ?_⟩
 refine zah ?_
 obtain ⟨q0, q1, q2⟩ := hc
 rw [List.take_of_length_le (by omega)] at q0 q1 q2
 exact worst3 l q.toNat q0 q1 q2
theorem c_vote_members {h : Heap} {w : World} (hs : Sub h w) (s : Int) (hs0 : 0 ≤ s ∧ s ≤ 1000000) : Calls Tryz.prog 62 #[.int .i64 s] w (Rets h w (fun h' _ res_ => ∃ u0, res_ = u0 ∧ Sl LInt h' u0 ((zbS s 6)))) := by
 refine zP (n := 19) Tryz.func62 X X X<|have st0:=t_s0 hs;W.sr<|zcM X X<|Y<|W.sr<|zcM X X<|Y<|zj<|W.sr<|zh X X<|Y<|zG ?_
 have st4 := st0.snoc
 have f5 := OSl.nil LInt 3 h
 refine zax (t_rg 3 15) (G := Nat × Value × List (Nat × Obj) × Heap) (fun ⟨i, v_3, o_3, h1⟩ => [(3, v_3), (5, .int .i64 (i : Int))]) (fun ⟨i, v_3, o_3, h1⟩ w' => Le h h1 ∧ St h w h1 w' [o_3] ∧ (OSl LInt 3 h1 v_3 ((zbS s i)) o_3) ∧ (i ≤ 6)) (fun ⟨i, v_3, o_3, h1⟩ => 6 - i) ⟨0, (.slice none 0 0), [], h⟩ ⟨rfl, rfl, trivial⟩ ⟨Le.refl _, st4, (OSl.to f5 (by rfl)), zaW⟩ ?_
 rintro ⟨i, v_3, o_3, h1⟩ _ w6 ⟨le2, st3, hO_3, hi⟩
 refine W.sr<|zaX X X X<|Y<|zj ?_
 refine zC rfl (fun c7 => ?_) (fun c7 => ?_)
 ·
  refine zy<|O<|zj<|zG<|W.sr<|zh X X<|zq X X<|Y<|W.sr<|zh X X<|zh X X ?_
  refine zi rfl rfl (r_shr rfl rfl (by omega) (by omega)) ?_
  refine zi rfl rfl (r_and1 rfl rfl (by have q_ := zeY (b := (i : Int)) hs0.1 hs0.2; omega) (by have q_ := zeY (b := (i : Int)) hs0.1 hs0.2; omega)) ?_
  refine zdd X X X<|Y ?_
  refine zC rfl (fun c8 => ?_) (fun c8 => ?_)
  ·
   refine zn<|zR (v := v_3) X X<|zh X X<|zac (L := LInt) (xs := [(i : Int)]) (cs := [.int .i64 (i : Int)]) st3 (Enc.cons (L := LInt) (vs := [.int .i64 (i : Int)]) (x := (i : Int)) (h := h1) (X) Enc.nil) X X X zg Tryz.info3 X X X t_kr<|fun v9 w10 h13 le14 f11 st12=> ?_
   refine zbB (k := 0) (nb := 8) st12 (hO_3.up le14) rfl f11 rfl rfl rfl zg Tryz.info3 rfl rfl rfl (by decide) rfl (by have q_ := zij s i; first | omega | (simp only [List.length_append, List.length_cons, List.length_nil]; omega)) (by have q_ := zij s i; first | omega | (simp only [List.length_append, List.length_cons, List.length_nil]; omega)) ?_
   intro v15 o16 w17 _ e18 f19 st20
   subst e18
   refine zaf (v := v15) X X<|zp<|zO<|O<|zn<|zaM X X t_om X<|zh X X<|Y ?_
   have l21 := le2.trans le14
   refine ⟨⟨i + 1, v15, o16, h13⟩, ⟨rfl, rfl, trivial⟩, ?_, ⟨l21, st20, ?_, ?_⟩, ?_⟩
   ·exact zau
   ·refine OSl.to f19 ?_
    rw [zjb, if_pos (by simpa [bitN] using c8)]
   ·first | omega | (simp; omega)
   show 6 - ((i + 1)) < 6 - i
   omega
  refine zy<|zO<|O<|zn<|zaM X X t_om X<|zh X X<|Y ?_
  refine ⟨⟨i + 1, v_3, o_3, h1⟩, ⟨rfl, rfl, trivial⟩, ?_, ⟨le2, st3, ?_, ?_⟩, ?_⟩
  ·exact zau
  ·refine OSl.to hO_3 ?_
   rw [zjb, if_neg (by simpa [bitN] using c8), List.append_nil]
  ·first | omega | (simp; omega)
  show 6 - ((i + 1)) < 6 - i
  omega
 refine zaI<|zm<|zm<|zam<|O<|W.sr<|zR (v := v_3) X X<|zaf (v := v_3) X X<|Y<|zw<|zb Tryz.results62 ?_
 obtain ⟨h22, le23, f24, st25⟩ := OSl.freeze (k := 0) st3 hO_3 rfl (by have q_ := zij s i; first | omega | (simp only [List.length_append, List.length_cons, List.length_nil]; omega))
 refine ⟨h22, _, rfl, st25.done, ?_⟩
 refine ⟨_, rfl, Sl.to f24 ?_⟩
 rw [show i = 6 by omega]
set_option maxHeartbeats 4000000 in
theorem c_vote_tells {h : Heap} {w : World} (hs : Sub h w) {ts_v : Value} {ts : (List (List Int))} (ts_f : Sl (LSl LInt) h ts_v ts) (s : Int) (hs0 : 0 ≤ s ∧ s ≤ 1000000) (hl : ∀ t ∈ ts, t.length ≤ 6) (he : ∀ t ∈ ts, ∀ u ∈ ts, t.length = u.length) (hb6 : ∀ t ∈ ts, ∀ a ∈ t, 0 ≤ a ∧ a ≤ 1000) : Calls Tryz.prog 61 #[ts_v, .int .i64 s] w (Rets h w (fun _ _ res_ => res_ = .bool ((ziV ts (zbS s 6))))) := by
 refine zP (n := 40) Tryz.func61 X X X<|have st0:=t_s0 hs;have ts_f_b:=ts_f.le;W.sr<|zF X X<|Y<|W.sr<|zfC (κ := Six) (υ := Bool) (ek := sixV) (eu := (fun b : Bool => .bool b)) st0 X<|fun v1 o2 w3 f4 st5=> ?_
 obtain ⟨mb6, rfl⟩ := f4.form
 have nd7 : (([] : List (Six × Bool)).map (·.1)).Nodup := by simp
 refine zaf (v := (.map (some mb6))) X X<|Y<|zj<|W.sr<|zR (v := ts_v) X X<|zaH ts_f X zbw X<|zh X X<|Y<|zG ?_
 refine zax ([4, 7, 8, 9, 10] ++ t_rg 14 26) (G := Nat × List (Six × Bool) × List (Nat × Obj) × Heap) (fun ⟨i, m, o_5, h8⟩ => [(14, .int .i64 (i : Int))]) (fun ⟨i, m, o_5, h8⟩ w' => Le h h8 ∧ St h w h8 w' [o_5] ∧ (OM sixV (fun b : Bool => .bool b) (m) o_5 (.map (some mb6))) ∧ (((m).map (·.1)).Nodup) ∧ (i ≤ ts.length) ∧ (∀ j, j < i → ziW ts (zbS s 6) j = true) ∧ (∀ x, look m x = sixM ts s i x)) (fun ⟨i, m, o_5, h8⟩ => ts.length - i) ⟨0, [], o2, h⟩ ⟨rfl, trivial⟩ ⟨Le.refl _, st5, (by have q := f4; exact q), (by have q := nd7; exact q), zaW, zaW, (by intro x; simp [sixM, look])⟩ ?_
 rintro ⟨i, m, o_5, h8⟩ _ w11 ⟨le9, st10, hM_5, hN_5, hi, hT, hm⟩
 refine W.sr<|zaX X X X<|Y<|zj ?_
 refine zC rfl (fun c12 => ?_) (fun c12 => ?_)
 ·
  refine zy<|O<|zj<|zG<|W.sr ?_
  obtain ⟨t, ht⟩ : ∃ y_, (ts)[i]? = some y_ := t_ge (by omega)
  obtain ⟨b13, o14, _, he16, hc15, hr_t⟩ := Sl.elem (ts_f.up le9) ht
  obtain ⟨v17, rfl, f18⟩ := hr_t
  have f18_b := f18.le
  refine zU he16 X X (hk := X) (hu := zbw) (hz := zbs) X<|U (j := 0) st10.sub hc15 X X X zce X<|zaf (v := v17) X X<|Y<|W.sr<|zQ st10 Tryz.zeroValue169 X X<|fun b19 w20 st21=>Y<|zj<|W.sr<|zR (v := v17) X X<|zaH f18 X zg X<|zh X X<|Y<|zG ?_
  refine zax ([9, 10] ++ t_rg 20 14) (G := Nat × Int × Int × Int × Int × Int × Int × Heap) (fun ⟨k, c0, c1, c2, c3, c4, c5, h22⟩ => [(20, .int .i64 (k : Int))]) (fun ⟨k, c0, c1, c2, c3, c4, c5, h22⟩ w' => Le h8 h22 ∧ St h w h22 w' [o_5, [(b19, .cells (List.toArray [.int .i64 c0, .int .i64 c1, .int .i64 c2, .int .i64 c3, .int .i64 c4, .int .i64 c5]) 169)]] ∧ (k ≤ t.length) ∧ (Six.mk c0 c1 c2 c3 c4 c5 = sixK t s k)) (fun ⟨k, c0, c1, c2, c3, c4, c5, h22⟩ => t.length - k) ⟨0, 0, 0, 0, 0, 0, 0, h8⟩ ⟨rfl, trivial⟩ ⟨Le.refl _, st21, zaW, (by rfl)⟩ ?_
  rintro ⟨k, c0, c1, c2, c3, c4, c5, h22⟩ _ w25 ⟨le23, st24, hk, hc⟩
  refine W.sr<|zaX X X X<|Y<|zj ?_
  refine zC rfl (fun c26 => ?_) (fun c26 => ?_)
  ·
   refine zy<|O<|zj<|zG<|W.sr<|zh X X ?_
   obtain ⟨x, hx⟩ : ∃ y_, (t)[k]? = some y_ := t_ge (by omega)
   obtain ⟨b27, o28, _, he30, hc29, hr_x⟩ := Sl.elem (f18.up le23) hx
   obtain rfl := hr_x
   refine zU he30 X X (hk := X) (hu := zg) (hz := zl) X<|U (j := 0) st24.sub hc29 X X X zz X<|zq X X<|zq X X<|Y ?_
   rcases (show (k : Int) = 0 ∨ (k : Int) = 1 ∨ (k : Int) = 2 ∨ (k : Int) = 3 ∨ (k : Int) = 4 ∨ (k : Int) = 5 by have q_ := hl t (List.mem_of_getElem? ht); omega) with hk31 | hk31 | hk31 | hk31 | hk31 | hk31
   ·
    refine zn<|zh X X<|zh X X<|zh X X<|zh X X ?_
    refine zi rfl rfl (r_shr rfl rfl (by omega) (by omega)) ?_
    refine zi rfl rfl (r_and1 rfl rfl (by have q_ := zeY (b := (k : Int)) hs0.1 hs0.2; omega) (by have q_ := zeY (b := (k : Int)) hs0.1 hs0.2; omega)) ?_
    refine zi rfl rfl (r_mul rfl rfl (by have q_ := hb6 t (List.mem_of_getElem? ht) x (List.mem_of_getElem? hx); rcases bit_01 (s := s) (j := (k : Int)) with q2_ | q2_ <;> (rw [bitN] at q2_; rw [q2_]; omega))) ?_
    refine zi rfl rfl (zbD rfl rfl (show _ = ((0 : Nat) : Int) by rw [hk31]; rfl) rfl zdk zl) ?_
    refine zar st24 (k := 1) X X X X zl X X X<|fun w32 st33=>zp<|zO<|O<|zn<|zaM X X t_om X<|zh X X<|Y ?_
    refine ⟨⟨k + 1, (x * ((s / 2 ^ (k : Int).toNat) % 2)), c1, c2, c3, c4, c5, h22⟩, ⟨rfl, trivial⟩, ?_, ⟨le23, st33, ?_, ?_⟩, ?_⟩
    ·exact zau
    ·first | omega | (simp; omega)
    ·simp only [sixK, Six.mk.injEq] at hc ⊢
     obtain ⟨q0, q1, q2, q3, q4, q5⟩ := hc
     refine ⟨?_, ?_, ?_, ?_, ?_, ?_⟩ <;> first | (rw [zhG (by omega)]; assumption) | (exact (zgI (by omega) hx).symm)
    show t.length - ((k + 1)) < t.length - k
    omega
   ·
    refine zn<|zh X X<|zh X X<|zh X X<|zh X X ?_
    refine zi rfl rfl (r_shr rfl rfl (by omega) (by omega)) ?_
    refine zi rfl rfl (r_and1 rfl rfl (by have q_ := zeY (b := (k : Int)) hs0.1 hs0.2; omega) (by have q_ := zeY (b := (k : Int)) hs0.1 hs0.2; omega)) ?_
    refine zi rfl rfl (r_mul rfl rfl (by have q_ := hb6 t (List.mem_of_getElem? ht) x (List.mem_of_getElem? hx); rcases bit_01 (s := s) (j := (k : Int)) with q2_ | q2_ <;> (rw [bitN] at q2_; rw [q2_]; omega))) ?_
    refine zi rfl rfl (zbD rfl rfl (show _ = ((1 : Nat) : Int) by rw [hk31]; rfl) rfl zdk zl) ?_
    refine zar st24 (k := 1) X X X X zl X X X<|fun w34 st35=>zp<|zO<|O<|zn<|zaM X X t_om X<|zh X X<|Y ?_
    refine ⟨⟨k + 1, c0, (x * ((s / 2 ^ (k : Int).toNat) % 2)), c2, c3, c4, c5, h22⟩, ⟨rfl, trivial⟩, ?_, ⟨le23, st35, ?_, ?_⟩, ?_⟩
    ·exact zau
    ·first | omega | (simp; omega)
    ·simp only [sixK, Six.mk.injEq] at hc ⊢
     obtain ⟨q0, q1, q2, q3, q4, q5⟩ := hc
     refine ⟨?_, ?_, ?_, ?_, ?_, ?_⟩ <;> first | (rw [zhG (by omega)]; assumption) | (exact (zgI (by omega) hx).symm)
    show t.length - ((k + 1)) < t.length - k
    omega
   ·
    refine zn<|zh X X<|zh X X<|zh X X<|zh X X ?_
    refine zi rfl rfl (r_shr rfl rfl (by omega) (by omega)) ?_
    refine zi rfl rfl (r_and1 rfl rfl (by have q_ := zeY (b := (k : Int)) hs0.1 hs0.2; omega) (by have q_ := zeY (b := (k : Int)) hs0.1 hs0.2; omega)) ?_
    refine zi rfl rfl (r_mul rfl rfl (by have q_ := hb6 t (List.mem_of_getElem? ht) x (List.mem_of_getElem? hx); rcases bit_01 (s := s) (j := (k : Int)) with q2_ | q2_ <;> (rw [bitN] at q2_; rw [q2_]; omega))) ?_
    refine zi rfl rfl (zbD rfl rfl (show _ = ((2 : Nat) : Int) by rw [hk31]; rfl) rfl zdk zl) ?_
    refine zar st24 (k := 1) X X X X zl X X X<|fun w36 st37=>zp<|zO<|O<|zn<|zaM X X t_om X<|zh X X<|Y ?_
    refine ⟨⟨k + 1, c0, c1, (x * ((s / 2 ^ (k : Int).toNat) % 2)), c3, c4, c5, h22⟩, ⟨rfl, trivial⟩, ?_, ⟨le23, st37, ?_, ?_⟩, ?_⟩
    ·exact zau
    ·first | omega | (simp; omega)
    ·simp only [sixK, Six.mk.injEq] at hc ⊢
     obtain ⟨q0, q1, q2, q3, q4, q5⟩ := hc
     refine ⟨?_, ?_, ?_, ?_, ?_, ?_⟩ <;> first | (rw [zhG (by omega)]; assumption) | (exact (zgI (by omega) hx).symm)
    show t.length - ((k + 1)) < t.length - k
    omega
   ·
    refine zn<|zh X X<|zh X X<|zh X X<|zh X X ?_
    refine zi rfl rfl (r_shr rfl rfl (by omega) (by omega)) ?_
    refine zi rfl rfl (r_and1 rfl rfl (by have q_ := zeY (b := (k : Int)) hs0.1 hs0.2; omega) (by have q_ := zeY (b := (k : Int)) hs0.1 hs0.2; omega)) ?_
    refine zi rfl rfl (r_mul rfl rfl (by have q_ := hb6 t (List.mem_of_getElem? ht) x (List.mem_of_getElem? hx); rcases bit_01 (s := s) (j := (k : Int)) with q2_ | q2_ <;> (rw [bitN] at q2_; rw [q2_]; omega))) ?_
    refine zi rfl rfl (zbD rfl rfl (show _ = ((3 : Nat) : Int) by rw [hk31]; rfl) rfl zdk zl) ?_
    refine zar st24 (k := 1) X X X X zl X X X<|fun w38 st39=>zp<|zO<|O<|zn<|zaM X X t_om X<|zh X X<|Y ?_
    refine ⟨⟨k + 1, c0, c1, c2, (x * ((s / 2 ^ (k : Int).toNat) % 2)), c4, c5, h22⟩, ⟨rfl, trivial⟩, ?_, ⟨le23, st39, ?_, ?_⟩, ?_⟩
    ·exact zau
    ·first | omega | (simp; omega)
    ·simp only [sixK, Six.mk.injEq] at hc ⊢
     obtain ⟨q0, q1, q2, q3, q4, q5⟩ := hc
     refine ⟨?_, ?_, ?_, ?_, ?_, ?_⟩ <;> first | (rw [zhG (by omega)]; assumption) | (exact (zgI (by omega) hx).symm)
    show t.length - ((k + 1)) < t.length - k
    omega
   ·
    refine zn<|zh X X<|zh X X<|zh X X<|zh X X ?_
    refine zi rfl rfl (r_shr rfl rfl (by omega) (by omega)) ?_
    refine zi rfl rfl (r_and1 rfl rfl (by have q_ := zeY (b := (k : Int)) hs0.1 hs0.2; omega) (by have q_ := zeY (b := (k : Int)) hs0.1 hs0.2; omega)) ?_
    refine zi rfl rfl (r_mul rfl rfl (by have q_ := hb6 t (List.mem_of_getElem? ht) x (List.mem_of_getElem? hx); rcases bit_01 (s := s) (j := (k : Int)) with q2_ | q2_ <;> (rw [bitN] at q2_; rw [q2_]; omega))) ?_
    refine zi rfl rfl (zbD rfl rfl (show _ = ((4 : Nat) : Int) by rw [hk31]; rfl) rfl zdk zl) ?_
    refine zar st24 (k := 1) X X X X zl X X X<|fun w40 st41=>zp<|zO<|O<|zn<|zaM X X t_om X<|zh X X<|Y ?_
    refine ⟨⟨k + 1, c0, c1, c2, c3, (x * ((s / 2 ^ (k : Int).toNat) % 2)), c5, h22⟩, ⟨rfl, trivial⟩, ?_, ⟨le23, st41, ?_, ?_⟩, ?_⟩
    ·exact zau
    ·first | omega | (simp; omega)
    ·simp only [sixK, Six.mk.injEq] at hc ⊢
     obtain ⟨q0, q1, q2, q3, q4, q5⟩ := hc
     refine ⟨?_, ?_, ?_, ?_, ?_, ?_⟩ <;> first | (rw [zhG (by omega)]; assumption) | (exact (zgI (by omega) hx).symm)
    show t.length - ((k + 1)) < t.length - k
    omega
   refine zn<|zh X X<|zh X X<|zh X X<|zh X X ?_
   refine zi rfl rfl (r_shr rfl rfl (by omega) (by omega)) ?_
   refine zi rfl rfl (r_and1 rfl rfl (by have q_ := zeY (b := (k : Int)) hs0.1 hs0.2; omega) (by have q_ := zeY (b := (k : Int)) hs0.1 hs0.2; omega)) ?_
   refine zi rfl rfl (r_mul rfl rfl (by have q_ := hb6 t (List.mem_of_getElem? ht) x (List.mem_of_getElem? hx); rcases bit_01 (s := s) (j := (k : Int)) with q2_ | q2_ <;> (rw [bitN] at q2_; rw [q2_]; omega))) ?_
   refine zi rfl rfl (zbD rfl rfl (show _ = ((5 : Nat) : Int) by rw [hk31]; rfl) rfl zdk zl) ?_
   refine zar st24 (k := 1) X X X X zl X X X<|fun w42 st43=>zp<|zO<|O<|zn<|zaM X X t_om X<|zh X X<|Y ?_
   refine ⟨⟨k + 1, c0, c1, c2, c3, c4, (x * ((s / 2 ^ (k : Int).toNat) % 2)), h22⟩, ⟨rfl, trivial⟩, ?_, ⟨le23, st43, ?_, ?_⟩, ?_⟩
   ·exact zau
   ·first | omega | (simp; omega)
   ·simp only [sixK, Six.mk.injEq] at hc ⊢
    obtain ⟨q0, q1, q2, q3, q4, q5⟩ := hc
    refine ⟨?_, ?_, ?_, ?_, ?_, ?_⟩ <;> first | (rw [zhG (by omega)]; assumption) | (exact (zgI (by omega) hx).symm)
   show t.length - ((k + 1)) < t.length - k
   omega
  refine zaI<|zm<|zm<|zam<|O<|zj<|zj ?_
  have hkey : Six.mk c0 c1 c2 c3 c4 c5 = sixK t s 6 := by rw [← sixK_len (hl t (List.mem_of_getElem? ht)), show t.length = k by omega]; exact hc
  refine zn<|zR (v := (.map (some mb6))) X X<|zbc (st24.get (k := 1) X) X Tryz.isAgg169 Tryz.sizeOf169 X X<|zi X X (r_lookF (k := (Six.mk c0 c1 c2 c3 c4 c5)) (zu := false) (six_key zdk zbU zz zl) Tryz.underlying168 hM_5 (st24.ent (k := 0) X) zfw X X X)<|Y ?_
  refine zae rfl (fun c44 => ?_) (fun c44 => ?_)
  ·
   refine W.sr<|zF X X<|Y<|zw<|zd<|zK<|zd<|zd<|zK<|zd<|zb Tryz.results61 ?_
   refine ⟨h22, _, rfl, st24.done, ?_⟩
   refine zx ?_
   exact (tells_stop hl he ht (by rw [← hm, ← hkey]; exact c44)).symm
  refine zy<|O<|zn<|zR (v := (.map (some mb6))) X X<|zbc (st24.get (k := 1) X) X Tryz.isAgg169 Tryz.sizeOf169 X X ?_
  refine OpsL.mapInsertF (i := 0) st24 hM_5 rfl hN_5 (six_key zdk zbU zz zl) Tryz.underlying168 (k := (Six.mk c0 c1 c2 c3 c4 c5)) (by rw [hm, hkey]; rw [hm, hkey] at *; exact sixM_none (by assumption)) rfl rfl (u := true) rfl ?_
  intro o45 w46 _ e47 f48 nd49 st50
  subst e47
  refine zp<|zO<|O<|zn<|zaM X X t_om X<|zh X X<|Y ?_
  have l51 := le9.trans le23
  refine ⟨⟨i + 1, (putM m (Six.mk c0 c1 c2 c3 c4 c5) true), o45, h22⟩, ⟨rfl, trivial⟩, ?_, ⟨l51, st50.take 1, ?_, ?_, ?_, ?_, ?_⟩, ?_⟩
  ·exact zau
  ·have q := f48
   exact q
  ·have q := nd49
   exact q
  ·first | omega | (simp; omega)
  ·exact zdf hT (tells_next hl he ht (by rw [← hm, ← hkey]; simpa using c44))
  ·intro x_; rw [ziI, sixM_succ ht, hm, hkey]
  show ts.length - ((i + 1)) < ts.length - i
  omega
 refine zaI<|zm<|zm<|zam<|O<|W.sr<|zF X X<|Y<|zw<|zb Tryz.results61 ?_
 refine ⟨h8, _, rfl, st10.done, ?_⟩
 refine zx ?_
 exact (zgJ hT (by omega)).symm
theorem c_vote_Ask_2 {h : Heap} {w : World} (hs : Sub h w) {a_v : Value} {a : (List Int)} (a_f : Sl LInt h a_v a) {b_v : Value} {b : (List Int)} (b_f : Sl LInt h b_v b) : Calls Tryz.prog 64 #[a_v, b_v] w (Rets h w (fun _ _ res_ => res_ = .bool ((zjo a b)))) := by
 refine zP (n := 16) Tryz.func64 X X X<|have st0:=t_s0 hs;have a_f_b:=a_f.le;have b_f_b:=b_f.le;W.sr<|zF X X<|Y<|W.sr<|zR (v := a_v) X X<|zaH a_f X zg X<|zR (v := b_v) X X<|zaH b_f X zg X ?_
 refine zi rfl rfl (ziF rfl rfl (by omega)) ?_
 refine zR (v := a_v) X X<|zR (v := b_v) X X<|ze st0 X X X Tryz.call66 X (zfF st0.sub a_f b_f)<|fun r1 w2 h3 le4 st5 q6=> ?_
 obtain rfl := q6
 refine zac (L := LInt) (xs := [((a.length : Int) - (b.length : Int)), (cmpL (a) (b))]) (cs := [.int .i64 ((a.length : Int) - (b.length : Int)), .int .i64 (cmpL (a) (b))]) st5 (Enc.cons (L := LInt) (vs := [.int .i64 ((a.length : Int) - (b.length : Int))]) (x := ((a.length : Int) - (b.length : Int))) (h := h3) (X) (Enc.cons (L := LInt) (vs := [.int .i64 (cmpL (a) (b))]) (x := (cmpL (a) (b))) (h := h3) (X) Enc.nil)) X X X zg Tryz.info3 X X X t_kr<|fun v7 w8 h11 le12 f9 st10=>ze st10 X X X Tryz.call65 X (zjm st10.sub f9)<|fun r13 w14 h15 le16 st17 q18=> ?_
 obtain rfl := q18
 refine zaX X X X<|zF X X<|Y<|zw<|zb Tryz.results64 ?_
 refine ⟨h15, _, rfl, st17.done, ?_⟩
 refine zx ?_
 exact before_eq a b
end Go.Pk

namespace Go.Pk
open Go Go.RowKit Go.Proofs
theorem c_vote_first_int {h : Heap} {w : World} (hs : Sub h w) {g : FuncId} {caps : List Value} {A : List (Int) → Heap → Value → Int → Prop} {T_ : List (Int)} (eg : ∀ a w, (callFunc g a).run Tryz.prog w = .ok (.enter g a) w) (seq : GivesA Tryz.prog g caps A (fun xs => xs = T_) h) {g2 : FuncId} {caps2 : List Value} {lt : Int → Int → Bool} {B : Int → Prop} (eg2 : ∀ a w, (callFunc g2 a).run Tryz.prog w = .ok (.enter g2 a) w) (hA : ∀ pre h u x, A pre h u x → u = .int .i64 x ∧ B x) (hB : ∀ h' w' x y, Le h h' → Sub h' w' → B x → B y → Calls Tryz.prog g2 (.int .i64 x :: .int .i64 y :: caps2).toArray w' (Rets h' w' fun _ _ r => r = .bool (lt x y))) : Calls Tryz.prog 71 #[.func (.func g) #[] caps.toArray, .func (.func g2) #[] caps2.toArray] w (Rets h w (fun _ _ res_ => res_ = .int .i64 ((zek lt 0 T_)))) := by
 refine V.calls (n := 20) Tryz.func71 X X X<|have st0:=t_s0 hs;zdl<|zbo X<|zJ st0 (v := (.func (.func g2) #[] caps2.toArray)) (cs := [(.func (.func g2) #[] caps2.toArray)]) X X X<|fun b1 w2 h3 le4 hc5 st6=>zq X X<|zp<|zaU<|zdl<|zbo X<|zQ st6 Tryz.zeroValue3 X X<|fun b7 w8 st9=>zp<|zaU<|zdl<|zbo X<|zQ st9 zfw X X<|fun b10 w11 st12=>zar st12 (k := 1) X X X X zbh X X X<|fun w13 st14=>zp<|zaU<|zdl<|zdl<|zbo X<|zR X X<|zp<|zaU<|zgX ?_
 refine zhE (I := fun xs _ own_ => own_ = [[(b7, .cells (List.toArray [.int .i64 (zek lt 0 xs)]) 3)], [(b10, .cells (List.toArray [.bool (!List.isEmpty xs)]) 4)]] ∧ ∀ x ∈ xs, B x) (Ix := fun _ _ _ _ => False) st14 rfl eg rfl (seq _ _ _ le4) (by rintro _ _ _ _ h_ _; exact h_) (by intro _ _ _ _ _ h_ _; exact h_) ⟨rfl, by intro _ h_; cases h_⟩ ?_ ?_ ?_
 ·rintro l_ pre x h15 w16 _ tail u17 le18 ⟨rfl, hi20⟩ st19 hA21
  obtain ⟨rfl, hBx⟩ := hA _ _ _ _ hA21
  refine zbo X<|zq X X<|zp ?_
  refine APost.mk (own2 := [[(b7, .cells (List.toArray [.int .i64 (zek lt 0 pre)]) 3)], [(b10, .cells (List.toArray [.bool (!List.isEmpty pre)]) 4)]]) (Le.refl _) st19 ?_
  intro tail24 w23 st22
  refine zgX<|zdl<|zbo X<|zbi (st22.get (k := 1) X) X X zbK X<|zbl X X<|zS X X ?_
  refine zaw (d := 12) rfl (fun g25 => ?_) (fun g25 => ?_)
  ·
   refine M X X X X X<|M X X X X X<|M X X X X X<|M X X X X X<|zT (v := (.bool _)) X X X<|zp<|zaU ?_
   refine V.cond rfl (fun c26 => ?_) (fun c26 => ?_)
   ·
    refine zbo X<|zh X X<|zar st22 (k := 0) X X X X zl X X X<|fun w27 st28=>zar st28 (k := 1) X X X X zbh X X X<|fun w29 st30=>zp<|zdi ?_
    refine zdZ (own3 := [[(b7, .cells (List.toArray [.int .i64 x]) 3)], [(b10, .cells (List.toArray [.bool true]) 4)]]) (Le.refl _) st30 ⟨?_, ?_⟩
    ·rw [first_one (by simpa using g25)]; simp
    ·exact fun z_ hz_ => (List.mem_append.1 hz_).elim (hi20 z_) (fun e_ => by rw [List.mem_singleton] at e_; rw [e_]; exact hBx)
   ·
    cases c26
  ·
   refine Z X X X<|U (j := 0) st22.sub (hc5.up le18) X X X Tryz.isAgg123 X<|Z X X X<|zh X X<|Z X X X<|zbi (st22.get (k := 0) X) X X zz X<|Z X X X ?_
   refine zcQ (fs := []) (cs := caps2) st22 rfl rfl rfl rfl eg2 rfl (hB _ _ _ _ (le4.trans le18) st22.sub hBx (hi20 _ (firstL_mem (by simpa using g25)))) ?_
   intro r31 w32 h33 le34 st35 q36
   obtain rfl := q36
   refine zN (v := (.bool _)) X X X<|zp<|zaU ?_
   refine V.cond rfl (fun c37 => ?_) (fun c37 => ?_)
   ·
    refine zbo X<|zh X X<|zar st35 (k := 0) X X X X zl X X X<|fun w38 st39=>zar st39 (k := 1) X X X X zbh X X X<|fun w40 st41=>zp<|zdi ?_
    refine zdZ (own3 := [[(b7, .cells (List.toArray [.int .i64 x]) 3)], [(b10, .cells (List.toArray [.bool true]) 4)]]) le34 st41 ⟨?_, ?_⟩
    ·rw [first_new (by simpa using g25) (by simpa using c37)]; simp
    ·exact fun z_ hz_ => (List.mem_append.1 hz_).elim (hi20 z_) (fun e_ => by rw [List.mem_singleton] at e_; rw [e_]; exact hBx)
   ·
    refine V.skip<|zdi ?_
    refine zdZ (own3 := [[(b7, .cells (List.toArray [.int .i64 (zek lt 0 pre)]) 3)], [(b10, .cells (List.toArray [.bool (!List.isEmpty pre)]) 4)]]) le34 st35 ⟨?_, ?_⟩
    ·rw [first_old (by simpa using g25) (by simpa using c37)]; have q_ : (!List.isEmpty pre) = true := (by simpa using g25); rw [q_]; simp
    ·exact fun z_ hz_ => (List.mem_append.1 hz_).elim (hi20 z_) (fun e_ => by rw [List.mem_singleton] at e_; rw [e_]; exact hBx)
 ·rintro D42 xs h43 w44 _ le45 hS46 ⟨rfl, hi47⟩ st48
  refine zdi<|zaU<|zdl<|zbo X<|zbi (st48.get (k := 0) X) X X zz X<|zq X X<|zp<|zaU<|V.ret<|zhJ (own := [[(b7, .cells (List.toArray [.int .i64 (zek lt 0 xs)]) 3)], [(b10, .cells (List.toArray [.bool (!List.isEmpty xs)]) 4)]]) st48<|fun w50 st49=>zb Tryz.results71 ?_
  refine ⟨h43, _, rfl, st49.done, ?_⟩
  refine zah ?_
  rw [hS46]
 intro _ _ _ _ _ _ _ hf_; exact hf_.elim
theorem c_vote_first_Lint {h : Heap} {w : World} (hs : Sub h w) {g : FuncId} {caps : List Value} {A : List (List Int) → Heap → Value → List Int → Prop} {T_ : List (List Int)} (eg : ∀ a w, (callFunc g a).run Tryz.prog w = .ok (.enter g a) w) (seq : GivesA Tryz.prog g caps A (fun xs => xs = T_) h) {g2 : FuncId} {caps2 : List Value} {lt : List Int → List Int → Bool} {B : List Int → Prop} (eg2 : ∀ a w, (callFunc g2 a).run Tryz.prog w = .ok (.enter g2 a) w) (hA : ∀ pre h u x, A pre h u x → Sl LInt h u x ∧ B x) (hB : ∀ h' w' x y vx vy, Le h h' → Sub h' w' → Sl LInt h' vx x → Sl LInt h' vy y → B x → B y → Calls Tryz.prog g2 (vx :: vy :: caps2).toArray w' (Rets h' w' fun _ _ r => r = .bool (lt x y))) : Calls Tryz.prog 63 #[.func (.func g) #[] caps.toArray, .func (.func g2) #[] caps2.toArray] w (Rets h w (fun h' _ res_ => ∃ u0, res_ = u0 ∧ Sl LInt h' u0 ((zek lt [] T_)))) := by
 refine V.calls (n := 20) Tryz.func63 X X X<|have st0:=t_s0 hs;zdl<|zbo X<|zJ st0 (v := (.func (.func g2) #[] caps2.toArray)) (cs := [(.func (.func g2) #[] caps2.toArray)]) X X X<|fun b1 w2 h3 le4 hc5 st6=>zcM X X<|zp<|zaU<|zdl<|zbo X<|zQ st6 Tryz.zeroValue42 X X<|fun b7 w8 st9=>zp<|zaU<|zdl<|zbo X<|zQ st9 zfw X X<|fun b10 w11 st12=>zar st12 (k := 1) X X X X zbh X X X<|fun w13 st14=>zp<|zaU<|zdl<|zdl<|zbo X<|zR X X<|zp<|zaU<|zgX ?_
 refine zhE (I := fun xs h_ own_ => ∃ (v_ : Value), own_ = [[(b7, .cells (List.toArray [v_]) 42)], [(b10, .cells (List.toArray [.bool (!List.isEmpty xs)]) 4)]] ∧ (Sl LInt h_ v_ (zek lt [] xs) ∧ ∀ x ∈ xs, B x)) (Ix := fun _ _ _ _ => False) st14 rfl eg rfl (seq _ _ _ le4) (by rintro xs_ h1_ h2_ o1_ ⟨v_, rfl, q_, r_⟩ l_; exact ⟨v_, rfl, q_.up l_, r_⟩) (by intro _ _ _ _ _ h_ _; exact h_) ⟨.slice none 0 0, rfl, by exact ⟨Sl.nil _ _, fun _ h_ => by cases h_⟩⟩ ?_ ?_ ?_
 ·rintro l_ pre x h15 w16 _ tail u17 le18 ⟨v_, rfl, hi20⟩ st19 hA21
  have hBx := (hA _ _ _ _ hA21).2
  refine zbo X<|zaf (v := u17) X X<|zp ?_
  refine APost.mk (own2 := [[(b7, .cells (List.toArray [v_]) 42)], [(b10, .cells (List.toArray [.bool (!List.isEmpty pre)]) 4)]]) (Le.refl _) st19 ?_
  intro tail24 w23 st22
  refine zgX<|zdl<|zbo X<|zbi (st22.get (k := 1) X) X X zbK X<|zbl X X<|zS X X ?_
  refine zaw (d := 12) rfl (fun g25 => ?_) (fun g25 => ?_)
  ·
   refine M X X X X X<|M X X X X X<|M X X X X X<|M X X X X X<|zT (v := (.bool _)) X X X<|zp<|zaU ?_
   refine V.cond rfl (fun c26 => ?_) (fun c26 => ?_)
   ·
    refine zbo X<|zR (v := u17) X X<|zar st22 (k := 0) X X (v := u17) X (hA _ _ _ _ hA21).1.one zbs X X X<|fun w27 st28=>zar st28 (k := 1) X X X X zbh X X X<|fun w29 st30=>zp<|zdi ?_
    refine zdZ (own3 := [[(b7, .cells (List.toArray [u17]) 42)], [(b10, .cells (List.toArray [.bool true]) 4)]]) (Le.refl _) st30 ⟨u17, ?_, ?_⟩
    ·simp
    ·exact ⟨Sl.to (hA _ _ _ _ hA21).1 (by exact (first_one (by simpa using g25)).symm), fun z_ hz_ => (List.mem_append.1 hz_).elim (hi20.2 z_) (fun e_ => by rw [List.mem_singleton] at e_; rw [e_]; exact hBx)⟩
   ·
    cases c26
  ·
   refine Z X X X<|U (j := 0) st22.sub (hc5.up le18) X X X Tryz.isAgg47 X<|Z X X X<|zR (v := u17) X X<|Z X X X<|zbi (st22.get (k := 0) X) X X zce X<|Z X X X ?_
   refine zcQ (fs := []) (cs := caps2) st22 rfl rfl rfl rfl eg2 rfl (hB _ _ _ _ _ _ (le4.trans le18) st22.sub (hA _ _ _ _ hA21).1 hi20.1 hBx (hi20.2 _ (firstL_mem (by simpa using g25)))) ?_
   intro r31 w32 h33 le34 st35 q36
   obtain rfl := q36
   refine zN (v := (.bool _)) X X X<|zp<|zaU ?_
   refine V.cond rfl (fun c37 => ?_) (fun c37 => ?_)
   ·
    refine zbo X<|zR (v := u17) X X<|zar st35 (k := 0) X X (v := u17) X (hA _ _ _ _ hA21).1.one zbs X X X<|fun w38 st39=>zar st39 (k := 1) X X X X zbh X X X<|fun w40 st41=>zp<|zdi ?_
    refine zdZ (own3 := [[(b7, .cells (List.toArray [u17]) 42)], [(b10, .cells (List.toArray [.bool true]) 4)]]) le34 st41 ⟨u17, ?_, ?_⟩
    ·simp
    ·exact ⟨Sl.to ((hA _ _ _ _ hA21).1.up le34) (by exact (first_new (by simpa using g25) (by simpa using c37)).symm), fun z_ hz_ => (List.mem_append.1 hz_).elim (hi20.2 z_) (fun e_ => by rw [List.mem_singleton] at e_; rw [e_]; exact hBx)⟩
   ·
    refine V.skip<|zdi ?_
    refine zdZ (own3 := [[(b7, .cells (List.toArray [v_]) 42)], [(b10, .cells (List.toArray [.bool (!List.isEmpty pre)]) 4)]]) le34 st35 ⟨v_, ?_, ?_⟩
    ·have q_ : (!List.isEmpty pre) = true := (by simpa using g25); rw [q_]; simp
    ·exact ⟨Sl.to (hi20.1.up le34) (by exact (first_old (by simpa using g25) (by simpa using c37)).symm), fun z_ hz_ => (List.mem_append.1 hz_).elim (hi20.2 z_) (fun e_ => by rw [List.mem_singleton] at e_; rw [e_]; exact hBx)⟩
 ·rintro D42 xs h43 w44 _ le45 hS46 ⟨v_, rfl, hi47⟩ st48
  refine zdi<|zaU<|zdl<|zbo X<|zbi (st48.get (k := 0) X) X X zce X<|zaf (v := v_) X X<|zp<|zaU<|V.ret<|zhJ (own := [[(b7, .cells (List.toArray [v_]) 42)], [(b10, .cells (List.toArray [.bool (!List.isEmpty xs)]) 4)]]) st48<|fun w50 st49=>zb Tryz.results63 ?_
  refine ⟨h43, _, rfl, st49.done, ?_⟩
  refine ⟨_, rfl, Sl.to hi47.1 ?_⟩
  rw [hS46]
 intro _ _ _ _ _ _ _ hf_; exact hf_.elim
end Go.Pk

namespace Go.Pk
open Go Go.RowKit Go.Proofs
theorem c_vote_Ask_1 {h0 h : Heap} {w0 w : World} {rest : Own} {l : Nat} {p_b : Nat} {p : Poll} {p_v0 : Value} (p_f0 : Sl LChapter h p_v0 p.text.chapters) {p_v1 : Value} (p_f1 : Sl LRule h p_v1 p.lexicon.rules) {p_v2 : Value} (p_f2 : Sl LDecision h p_v2 p.lexicon.decisions) {p_v3 : Value} (p_f3 : Sl LQuestion h p_v3 p.questions) {p_v4 : Value} (p_f4 : Sl LVoter h p_v4 p.voters) (p_c : Cells h p_b 0 [p_v0, p_v1, p_v2, p_v3, p_v4]) {ls_b : Nat} {ls_v : Value} {ls : (List (List Int))} (ls_f : Sl (LSl LInt) h ls_v ls) (ls_c : Cells h ls_b 0 [ls_v]) {J Jx : List (List Int) → Heap → Own → Prop} (hJm : ∀ xs h1 h2 o, J xs h1 o → Le h1 h2 → J xs h2 o) (hJxm : ∀ xs h1 h2 o, Jx xs h1 o → Le h1 h2 → Jx xs h2 o) (hJ0 : J [] h rest) (hY : ∀ pre x h1 w1 B rest us, Le h h1 → J pre h1 rest → St h0 w0 h1 w1 (B ++ rest) → (∃ u_, us = [u_] ∧ Sl LInt h1 u_ x ∧ x.length ≤ 6) → Yields Tryz.prog l us.toArray w1 fun v w2 => ∃ h2 rest2, Le h1 h2 ∧ St h0 w0 h2 w2 (B ++ rest2) ∧ ((v = .bool true ∧ J (pre ++ [x]) h2 rest2) ∨ (v = .bool false ∧ Jx (pre ++ [x]) h2 rest2))) (hp : zcJ p = true) (hl : ∀ t ∈ ls, t ∈ zM p) (hn : ls.length ≤ 1000) (st0 : St h0 w0 h w rest) : Calls Tryz.prog 60 #[.func (.yield l) #[] #[], .pointer (some ⟨p_b, 0, none⟩), .pointer (some ⟨ls_b, 0, none⟩)] w (fun e_ w' => ∃ h' rest' v_, e_ = .returned v_ ∧ Le h h' ∧ St h0 w0 h' w' rest' ∧ ((∃ xs, xs = askC ls p.questions.length (2 ^ p.questions.length) ∧ J xs h' rest') ∨ (∃ pre, Jx pre h' rest'))) := by
 refine zP (n := 23) Tryz.func60 X X X ?_
 have p_f0_b := p_f0.le
 have p_f1_b := p_f1.le
 have p_f2_b := p_f2.le
 have p_f3_b := p_f3.le
 have p_f4_b := p_f4.le
 have ls_f_b := ls_f.le
 have hpl := zcO hp
 have hpw := pow_le (n := p.questions.length) (by omega)
 refine W.sr<|E X zt X zbe X X<|U (j := 3) st0.sub p_c X X X zby X<|zaH p_f3 X zaq X ?_
 refine zi rfl rfl (r_shl1 rfl rfl (by omega) (by omega)) ?_
 refine zh X X<|Y<|zG ?_
 refine zax ([4] ++ t_rg 9 14) (G := Nat × Own × Heap) (fun ⟨s, rest, h1⟩ => [(9, .int .i64 (s : Int))]) (fun ⟨s, rest, h1⟩ w' => Le h h1 ∧ St h0 w0 h1 w' (rest) ∧ (s ≤ 2 ^ p.questions.length) ∧ (J (askC ls 6 s) h1 rest)) (fun ⟨s, rest, h1⟩ => 2 ^ p.questions.length - s) ⟨0, rest, h⟩ ⟨rfl, trivial⟩ ⟨Le.refl _, st0, zaW, (by exact hJm _ _ _ _ hJ0 (Le.refl _))⟩ ?_
 rintro ⟨s, rest, h1⟩ _ w4 ⟨le2, st3, hs, hJ⟩
 refine W.sr<|zaX X X X<|Y<|zj ?_
 refine zC rfl (fun c5 => ?_) (fun c5 => ?_)
 ·
  refine zy<|O<|zj<|zG<|W.sr<|zh X X<|zq X X<|Y<|W.sr<|U (j := 0) st3.sub (ls_c.up le2) X X X zeO X<|zh X X ?_
  refine ze st3 rfl rfl rfl Tryz.call61 rfl (c_vote_tells st3.sub (ls_f.up le2) _ (by omega) (by intro t_ ht_; have q_ := zdB (hl t_ ht_); omega) (by intro t_ ht_ u_ hu_; rw [zdB (hl t_ ht_), zdB (hl u_ hu_)]) (by exact truths_small hp hl)) ?_
  intro r6 w7 h8 le9 st10 q11
  obtain rfl := q11
  refine zS X X ?_
  refine zaw (d := 15) rfl (fun g12 => ?_) (fun g12 => ?_)
  ·
   refine Z X X X<|zR X X<|Z X X X<|zh X X<|Z X X X ?_
   refine ze st10 rfl rfl rfl Tryz.call62 rfl (c_vote_members st10.sub _ (by omega)) ?_
   intro r13 w14 h15 le16 st17 q18
   obtain ⟨v19, e21, f20⟩ := q18
   rw [← e21] at f20
   have f20_b := f20.le
   refine Z X X X ?_
   have hJc := hJm _ _ _ _ hJ (le9.trans le16)
   have hAc : ∃ u_, [r13] = [u_] ∧ Sl LInt h15 u_ (zbS (s : Int) 6) ∧ (zbS (s : Int) 6).length ≤ 6 := ⟨_, rfl, f20, zij _ _⟩
   have l30 := (le2.trans le9).trans le16
   refine zeH rfl rfl rfl rfl rfl (hY _ _ _ _ [] rest _ l30 hJc st17 hAc) ?_
   intro yb22 w23 h24 rest25 le26 st27 hj28 hx29
   refine Z X X X<|zbl X X<|zT (v := (.bool _)) X X X<|Y ?_
   refine zae rfl (fun c31 => ?_) (fun c31 => ?_)
   ·
    refine zw<|zK<|zd<|zd<|zK<|zgR Tryz.results60 ?_
    exact ⟨_, _, _, rfl, (l30.trans le26), st27, .inr ⟨_, hJxm _ _ _ _ (hx29 (by simpa using c31)) (Le.refl _)⟩⟩
   refine zy<|zO<|O<|zn<|zaM X X t_om X<|zh X X<|Y ?_
   have l32 := l30.trans le26
   refine ⟨⟨s + 1, rest25, h24⟩, ⟨rfl, trivial⟩, ?_, ⟨l32, st27, ?_, ?_⟩, ?_⟩
   ·exact zau
   ·first | omega | (simp; omega)
   ·rw [askC_succ, if_pos g12]; exact hJm _ _ _ _ (hj28 (by simpa using c31)) (Le.refl _)
   show 2 ^ p.questions.length - ((s + 1)) < 2 ^ p.questions.length - s
   omega
  refine M X X X X X<|M X X X X X<|M X X X X X<|M X X X X X<|M X X X X X<|zN (v := (.bool _)) X X X<|Y ?_
  refine zae rfl (fun c33 => ?_) (fun c33 => ?_)
  ·
   cases c33
  refine zy<|zO<|O<|zn<|zaM X X t_om X<|zh X X<|Y ?_
  have l34 := le2.trans le9
  refine ⟨⟨s + 1, rest, h8⟩, ⟨rfl, trivial⟩, ?_, ⟨l34, st10, ?_, ?_⟩, ?_⟩
  ·exact zau
  ·first | omega | (simp; omega)
  ·rw [askC_succ, if_neg (by rw [g12]; simp), List.append_nil]; exact hJm _ _ _ _ hJ le9
  show 2 ^ p.questions.length - ((s + 1)) < 2 ^ p.questions.length - s
  omega
 refine zaI<|zm<|zm<|zam<|Post.end0 Tryz.results60 ?_
 exact ⟨_, _, _, rfl, le2, st3, .inl ⟨_, rfl, by rw [← askC_six (by omega) _ (Nat.le_refl _), show 2 ^ p.questions.length = s by omega]; exact hJm _ _ _ _ hJ (Le.refl _)⟩⟩
theorem c_vote_Next_1 {h0 h : Heap} {w0 w : World} {rest : Own} {l : Nat} {p_b : Nat} {p : Poll} {p_v0 : Value} (p_f0 : Sl LChapter h p_v0 p.text.chapters) {p_v1 : Value} (p_f1 : Sl LRule h p_v1 p.lexicon.rules) {p_v2 : Value} (p_f2 : Sl LDecision h p_v2 p.lexicon.decisions) {p_v3 : Value} (p_f3 : Sl LQuestion h p_v3 p.questions) {p_v4 : Value} (p_f4 : Sl LVoter h p_v4 p.voters) (p_c : Cells h p_b 0 [p_v0, p_v1, p_v2, p_v3, p_v4]) {ls_b : Nat} {ls_v : Value} {ls : (List (List Int))} (ls_f : Sl (LSl LInt) h ls_v ls) (ls_c : Cells h ls_b 0 [ls_v]) {J Jx : List (Int) → Heap → Own → Prop} (hJm : ∀ xs h1 h2 o, J xs h1 o → Le h1 h2 → J xs h2 o) (hJxm : ∀ xs h1 h2 o, Jx xs h1 o → Le h1 h2 → Jx xs h2 o) (hJ0 : J [] h rest) (hY : ∀ pre x h1 w1 B rest us, Le h h1 → J pre h1 rest → St h0 w0 h1 w1 (B ++ rest) → (∃ u_, us = [u_] ∧ u_ = .int .i64 x ∧ (0 ≤ x ∧ x < (p.questions.length : Int))) → Yields Tryz.prog l us.toArray w1 fun v w2 => ∃ h2 rest2, Le h1 h2 ∧ St h0 w0 h2 w2 (B ++ rest2) ∧ ((v = .bool true ∧ J (pre ++ [x]) h2 rest2) ∨ (v = .bool false ∧ Jx (pre ++ [x]) h2 rest2))) (hp : zcJ p = true) (hl : ∀ t ∈ ls, t ∈ zM p) (hn : ls.length ≤ 1000) (st0 : St h0 w0 h w rest) : Calls Tryz.prog 69 #[.func (.yield l) #[] #[], .pointer (some ⟨p_b, 0, none⟩), .pointer (some ⟨ls_b, 0, none⟩)] w (fun e_ w' => ∃ h' rest' v_, e_ = .returned v_ ∧ Le h h' ∧ St h0 w0 h' w' rest' ∧ ((∃ xs, xs = nextC ls p.questions.length ∧ J xs h' rest') ∨ (∃ pre, Jx pre h' rest'))) := by
 refine zP (n := 24) Tryz.func69 X X X<|have p_f0_b:=p_f0.le;have p_f1_b:=p_f1.le;have p_f2_b:=p_f2.le;have p_f3_b:=p_f3.le;have p_f4_b:=p_f4.le;have ls_f_b:=ls_f.le;have hpl:=zcO hp;W.sr<|E X zt X zbe X X<|U (j := 3) st0.sub p_c X X X zby X<|zaH p_f3 X zaq X<|zh X X<|Y<|zG ?_
 refine zax ([4] ++ t_rg 8 16) (G := Nat × Own × Heap) (fun ⟨k, rest, h1⟩ => [(8, .int .i64 (k : Int))]) (fun ⟨k, rest, h1⟩ w' => Le h h1 ∧ St h0 w0 h1 w' (rest) ∧ (k ≤ p.questions.length) ∧ (J (nextC ls k) h1 rest)) (fun ⟨k, rest, h1⟩ => p.questions.length - k) ⟨0, rest, h⟩ ⟨rfl, trivial⟩ ⟨Le.refl _, st0, zaW, (by exact hJm _ _ _ _ hJ0 (Le.refl _))⟩ ?_
 rintro ⟨k, rest, h1⟩ _ w4 ⟨le2, st3, hk, hJ⟩
 refine W.sr<|zaX X X X<|Y<|zj ?_
 refine zC rfl (fun c5 => ?_) (fun c5 => ?_)
 ·
  refine zy<|O<|zj<|zG<|W.sr<|zh X X<|zq X X<|Y<|zj ?_
  rcases Bool.eq_false_or_eq_true (decide (((zda (ls) ((k : Int)).toNat)) < (ls.length : Int))) with g6 | g6
  ·
   have g6_r := g6
   replace g6 := t_ot g6
   refine zbg (er := ([], [], [], [], 0)) (dsts := [11, 12, 13, 14, 15, 16, 17, 18, 19, 20, 21, 22]) st3 Tryz.mixed<|zc 0 [] X t_kr t_kr X X (fun hD wD τD hL hS hO  => (zf (j := 0) (hL.sub hS) (ls_c.up le2) X X X zeO))<|zc 1 [] X t_kr t_kr X X (fun hD wD τD hL hS hO  => (zel X)) ?_
   refine zas 2 (.det (.int .i64 ((zda (ls) ((k : Int)).toNat)))) [1, 0] rfl t_kr t_kr ?_ ?_
   ·
    intro hD wD τD hL hS hO _ _ _ _
    have st7 := St.start hS
    refine ze st7 rfl rfl rfl Tryz.call70 rfl (zhC st7.sub (ls_f.up (le2.trans hL)) _ (by omega) (by exact zgo hp hl (by omega) (by omega)) (by exact hn)) ?_
    intro r8 w9 h10 le11 st12 q13
    obtain rfl := q13
    exact zp ⟨_, _, rfl, st12, (), rfl, trivial⟩
   refine zc 3 [] X t_kr t_kr X X (fun hD wD τD hL hS hO  => (zf (j := 0) (hL.sub hS) (ls_c.up le2) X X X zeO))<|zc 4 [0] X t_kr t_kr X X (fun hD wD τD hL hS hO _ _ => (zhS (ls_f.up le2) X zbw))<|zc 5 [2, 0] X t_kr t_kr X X (fun hD wD τD hL hS hO _ _ _ _ => (Run.lit (r_lss X X) g6_r))<|zc 6 [0, 3] X t_kr t_kr X X (fun hD wD τD hL hS hO _ _ _ _ => (zeW X))<|zba 7 [0] X t_kr t_kr X X X (fun hD wD τD hL hS hO _ _ => ⟨rfl, (zeQ X)⟩)<|zba 8 [1] X t_kr t_kr X X X (fun hD wD τD hL hS hO _ _ => ⟨rfl, (zel X)⟩)<|zbO<|zbO<|zbO<|zbP X X X X X X ⟨t_kr, X, t_kr, X, t_kr, X, X, t_kr, (zbp X (zbp X (zbp X zcu)))⟩<|fun hE15 w16 _ le17 st18 _ _ _ _ _ _=>Z X X X ?_
   have hJc := hJm _ _ _ _ hJ le17
   have hAc : ∃ u_, [Value.int .i64 (k : Int)] = [u_] ∧ (u_ = .int .i64 (k : Int) ∧ (0 ≤ (k : Int) ∧ (k : Int) < (p.questions.length : Int))) := ⟨_, rfl, rfl, by omega, by omega⟩
   have l27 := le2.trans le17
   refine zeH rfl rfl rfl rfl rfl (hY _ _ _ _ [] rest _ l27 hJc st18 hAc) ?_
   intro yb19 w20 h21 rest22 le23 st24 hj25 hx26
   refine zp ⟨_, rfl, _, _, le23, st24, ?_⟩
   intro hE29 w30 _ le31 st32 _ _
   refine Z X X X<|zbl X X ?_
   refine zp ⟨_, rfl, _, _, Le.refl _, st32, ?_⟩
   intro hE34 w35 _ le36 st37 _ _
   refine zT (v := (.bool _)) X X X ?_
   refine zp ⟨_, rfl, _, _, Le.refl _, st37, ?_⟩
   intro hE38 w39 _ le40 st41 _ _ _ _ _ _ _ _ _ _ _ _ _ _ _ _ _ _
   refine AllDeps.fin X<|O ?_
   refine zae rfl (fun c43 => ?_) (fun c43 => ?_)
   ·
    refine zw<|zK<|zd<|zd<|zK<|zgR Tryz.results69 ?_
    exact ⟨_, _, _, rfl, ((((l27.trans le23).trans le31).trans le36).trans le40), st41, .inr ⟨_, hJxm _ _ _ _ (hx26 (by simpa using c43)) ((le31.trans le36).trans le40)⟩⟩
   refine zy<|zO<|O<|zn<|zaM X X t_om X<|zh X X<|Y ?_
   have l44 := (((l27.trans le23).trans le31).trans le36).trans le40
   refine ⟨⟨k + 1, rest22, hE38⟩, ⟨rfl, trivial⟩, ?_, ⟨l44, st41, ?_, ?_⟩, ?_⟩
   ·exact zau
   ·first | omega | (simp; omega)
   ·have q_ := g6; rw [Int.toNat_natCast] at q_; rw [zja, if_pos q_]; exact hJm _ _ _ _ (hj25 (by simpa using c43)) ((le31.trans le36).trans le40)
   show p.questions.length - ((k + 1)) < p.questions.length - k
   omega
  have g6_r := g6
  replace g6 := t_of g6
  refine zbg (er := ([], [], [], [], 0)) (dsts := [11, 12, 13, 14, 15, 16, 17, 18, 19, 20, 21, 22]) st3 Tryz.mixed<|zc 0 [] X t_kr t_kr X X (fun hD wD τD hL hS hO  => (zf (j := 0) (hL.sub hS) (ls_c.up le2) X X X zeO))<|zc 1 [] X t_kr t_kr X X (fun hD wD τD hL hS hO  => (zel X)) ?_
  refine zas 2 (.det (.int .i64 ((zda (ls) ((k : Int)).toNat)))) [1, 0] rfl t_kr t_kr ?_ ?_
  ·
   intro hD wD τD hL hS hO _ _ _ _
   have st45 := St.start hS
   refine ze st45 rfl rfl rfl Tryz.call70 rfl (zhC st45.sub (ls_f.up (le2.trans hL)) _ (by omega) (by exact zgo hp hl (by omega) (by omega)) (by exact hn)) ?_
   intro r46 w47 h48 le49 st50 q51
   obtain rfl := q51
   exact zp ⟨_, _, rfl, st50, (), rfl, trivial⟩
  refine zc 3 [] X t_kr t_kr X X (fun hD wD τD hL hS hO  => (zf (j := 0) (hL.sub hS) (ls_c.up le2) X X X zeO))<|zc 4 [0] X t_kr t_kr X X (fun hD wD τD hL hS hO _ _ => (zhS (ls_f.up le2) X zbw))<|zc 5 [2, 0] X t_kr t_kr X X (fun hD wD τD hL hS hO _ _ _ _ => (Run.lit (r_lss X X) g6_r))<|zc 6 [0, 3] X t_kr t_kr X X (fun hD wD τD hL hS hO _ _ _ _ => (zeW X))<|zaN 7 [0] X t_kr t_kr X X X X (fun hD wD τD hL hS hO _ _ => X)<|zaN 8 [1] X t_kr t_kr X X X X (fun hD wD τD hL hS hO _ _ => X)<|zaN 9 [1, 0, 2] X t_kr t_kr X X X X (fun hD wD τD hL hS hO _ _ _ _ _ _ => X)<|zaN 10 [0, 3] X t_kr t_kr X X X X (fun hD wD τD hL hS hO _ _ _ _ => X)<|zc 11 [4, 0] X t_kr t_kr X X (fun hD wD τD hL hS hO _ _ _ _ => (zfR (v := (.bool _)) X X))<|zbP X X X X X X ⟨t_kr, X, t_kr, X, t_kr, X, X, t_kr, zcu⟩<|fun hE52 w53 _ le54 st55 _ _ _ _ _ _ _ _ _ _ _ _ _ _ _ _ _ _ _ _ _ _ _ _=>AllDeps.fin X<|O ?_
  refine zae rfl (fun c57 => ?_) (fun c57 => ?_)
  ·
   cases c57
  refine zy<|zO<|O<|zn<|zaM X X t_om X<|zh X X<|Y ?_
  have l58 := le2.trans le54
  refine ⟨⟨k + 1, rest, hE52⟩, ⟨rfl, trivial⟩, ?_, ⟨l58, st55, ?_, ?_⟩, ?_⟩
  ·exact zau
  ·first | omega | (simp; omega)
  ·have q_ := g6; rw [Int.toNat_natCast] at q_; rw [zja, if_neg q_, List.append_nil]; exact hJm _ _ _ _ hJ le54
  show p.questions.length - ((k + 1)) < p.questions.length - k
  omega
 refine zaI<|zm<|zm<|zam<|Post.end0 Tryz.results69 ?_
 exact ⟨_, _, _, rfl, le2, st3, .inl ⟨_, rfl, by rw [show p.questions.length = k by omega]; exact hJm _ _ _ _ hJ (Le.refl _)⟩⟩
theorem c_vote_Next_2 {h : Heap} {w : World} (hs : Sub h w) (a : Int) (b : Int) {ls_b : Nat} {ls_v : Value} {ls : (List (List Int))} (ls_f : Sl (LSl LInt) h ls_v ls) (ls_c : Cells h ls_b 0 [ls_v]) (ha : 0 ≤ a) (hb : 0 ≤ b) (hla : ∀ t ∈ ls, ∃ x_, t[a.toNat]? = some x_ ∧ 0 ≤ x_ ∧ x_ < 3) (hlb : ∀ t ∈ ls, ∃ x_, t[b.toNat]? = some x_ ∧ 0 ≤ x_ ∧ x_ < 3) (hn : ls.length ≤ 1000) : Calls Tryz.prog 72 #[.int .i64 a, .int .i64 b, .pointer (some ⟨ls_b, 0, none⟩)] w (Rets h w (fun _ _ res_ => res_ = .bool ((worseB ls a b)))) := by
 refine zP (n := 13) Tryz.func72 X X X<|have st0:=t_s0 hs;have ls_f_b:=ls_f.le;W.sr<|zF X X<|Y<|zj<|zbX Tryz.mixed t_kr (Cls h _) (Cls.drew st0)<|zH X X (fun _ hC => (zf (j := 0) hC.sub ls_c X X X zeO))<|zde X X ?_
 refine zcW rfl rfl (fun _ => zaV rfl Tryz.call70 rfl) (fun _ hC => Rets.quiet hC (zhC hC.sub ls_f _ (by first | exact ha | exact hb) (by first | exact hla | exact hlb) (by exact hn))) ?_
 refine zH X X (fun _ hC => (zf (j := 0) hC.sub ls_c X X X zeO))<|zde X X ?_
 refine zcW rfl rfl (fun _ => zaV rfl Tryz.call70 rfl) (fun _ hC => Rets.quiet hC (zhC hC.sub ls_f _ (by first | exact ha | exact hb) (by first | exact hla | exact hlb) (by exact hn))) ?_
 refine u_lss X X X<|u_asB X X<|zbC ?_
 rintro w1 ⟨h2, s3⟩
 have st4 := st0.call0 s3
 refine O<|zw<|zb Tryz.results72 ?_
 refine ⟨h2, _, rfl, st4.done, ?_⟩
 refine zx ?_
 rfl
theorem zix {h : Heap} {w : World} (hs : Sub h w) {p : Poll} {p_v0 : Value} (p_f0 : Sl LChapter h p_v0 p.text.chapters) {p_v1 : Value} (p_f1 : Sl LRule h p_v1 p.lexicon.rules) {p_v2 : Value} (p_f2 : Sl LDecision h p_v2 p.lexicon.decisions) {p_v3 : Value} (p_f3 : Sl LQuestion h p_v3 p.questions) {p_v4 : Value} (p_f4 : Sl LVoter h p_v4 p.voters) (voter : Int) (K1 : Cells h 1 0 Tryz.glob1) (K0 : Cells h 0 0 Tryz.glob0) : Calls Tryz.prog 17 #[.agg #[p_v0, p_v1, p_v2, p_v3, p_v4], .int .i64 voter] w (Rets h w (fun _ _ res_ => res_ = .tuple #[.agg #[.int .i64 ((zeT p voter)).lo, .int .i64 ((zeT p voter)).hi], .int .i64 (allE p (inB voter 0 ((p.voters.length : Int) - 1)))])) := by
 refine zP (n := 75) Tryz.func17 X X X<|have st0:=t_s0 hs;have p_f0_b:=p_f0.le;have p_f1_b:=p_f1.le;have p_f2_b:=p_f2.le;have p_f3_b:=p_f3.le;have p_f4_b:=p_f4.le;W.sr<|zJ st0 (cs := [p_v0, p_v1, p_v2, p_v3, p_v4]) X X X<|fun b1 w2 h3 le4 hc5 st6=>zQ st6 Tryz.zeroValue36 X X<|fun b7 w8 st9=>zq X X<|Y<|zj<|zbg (er := ([], [], [], [], 0)) (dsts := [16, 17, 18, 19, 20, 21, 22, 23, 24, 15, 25, 26, 6, 7]) st9 Tryz.mixed<|zc 0 [] X t_kr t_kr X X (fun hD wD τD hL hS hO  => (zat (hL.sub hS) hc5 X zaE zad X))<|zc 1 [] X t_kr t_kr X X (fun hD wD τD hL hS hO  => (zB X zt X zaL X))<|zc 2 [0] X t_kr t_kr X X (fun hD wD τD hL hS hO _ _ => (zf (j := 4) (hL.sub hS) hc5 X X X zbj))<|zc 3 [0] X t_kr t_kr X X (fun hD wD τD hL hS hO _ _ => (zhS (p_f4.up le4) X zaa))<|zc 4 [0] X t_kr t_kr X X (fun hD wD τD hL hS hO _ _ => (ziF X X t_om))<|zc 5 [] X t_kr t_kr X X (fun hD wD τD hL hS hO  => (zel X)) ?_
 refine zas 6 (.res (fun h' res_ => Sl LInt h' res_ ([voter])) (fun _ _ _ hl f => f.up hl)) [0] rfl t_kr t_kr ?_ ?_
 ·
  intro hD wD τD hL hS hO _ _
  have st10 := St.start hS
  refine zac (L := LInt) (xs := [voter]) (cs := [.int .i64 voter]) st10 (Enc.cons (L := LInt) (vs := [.int .i64 voter]) (x := voter) (h := hD) (X) Enc.nil) X X X zg Tryz.info3 X X X t_kr<|fun v11 w12 h15 le16 f13 st14=> ?_
  exact zp ⟨_, _, rfl, st14, _, rfl, f13⟩
 refine zas 7 (.det (.bool ((inB voter 0 ((p.voters.length : Int) - 1))))) [2, 0] rfl t_kr t_kr ?_ ?_
 ·
  intro hD wD τD hL hS hO _ _ gv6_0 gf6_0
  have st17 := St.start hS
  have con := (zes st17.sub (lo := 0) (hi := ((p.voters.length : Int) - 1)) gf6_0)
  rw [inAll_one] at con
  refine ze st17 X X X zfm X con<|fun r18 w19 h20 le21 st22 q23=> ?_
  obtain rfl := q23
  clear con
  exact zp ⟨_, _, rfl, st22, (), rfl, trivial⟩
 refine zas 8 (.res (fun h' res_ => ∃ gv8_0, res_ = .tuple #[gv8_0, .int .i64 (allE (p) (((inB voter 0 ((p.voters.length : Int) - 1)))))] ∧ Sl (LSl LInt) h' gv8_0 ((allL (p) (((inB voter 0 ((p.voters.length : Int) - 1))))))) (by rintro _ _ _ hl ⟨gv8_0, e_, gf8_0⟩; exact ⟨gv8_0, e_, gf8_0.up hl⟩)) [7, 0] rfl t_kr t_kr ?_ ?_
 ·
  intro hD wD τD hL hS hO _ _ _ _
  have st24 := St.start hS
  refine ze st24 X X X zhj X (zfi st24.sub (p := p) (p_f0.up (le4.trans hL)) (p_f1.up (le4.trans hL)) (p_f2.up (le4.trans hL)) (p_f3.up (le4.trans hL)) (p_f4.up (le4.trans hL)) _ (K1.up (le4.trans hL)) (K0.up (le4.trans hL)))<|fun r25 w26 h27 le28 st29 q30=> ?_
  obtain ⟨v31, rfl, f32⟩ := q30
  have f32_b := f32.le
  exact zp ⟨_, _, rfl, st29, _, rfl, ⟨_, rfl, f32⟩⟩
 refine zas 9 (.res (fun h' res_ => ∃ gv9_0, res_ = .tuple #[gv9_0, .int .i64 ((allE (p) (((inB voter 0 ((p.voters.length : Int) - 1))))))] ∧ Sl (LSl LInt) h' gv9_0 (((allL (p) (((inB voter 0 ((p.voters.length : Int) - 1)))))))) (by rintro _ _ _ hl ⟨gv9_0, e_, gf9_0⟩; exact ⟨gv9_0, e_, gf9_0.up hl⟩)) [0] rfl t_kr t_kr ?_ ?_
 ·
  intro hD wD τD hL hS hO gv8_ gf8_
  obtain ⟨gv8_0, rfl, gf8_0⟩ := gf8_
  have st33 := St.start hS
  refine zbY X X ?_
  exact zp ⟨_, _, rfl, st33, _, rfl, ⟨_, rfl, gf8_0⟩⟩
 refine zas 10 (.res (fun h' res_ => Sl (LSl LInt) h' res_ ((((allL (p) (((inB voter 0 ((p.voters.length : Int) - 1))))))))) (fun _ _ _ hl f => f.up hl)) [0] rfl t_kr t_kr ?_ ?_
 ·
  intro hD wD τD hL hS hO gv9_ gf9_
  obtain ⟨gv9_0, rfl, gf9_0⟩ := gf9_
  have st34 := St.start hS
  refine zA (v := gv9_0) X X X ?_
  exact zp ⟨_, _, rfl, st34, _, rfl, gf9_0⟩
 refine zas 11 (.det (.int .i64 ((allE (p) (((inB voter 0 ((p.voters.length : Int) - 1)))))))) [1] rfl t_kr t_kr ?_ ?_
 ·
  intro hD wD τD hL hS hO gv9_ gf9_
  obtain ⟨gv9_0, rfl, gf9_0⟩ := gf9_
  have st35 := St.start hS
  refine zA (v := (.int _ _)) X X X ?_
  exact zp ⟨_, _, rfl, st35, (), rfl, trivial⟩
 refine zas 12 (.res (fun h' res_ => Sl (LSl LInt) h' res_ (((((allL (p) (((inB voter 0 ((p.voters.length : Int) - 1)))))))))) (fun _ _ _ hl f => f.up hl)) [11, 10, 9, 8, 7, 6, 5, 4, 3, 2, 1] rfl t_kr t_kr ?_ ?_
 ·
  intro hD wD τD hL hS hO _ _ _ _ _ _ _ _ _ _ _ _ gv6_0 gf6_0 _ _ gv8_ gf8_ gv9_ gf9_ gv10_0 gf10_0
  obtain ⟨gv8_0, rfl, gf8_0⟩ := gf8_
  obtain ⟨gv9_0, rfl, gf9_0⟩ := gf9_
  have st36 := St.start hS
  refine zaf (v := gv10_0) X X ?_
  exact zp ⟨_, _, rfl, st36, _, rfl, gf10_0⟩
 refine zc 13 [12, 11, 10, 9, 8, 7, 6, 5, 4, 3, 2, 1, 0] X t_kr t_kr X X (fun hD wD τD hL hS hO _ _ _ _ _ _ _ _ _ _ _ _ gv6_0 gf6_0 _ _ gv8_ gf8_ gv9_ gf9_ gv10_0 gf10_0 _ _ gv12_0 gf12_0 => (r_asI X))<|zbP X X X X X X ⟨t_kr, X, t_kr, X, t_kr, X, X, t_kr, zcu⟩<|fun hE37 w38 _ le39 st40 _ _ _ _ _ _ _ _ _ _ _ _ gv6_0x41 gf6_0x41 _ _ gv8_x41 gf8_x41 gv9_x41 gf9_x41 gv10_0x41 gf10_0x41 _ _ gv12_0x41 gf12_0x41 _ _=> ?_
 obtain ⟨gv8_0x41, rfl, gf8_0x41⟩ := gf8_x41
 obtain ⟨gv9_0x41, rfl, gf9_0x41⟩ := gf9_x41
 refine AllDeps.fin X<|O<|zj<|W.sr<|zh X X<|zcf X X X<|Y ?_
 refine zC rfl (fun c42 => ?_) (fun c42 => ?_)
 ·
  refine W.sr<|zi X X (zbq (cs := [.int .i64 0, .int .i64 0]) t_kr)<|zh X X<|zI st40 (k := 0) X X X (za X (za X zan)) zdp X X X<|fun w43 st44=>zq X X<|Y<|zw<|zd<|zcE Tryz.results17 X Tryz.isAgg36 zdp X (st44.get (k := 0) X) ?_
  refine ⟨hE37, _, rfl, st44.done, ?_⟩
  refine tup2 ?_ (zah ?_)
  have hwz : zeT p voter = zSpan := by simp_all [zeT]
  all_goals first | (rw [hwz]; rfl) | rfl | (simp_all; done)
 refine zy<|O<|zj ?_
 have hz0 : allE p (inB voter 0 ((p.voters.length : Int) - 1)) = 0 := by simpa using c42
 obtain ⟨hk1, hk2, hk3, hk4⟩ := zgQ hz0
 have hk5 := List.length_pos_iff.2 hk3
 have hk6 : (allL p (inB voter 0 ((p.voters.length : Int) - 1))).length = (zM p).length := by rw [hk4]
 have hk7 := zep (zcb hk1).2
 have hk8 := zcO (zcb hk1).2
 have hin : (inB voter 0 ((p.voters.length : Int) - 1)) = true := (zgQ hz0).2.1
 have hin2 : 0 ≤ voter ∧ voter < (p.voters.length : Int) := by simp only [inB, Bool.and_eq_true, decide_eq_true_eq] at hin; omega
 obtain ⟨v, hv⟩ : ∃ v, p.voters[voter.toNat]? = some v := ⟨_, List.getElem?_eq_getElem (by omega)⟩
 have hvo := zgK (zcb hk1).2 (List.mem_of_getElem? hv)
 refine zn<|zi X X (zbq (cs := [.int .i64 6, .int .i64 0]) t_kr)<|zQ st40 Tryz.zeroValue36 X X<|fun b45 w46 st47=>zI st47 (k := 1) X X X (za X (za X zan)) zdp X X X<|fun w48 st49=>Y<|zj<|W.sr<|zR (v := gv12_0x41) X X<|zaH gf12_0x41 X zbw X<|zh X X<|Y<|zG ?_
 refine zax ([10, 11, 12, 13, 14] ++ t_rg 34 40) (G := Nat × Span × Heap) (fun ⟨i, sp, h50⟩ => [(34, .int .i64 (i : Int))]) (fun ⟨i, sp, h50⟩ w' => Le hE37 h50 ∧ St h w h50 w' [[(b7, .cells (List.toArray [.int .i64 0, .int .i64 0]) 36)], [(b45, .cells (List.toArray [.int .i64 sp.lo, .int .i64 sp.hi]) 36)]] ∧ (i ≤ (allL p (inB voter 0 ((p.voters.length : Int) - 1))).length) ∧ (sp = spanK v ((allL p (inB voter 0 ((p.voters.length : Int) - 1))).take i))) (fun ⟨i, sp, h50⟩ => (allL p (inB voter 0 ((p.voters.length : Int) - 1))).length - i) ⟨0, ⟨6, 0⟩, hE37⟩ ⟨rfl, trivial⟩ ⟨Le.refl _, st49, zaW, (by rfl)⟩ ?_
 rintro ⟨i, sp, h50⟩ _ w53 ⟨le51, st52, hi, hsp⟩
 refine W.sr<|zaX X X X<|Y<|zj ?_
 refine zC rfl (fun c54 => ?_) (fun c54 => ?_)
 ·
  refine zy<|O<|zj<|zG<|W.sr ?_
  obtain ⟨t, ht⟩ : ∃ y_, ((((((allL (p) (((inB voter 0 ((p.voters.length : Int) - 1))))))))))[i]? = some y_ := t_ge (by omega)
  obtain ⟨b55, o56, _, he58, hc57, hr_t⟩ := Sl.elem (gf12_0x41.up le51) ht
  obtain ⟨v59, rfl, f60⟩ := hr_t
  have f60_b := f60.le
  refine zU he58 X X (hk := X) (hu := zbw) (hz := zbs) X<|U (j := 0) st52.sub hc57 X X X zce X<|zaf (v := v59) X X<|Y<|zj ?_
  have htm : t ∈ zM p := by rw [← hk4]; exact List.mem_of_getElem? ht
  have htl := zdB htm
  refine zn<|zq X X<|Y<|zj<|W.sr<|zR (v := v59) X X<|zaH f60 X zg X<|zh X X<|Y<|zG ?_
  refine zax ([11, 12, 13, 14] ++ t_rg 40 24) (G := Nat × Heap) (fun ⟨k, h61⟩ => [(11, .int .i64 (zhK v t k : Int)), (40, .int .i64 (k : Int))]) (fun ⟨k, h61⟩ w' => Le h50 h61 ∧ St h w h61 w' [[(b7, .cells (List.toArray [.int .i64 0, .int .i64 0]) 36)], [(b45, .cells (List.toArray [.int .i64 sp.lo, .int .i64 sp.hi]) 36)]] ∧ (k ≤ t.length)) (fun ⟨k, h61⟩ => t.length - k) ⟨0, h50⟩ ⟨rfl, rfl, trivial⟩ ⟨Le.refl _, st52, zaW⟩ ?_
  rintro ⟨k, h61⟩ _ w64 ⟨le62, st63, hk⟩
  have hwk := wrongK_le v t k
  refine W.sr<|zaX X X X<|Y<|zj ?_
  refine zC rfl (fun c65 => ?_) (fun c65 => ?_)
  ·
   refine zy<|O<|zj<|zG<|W.sr<|zh X X ?_
   obtain ⟨c, hc⟩ : ∃ y_, (t)[k]? = some y_ := t_ge (by omega)
   obtain ⟨b66, o67, _, he69, hc68, hr_c⟩ := Sl.elem (f60.up le62) hc
   obtain rfl := hr_c
   refine zU he69 X X (hk := X) (hu := zg) (hz := zl) X<|U (j := 0) st63.sub hc68 X X X zz X<|zq X X<|zq X X<|Y<|W.sr<|E X zt X zaL X X<|U (j := 4) st63.sub (hc5.up ((le39.trans le51).trans le62)) X X X zbj X<|zh X X ?_
   have l74 := ((le4.trans le39).trans le51).trans le62
   obtain ⟨b70, o71, _, he73, hc72, hr_v⟩ := Sl.elem (p_f4.up l74) hv
   obtain ⟨v75, rfl, f76⟩ := hr_v
   have f76_b := f76.le
   refine zi rfl rfl (zav he73 rfl rfl (hk := (show _ = ((voter.toNat : Nat) : Int) by omega)) (hu := zaa) (hz := zaT)) ?_
   refine E X zaz X zbs X X<|U (j := 2) st63.sub hc72 X X X zce X<|zh X X ?_
   obtain ⟨a, ha⟩ : ∃ y_, (v.votes)[k]? = some y_ := t_ge (by omega)
   obtain ⟨b77, o78, _, he80, hc79, hr_a⟩ := Sl.elem f76 ha
   obtain rfl := hr_a
   refine zU he80 X X (hk := X) (hu := zg) (hz := zl) X<|U (j := 0) st63.sub hc79 X X X zz X<|zq X X<|Y<|W.sr<|zh X X<|zhq X X X<|zS X X ?_
   refine zY (d := 56) rfl (fun g81 => ?_) (fun g81 => ?_)
   ·
    refine Z X X X<|zh X X<|Z X X X<|zh X X<|Z X X X<|zcf X X X<|zT (v := (.bool _)) X X X<|Y ?_
    refine zC rfl (fun c82 => ?_) (fun c82 => ?_)
    ·
     refine zn<|zh X X ?_
     refine zi rfl rfl (zhs rfl rfl (by have q_ := wrongK_le v t k; omega)) ?_
     refine zq X X<|zp<|zO<|O<|zn<|zaM X X t_om X<|zh X X<|Y ?_
     refine ⟨⟨k + 1, h61⟩, ⟨?_, rfl, trivial⟩, ?_, ⟨le62, st63, ?_⟩, ?_⟩
     ·exact zah (by rw [wrongK_succ]; first | (rw [wrongAt_neg ha ?_]; simp; omega) | (rw [zfT ha hc]; simp_all; done) | (rw [zfT ha hc]; simp_all; omega))
     ·exact zau
     ·first | omega | (simp; omega)
     show t.length - ((k + 1)) < t.length - k
     omega
    refine zy<|zO<|O<|zn<|zaM X X t_om X<|zh X X<|Y ?_
    refine ⟨⟨k + 1, h61⟩, ⟨?_, rfl, trivial⟩, ?_, ⟨le62, st63, ?_⟩, ?_⟩
    ·exact zah (by rw [wrongK_succ]; first | (rw [wrongAt_neg ha ?_]; simp; omega) | (rw [zfT ha hc]; simp_all; done) | (rw [zfT ha hc]; simp_all; omega))
    ·exact zau
    ·first | omega | (simp; omega)
    show t.length - ((k + 1)) < t.length - k
    omega
   refine M X X X X X<|M X X X X X<|M X X X X X<|zN (v := (.bool _)) X X X<|Y ?_
   refine zae rfl (fun c83 => ?_) (fun c83 => ?_)
   ·
    cases c83
   refine zy<|zO<|O<|zn<|zaM X X t_om X<|zh X X<|Y ?_
   refine ⟨⟨k + 1, h61⟩, ⟨?_, rfl, trivial⟩, ?_, ⟨le62, st63, ?_⟩, ?_⟩
   ·exact zah (by rw [wrongK_succ]; first | (rw [wrongAt_neg ha ?_]; simp; omega) | (rw [zfT ha hc]; simp_all; done) | (rw [zfT ha hc]; simp_all; omega))
   ·exact zau
   ·first | omega | (simp; omega)
   show t.length - ((k + 1)) < t.length - k
   omega
  refine zaI<|zm<|zm<|zam<|O<|zn<|E X Tryz.underlying36 X zl X X<|zbi (st63.get (k := 1) X) X X zz X<|zh X X<|zi X X (r_min X X)<|E X Tryz.underlying36 X zl X X<|zbi (st63.get (k := 1) X) X X zz X<|zh X X<|zi X X (r_max X X)<|zi X X (zbq (cs := [.int .i64 (minI sp.lo (zhK v t k : Int)), .int .i64 (maxI sp.hi (zhK v t k : Int))]) t_kr)<|zI st63 (k := 1) X X X (za X (za X zan)) zdp X X X<|fun w84 st85=>zp<|zO<|O<|zn<|zaM X X t_om X<|zh X X<|Y ?_
  refine ⟨⟨i + 1, ⟨minI sp.lo (zhK v t k), maxI sp.hi (zhK v t k)⟩, h61⟩, ⟨rfl, trivial⟩, ?_, ⟨(le51.trans le62), st85, ?_, ?_⟩, ?_⟩
  ·exact zau
  ·first | omega | (simp; omega)
  ·rw [spanK_snoc ht, ← hsp, zcF, show ((List.range t.length).filter (zfo v t)).length = zhK v t t.length from rfl, show t.length = k by omega]
  show (allL p (inB voter 0 ((p.voters.length : Int) - 1))).length - ((i + 1)) < (allL p (inB voter 0 ((p.voters.length : Int) - 1))).length - i
  omega
 refine zaI<|zm<|zm<|zam<|O<|W.sr<|zbc (st52.get (k := 1) X) X Tryz.isAgg36 zdp X X<|zI st52 (k := 0) X X X (za X (za X zan)) zdp X X X<|fun w86 st87=>zq X X<|Y<|zw<|zcE Tryz.results17 X Tryz.isAgg36 zdp X (st87.get (k := 0) X) ?_
 refine ⟨h50, _, rfl, st87.done, ?_⟩
 refine tup2 ?_ (zah ?_)
 all_goals first | exact hz0.symm | (rw [zeT, if_pos hz0, hv, hsp, List.take_of_length_le (by omega), hk4]; rfl)
theorem c_vote_Tally {h : Heap} {w : World} (hs : Sub h w) {p : Poll} {p_v0 : Value} (p_f0 : Sl LChapter h p_v0 p.text.chapters) {p_v1 : Value} (p_f1 : Sl LRule h p_v1 p.lexicon.rules) {p_v2 : Value} (p_f2 : Sl LDecision h p_v2 p.lexicon.decisions) {p_v3 : Value} (p_f3 : Sl LQuestion h p_v3 p.questions) {p_v4 : Value} (p_f4 : Sl LVoter h p_v4 p.voters) (question : Int) (K1 : Cells h 1 0 Tryz.glob1) (K0 : Cells h 0 0 Tryz.glob0) : Calls Tryz.prog 19 #[.agg #[p_v0, p_v1, p_v2, p_v3, p_v4], .int .i64 question] w (Rets h w (fun h' _ res_ => ∃ u0, res_ = .tuple #[u0, .int .i64 (zis p question)] ∧ Sl LInt h' u0 ((tallyR p question)))) := by
 refine zP (n := 54) Tryz.func19 X X X<|have st0:=t_s0 hs;have p_f0_b:=p_f0.le;have p_f1_b:=p_f1.le;have p_f2_b:=p_f2.le;have p_f3_b:=p_f3.le;have p_f4_b:=p_f4.le;W.sr<|zJ st0 (cs := [p_v0, p_v1, p_v2, p_v3, p_v4]) X X X<|fun b1 w2 h3 le4 hc5 st6=>zcM X X<|zq X X<|Y<|zj<|W.sr<|zr st6.sub hc5 X zaE zad X X<|ze st6 X X X Tryz.call40 X (c_vote_Check st6.sub (p := p) (p_f0.up le4) (p_f1.up le4) (p_f2.up le4) (p_f3.up le4) (p_f4.up le4) (K1.up le4) (K0.up le4))<|fun r7 w8 h9 le10 st11 q12=> ?_
 obtain rfl := q12
 refine zq X X<|Y<|W.sr<|zh X X<|zcf X X X<|Y ?_
 refine zC rfl (fun c13 => ?_) (fun c13 => ?_)
 ·
  refine W.sr<|zh X X<|zcM X X<|zq X X<|Y<|zw<|zd<|zbb Tryz.results19 ?_
  refine ⟨h9, _, rfl, st11.done, ?_⟩
  refine ⟨_, tup2 rfl (zah ?_), Sl.to (Sl.nil _ _) ?_⟩
  all_goals (simp_all [tallyR, zis])
 refine zy<|O<|zj<|W.sr<|E X zt X zbe X X<|U (j := 3) st11.sub (hc5.up le10) X X X zby X<|have l14:=le4.trans le10;zaH (p_f3.up l14) X zaq X<|ziC X X t_om X<|zh X X<|zac (L := LInt) (xs := [question]) (cs := [.int .i64 question]) st11 (Enc.cons (L := LInt) (vs := [.int .i64 question]) (x := question) (h := h9) (X) Enc.nil) X X X zg Tryz.info3 X X X t_kr<|fun v15 w16 h19 le20 f17 st18=> ?_
 have con := (zes st18.sub (lo := 0) (hi := ((p.questions.length : Int) - 1)) f17)
 rw [inAll_one] at con
 refine ze st18 X X X zfm X con<|fun r21 w22 h23 le24 st25 q26=> ?_
 obtain rfl := q26
 clear con
 refine zbl X X<|Y ?_
 refine zae rfl (fun c27 => ?_) (fun c27 => ?_)
 ·
  refine W.sr<|zcM X X<|zq X X<|Y<|zw<|zd<|zbb Tryz.results19 ?_
  refine ⟨h23, _, rfl, st25.done, ?_⟩
  refine ⟨_, tup2 rfl (zah ?_), Sl.to (Sl.nil _ _) ?_⟩
  all_goals (simp_all [tallyR, zis])
 refine zy<|O<|zj ?_
 have hk1 : zbM p = 0 := by simpa using c13
 have hin : inB question 0 ((p.questions.length : Int) - 1) = true := by simpa using c27
 have hin2 : 0 ≤ question ∧ question < (p.questions.length : Int) := by simp only [inB, Bool.and_eq_true, decide_eq_true_eq] at hin; omega
 obtain ⟨q, hq⟩ : ∃ q, p.questions[question.toNat]? = some q := ⟨_, List.getElem?_eq_getElem (by omega)⟩
 have hpb := (zcb hk1).2
 have hq0 := zgL hpb hq
 have hpl := zcO hpb
 have hte : zis p question = 0 := by rw [zis, if_neg (by simp [hk1]), if_pos hin]
 refine zn<|E X zt X zbe X X<|U (j := 3) st25.sub (hc5.up ((le10.trans le20).trans le24)) X X X zby X<|zh X X ?_
 have l32 := (l14.trans le20).trans le24
 obtain ⟨b28, o29, _, he31, hc30, hr_q⟩ := Sl.elem (p_f3.up l32) hq
 obtain ⟨v33, rfl, f34⟩ := hr_q
 have f34_b := f34.le
 refine zi rfl rfl (zav he31 rfl rfl (hk := (show _ = ((question.toNat : Nat) : Int) by omega)) (hu := zaq) (hz := zbR)) ?_
 refine E X zaF X zch X X<|U (j := 3) st25.sub hc30 X X X zcy X<|zaH f34 X zaZ X ?_
 refine OpsL.makeInts (m := q.heads.length) st25 rfl zg Tryz.info3 rfl rfl rfl rfl (by show 8 * (q.heads.length) ≤ 281474976710656; omega) (by omega) ?_
 intro v35 o36 w37 f38 st39
 refine zaf (v := v35) X X<|Y<|zj<|W.sr<|E X zt X zaL X X<|U (j := 4) st39.sub (hc5.up ((le10.trans le20).trans le24)) X X X zbj X<|zaH (p_f4.up l32) X zaa X<|zh X X<|Y<|zG ?_
 refine zax ([9, 10] ++ t_rg 35 18) (G := Nat × List (Nat × Obj) × Heap) (fun ⟨i, o_7, h40⟩ => [(35, .int .i64 (i : Int))]) (fun ⟨i, o_7, h40⟩ w' => Le h23 h40 ∧ St h w h40 w' [o_7] ∧ (OSl LInt 3 h40 v35 ((zfb (p.voters.take i) question.toNat q.heads.length)) o_7) ∧ (i ≤ p.voters.length)) (fun ⟨i, o_7, h40⟩ => p.voters.length - i) ⟨0, o36, h23⟩ ⟨rfl, trivial⟩ ⟨Le.refl _, st39, (OSl.to f38 (by exact tally_zero _ _)), zaW⟩ ?_
 rintro ⟨i, o_7, h40⟩ _ w43 ⟨le41, st42, hO_7, hi⟩
 refine W.sr<|zaX X X X<|Y<|zj ?_
 refine zC rfl (fun c44 => ?_) (fun c44 => ?_)
 ·
  refine zy<|O<|zj<|zG<|W.sr ?_
  obtain ⟨v, hv⟩ : ∃ y_, (p.voters)[i]? = some y_ := t_ge (by omega)
  have l49 := l32.trans le41
  obtain ⟨b45, o46, _, he48, hc47, hr_v⟩ := Sl.elem (p_f4.up l49) hv
  obtain ⟨v50, rfl, f51⟩ := hr_v
  have f51_b := f51.le
  refine zU he48 X X (hk := X) (hu := zaa) (hz := zaT) X<|zr st42.sub hc47 X zdU zaT X X<|zQ st42 zdt X X<|fun b52 w53 st54=>zI st54 (k := 1) X X X (za X (za X (za f51.one zan))) zaT X X X<|fun w55 st56=> ?_
  obtain ⟨h57, le58, hb59, st61⟩ := st56.freeze (k := 1) rfl
  have hc60 := Cells.of hb59
  refine Y<|W.sr<|E X zaz X zbs X X<|U (j := 2) st61.sub hc60 X X X zce X<|zh X X ?_
  obtain ⟨a, ha⟩ : ∃ y_, (v.votes)[question.toNat]? = some y_ := t_ge (by have q1 := (zgK hpb (List.mem_of_getElem? hv)).2.2.1; omega)
  obtain ⟨b62, o63, _, he65, hc64, hr_a⟩ := Sl.elem (f51.up le58) ha
  obtain rfl := hr_a
  refine zi rfl rfl (zav he65 rfl rfl (hk := (show _ = ((question.toNat : Nat) : Int) by omega)) (hu := zg) (hz := zl)) ?_
  refine U (j := 0) st61.sub hc64 X X X zz X<|zq X X<|Y<|W.sr<|zh X X<|zhq X X X<|Y ?_
  refine zC rfl (fun c66 => ?_) (fun c66 => ?_)
  ·
   have ha0 := c66
   have hvk := votes_in (zgK hpb (List.mem_of_getElem? hv)).2.2.2 ha hq
   have htl := zgd (p.voters.take i) question.toNat q.heads.length
   refine zn<|zR (v := v35) X X<|zh X X ?_
   obtain ⟨x, hx⟩ : ∃ y_, ((zfb (p.voters.take i) question.toNat q.heads.length))[a.toNat]? = some y_ := t_ge (by omega)
   obtain ⟨b67, o68, cur69, _, e72, he70, hr_x, hc71⟩ := OSl.elem (hO_7.up le58) hx
   subst e72
   obtain rfl := hr_x
   refine zi rfl rfl (zav he70 rfl rfl (hk := (show _ = ((a.toNat : Nat) : Int) by omega)) (hu := zg) (hz := zl)) ?_
   refine zi X X (zcN (j := 0) (st61.get (k := 0) X) hc71 X X X zz) ?_
   refine zi rfl rfl (zhs rfl rfl (by have q1 := tally_small hx; rw [List.length_take] at q1; omega)) ?_
   obtain ⟨b73, o74, cur75, _, e78, he76, hr_x, hc77⟩ := OSl.elem (hO_7.up le58) hx
   obtain ⟨hb79, hc80⟩ : b67 = b73 ∧ cur69 = cur75 := by cases e78; exact ⟨rfl, rfl⟩
   subst hb79
   subst hc80
   obtain rfl := hr_x
   refine zi rfl rfl (zav he76 rfl rfl (hk := (show _ = ((a.toNat : Nat) : Int) by omega)) (hu := zg) (hz := zl)) ?_
   refine zdS (k := 0) st61 (hO_7.up le58) rfl (by omega) he76 rfl rfl (rfl) zl ?_
   intro o81 w82 _ e83 f84 st85
   subst e83
   refine zp<|zO<|O<|zn<|zaM X X t_om X<|zh X X<|Y ?_
   refine ⟨⟨i + 1, o81, h57⟩, ⟨rfl, trivial⟩, ?_, ⟨(le41.trans le58), st85.take 1, ?_, ?_⟩, ?_⟩
   ·exact zau
   ·refine OSl.to f84 ?_
    exact tally_set hv ha (by omega) hx
   ·first | omega | (simp; omega)
   show p.voters.length - ((i + 1)) < p.voters.length - i
   omega
  refine zy<|zO<|O<|zn<|zaM X X t_om X<|zh X X<|Y ?_
  refine ⟨⟨i + 1, o_7, h57⟩, ⟨rfl, trivial⟩, ?_, ⟨(le41.trans le58), st61.take 1, ?_, ?_⟩, ?_⟩
  ·exact zau
  ·refine OSl.to (hO_7.up le58) ?_
   exact (tally_skip hv ha (by have q_ := c66; omega)).symm
  ·first | omega | (simp; omega)
  show p.voters.length - ((i + 1)) < p.voters.length - i
  omega
 refine zaI<|zm<|zm<|zam<|O<|W.sr<|zR (v := v35) X X<|zaf (v := v35) X X<|zq X X<|Y<|zw<|zbb Tryz.results19 ?_
 obtain ⟨h86, le87, f88, st89⟩ := OSl.freeze (k := 0) st42 hO_7 rfl (by rw [zgd]; omega)
 refine ⟨h86, _, rfl, st89.done, ?_⟩
 refine ⟨_, tup2 rfl (zah ?_), Sl.to f88 ?_⟩
 all_goals first | (simp_all [tallyR, zis]; done) | (rw [tallyR, if_pos hte, hq, List.take_of_length_le (by omega)]; rfl)
end Go.Pk

namespace Go.Pk
open Go Go.RowKit Go.Proofs
theorem gives_ask {h : Heap} {p_b : Nat} {p : Poll} {p_v0 : Value} (p_f0 : Sl LChapter h p_v0 p.text.chapters) {p_v1 : Value} (p_f1 : Sl LRule h p_v1 p.lexicon.rules) {p_v2 : Value} (p_f2 : Sl LDecision h p_v2 p.lexicon.decisions) {p_v3 : Value} (p_f3 : Sl LQuestion h p_v3 p.questions) {p_v4 : Value} (p_f4 : Sl LVoter h p_v4 p.voters) (p_c : Cells h p_b 0 [p_v0, p_v1, p_v2, p_v3, p_v4]) {ls_b : Nat} {ls_v : Value} {ls : (List (List Int))} (ls_f : Sl (LSl LInt) h ls_v ls) (ls_c : Cells h ls_b 0 [ls_v]) (hp : zcJ p = true) (hl : ∀ t ∈ ls, t ∈ zM p) (hn : ls.length ≤ 1000) : GivesA Tryz.prog 60 [.pointer (some ⟨p_b, 0, none⟩), .pointer (some ⟨ls_b, 0, none⟩)] (fun (_ : List (List Int)) h_ u_ (x_ : List Int) => Sl LInt h_ u_ x_ ∧ x_.length ≤ 6) (fun xs => xs = askC ls p.questions.length (2 ^ p.questions.length)) h := by
 intro h0 w0 h1 l1 l J Jx hm hxm hY h2 w rest l2 hJ st
 exact c_vote_Ask_1 (p := p) (p_f0.up (l1.trans l2)) (p_f1.up (l1.trans l2)) (p_f2.up (l1.trans l2)) (p_f3.up (l1.trans l2)) (p_f4.up (l1.trans l2)) (p_c.up (l1.trans l2)) (ls_f.up (l1.trans l2)) (ls_c.up (l1.trans l2)) hm hxm hJ (fun _ _ _ _ _ _ _ l3 a b c => hY _ _ _ _ _ _ _ (l2.trans l3) a b c) hp hl hn st
theorem gives_next {h : Heap} {p_b : Nat} {p : Poll} {p_v0 : Value} (p_f0 : Sl LChapter h p_v0 p.text.chapters) {p_v1 : Value} (p_f1 : Sl LRule h p_v1 p.lexicon.rules) {p_v2 : Value} (p_f2 : Sl LDecision h p_v2 p.lexicon.decisions) {p_v3 : Value} (p_f3 : Sl LQuestion h p_v3 p.questions) {p_v4 : Value} (p_f4 : Sl LVoter h p_v4 p.voters) (p_c : Cells h p_b 0 [p_v0, p_v1, p_v2, p_v3, p_v4]) {ls_b : Nat} {ls_v : Value} {ls : (List (List Int))} (ls_f : Sl (LSl LInt) h ls_v ls) (ls_c : Cells h ls_b 0 [ls_v]) (hp : zcJ p = true) (hl : ∀ t ∈ ls, t ∈ zM p) (hn : ls.length ≤ 1000) : GivesA Tryz.prog 69 [.pointer (some ⟨p_b, 0, none⟩), .pointer (some ⟨ls_b, 0, none⟩)] (fun (_ : List (Int)) h_ u_ (x_ : Int) => u_ = .int .i64 x_ ∧ (0 ≤ x_ ∧ x_ < (p.questions.length : Int))) (fun xs => xs = nextC ls p.questions.length) h := by
 intro h0 w0 h1 l1 l J Jx hm hxm hY h2 w rest l2 hJ st
 exact c_vote_Next_1 (p := p) (p_f0.up (l1.trans l2)) (p_f1.up (l1.trans l2)) (p_f2.up (l1.trans l2)) (p_f3.up (l1.trans l2)) (p_f4.up (l1.trans l2)) (p_c.up (l1.trans l2)) (ls_f.up (l1.trans l2)) (ls_c.up (l1.trans l2)) hm hxm hJ (fun _ _ _ _ _ _ _ l3 a b c => hY _ _ _ _ _ _ _ (l2.trans l3) a b c) hp hl hn st
theorem c_vote_Ask {h : Heap} {w : World} (hs : Sub h w) {p : Poll} {p_v0 : Value} (p_f0 : Sl LChapter h p_v0 p.text.chapters) {p_v1 : Value} (p_f1 : Sl LRule h p_v1 p.lexicon.rules) {p_v2 : Value} (p_f2 : Sl LDecision h p_v2 p.lexicon.decisions) {p_v3 : Value} (p_f3 : Sl LQuestion h p_v3 p.questions) {p_v4 : Value} (p_f4 : Sl LVoter h p_v4 p.voters) (K1 : Cells h 1 0 Tryz.glob1) (K0 : Cells h 0 0 Tryz.glob0) : Calls Tryz.prog 22 #[.agg #[p_v0, p_v1, p_v2, p_v3, p_v4]] w (Rets h w (fun h' _ res_ => ∃ u0, res_ = .tuple #[u0, .int .i64 (allE p true)] ∧ Sl LInt h' u0 ((ziR p)))) := by
 refine zP (n := 18) Tryz.func22 X X X<|have st0:=t_s0 hs;have p_f0_b:=p_f0.le;have p_f1_b:=p_f1.le;have p_f2_b:=p_f2.le;have p_f3_b:=p_f3.le;have p_f4_b:=p_f4.le;W.sr<|zJ st0 (cs := [p_v0, p_v1, p_v2, p_v3, p_v4]) X X X<|fun b1 w2 h3 le4 hc5 st6=>zcM X X<|zq X X<|Y<|W.sr<|zr st6.sub hc5 X zaE zad X X<|ze st6 X X X zhj X (zfi st6.sub (p := p) (p_f0.up le4) (p_f1.up le4) (p_f2.up le4) (p_f3.up le4) (p_f4.up le4) _ (K1.up le4) (K0.up le4))<|fun r7 w8 h9 le10 st11 q12=> ?_
 obtain ⟨v13, rfl, f14⟩ := q12
 have f14_b := f14.le
 refine zbY X X<|zA (v := v13) X X X<|zA (v := (.int _ _)) X X X<|zQ st11 Tryz.zeroValue91 X X<|fun b15 w16 st17=>zar st17 (k := 0) X X (v := v13) X f14.one Tryz.sizeOf91 X X X<|fun w18 st19=> ?_
 obtain ⟨h20, le21, hb22, st24⟩ := st19.freeze (k := 0) rfl
 have hc23 := Cells.of hb22
 refine zq X X<|Y<|zj<|W.sr<|zh X X<|zcf X X X<|Y ?_
 refine zC rfl (fun c25 => ?_) (fun c25 => ?_)
 ·
  refine W.sr<|zh X X<|zcM X X<|zq X X<|Y<|zw<|zd<|zbb Tryz.results22 ?_
  refine ⟨h20, _, rfl, st24.done, ?_⟩
  refine ⟨_, tup2 rfl (zah ?_), Sl.to (Sl.nil _ _) ?_⟩
  all_goals (simp_all [ziR])
 refine zy<|O<|zj ?_
 have hz0 : allE p true = 0 := by simpa using c25
 obtain ⟨hk1, hk2, hk3, hk4⟩ := zgQ hz0
 have hk5 := List.length_pos_iff.2 hk3
 have hk6 : (allL p true).length = (zM p).length := by rw [hk4]
 have hk7 := zep (zcb hk1).2
 have hk8 := zcO (zcb hk1).2
 have hpb := (zcb hk1).2
 have hal : ∀ t ∈ allL p true, t ∈ zM p := by rw [hk4]; exact fun _ q_ => q_
 refine zn<|zcL X X X<|zi X X (r_asF X)<|Y<|W.sr<|zgY X X ?_
 refine ze st24 rfl rfl rfl Tryz.call63 rfl (c_vote_first_Lint st24.sub (lt := zjo) (B := fun x => x.length ≤ 6) Tryz.call60 (gives_ask (p := p) (p_f0.up ((le4.trans le10).trans le21)) (p_f1.up ((le4.trans le10).trans le21)) (p_f2.up ((le4.trans le10).trans le21)) (p_f3.up ((le4.trans le10).trans le21)) (p_f4.up ((le4.trans le10).trans le21)) (hc5.up (le10.trans le21)) (f14.up le21) hc23 hpb (by rw [hk4]; exact fun _ q_ => q_) (by omega)) Tryz.call64 (fun _ _ _ _ q_ => q_) (fun _ _ _ _ _ _ _ s_ f1_ f2_ _ _ => c_vote_Ask_2 s_ f1_ f2_)) ?_
 intro r26 w27 h28 le29 st30 q31
 obtain ⟨v32, e34, f33⟩ := q31
 rw [← e34] at f33
 have f33_b := f33.le
 refine zaf (v := r26) X X<|zq X X<|Y<|zw<|zbb Tryz.results22 ?_
 refine ⟨h28, _, rfl, st30.done, ?_⟩
 refine ⟨_, tup2 rfl (zah ?_), Sl.to f33 ?_⟩
 all_goals first | exact hz0.symm | (rw [ziR, if_pos hz0, ← askK_first, hk4]; rfl) | (simp_all [ziR]; done)
theorem c_vote_Next {h : Heap} {w : World} (hs : Sub h w) {p : Poll} {p_v0 : Value} (p_f0 : Sl LChapter h p_v0 p.text.chapters) {p_v1 : Value} (p_f1 : Sl LRule h p_v1 p.lexicon.rules) {p_v2 : Value} (p_f2 : Sl LDecision h p_v2 p.lexicon.decisions) {p_v3 : Value} (p_f3 : Sl LQuestion h p_v3 p.questions) {p_v4 : Value} (p_f4 : Sl LVoter h p_v4 p.voters) (K1 : Cells h 1 0 Tryz.glob1) (K0 : Cells h 0 0 Tryz.glob0) : Calls Tryz.prog 24 #[.agg #[p_v0, p_v1, p_v2, p_v3, p_v4]] w (Rets h w (fun _ _ res_ => res_ = .tuple #[.int .i64 ((nextR p)), .int .i64 (nextE p)])) := by
 refine zP (n := 22) Tryz.func24 X X X<|have st0:=t_s0 hs;have p_f0_b:=p_f0.le;have p_f1_b:=p_f1.le;have p_f2_b:=p_f2.le;have p_f3_b:=p_f3.le;have p_f4_b:=p_f4.le;W.sr<|zJ st0 (cs := [p_v0, p_v1, p_v2, p_v3, p_v4]) X X X<|fun b1 w2 h3 le4 hc5 st6=>zq X X<|zq X X<|Y<|W.sr<|zr st6.sub hc5 X zaE zad X X<|ze st6 X X X zhj X (zfi st6.sub (p := p) (p_f0.up le4) (p_f1.up le4) (p_f2.up le4) (p_f3.up le4) (p_f4.up le4) _ (K1.up le4) (K0.up le4))<|fun r7 w8 h9 le10 st11 q12=> ?_
 obtain ⟨v13, rfl, f14⟩ := q12
 have f14_b := f14.le
 refine zbY X X<|zA (v := v13) X X X<|zA (v := (.int _ _)) X X X<|zQ st11 Tryz.zeroValue91 X X<|fun b15 w16 st17=>zar st17 (k := 0) X X (v := v13) X f14.one Tryz.sizeOf91 X X X<|fun w18 st19=> ?_
 obtain ⟨h20, le21, hb22, st24⟩ := st19.freeze (k := 0) rfl
 have hc23 := Cells.of hb22
 refine zq X X<|Y<|zj<|W.sr<|zh X X<|zcf X X X<|Y ?_
 refine zC rfl (fun c25 => ?_) (fun c25 => ?_)
 ·
  refine W.sr<|zh X X<|zq X X<|zq X X<|Y<|zw<|zd<|zbb Tryz.results24 ?_
  refine ⟨h20, _, rfl, st24.done, ?_⟩
  refine tup2 (zah ?_) (zah ?_)
  all_goals (simp_all [nextR, nextE])
 refine zy<|O<|zj<|zj ?_
 have hz0 : allE p true = 0 := by simpa using c25
 obtain ⟨hk1, hk2, hk3, hk4⟩ := zgQ hz0
 have hk5 := List.length_pos_iff.2 hk3
 have hk6 : (allL p true).length = (zM p).length := by rw [hk4]
 have hk7 := zep (zcb hk1).2
 have hk8 := zcO (zcb hk1).2
 have hpb := (zcb hk1).2
 have hal : ∀ t ∈ allL p true, t ∈ zM p := by rw [hk4]; exact fun _ q_ => q_
 refine zn<|U (j := 0) st24.sub hc23 X X X zeO X<|zaH (f14.up le21) X zbw X<|zdd X X X<|Y ?_
 refine zC rfl (fun c26 => ?_) (fun c26 => ?_)
 ·
  refine W.sr<|zq X X<|zq X X<|Y<|zw<|zd<|zbb Tryz.results24 ?_
  have q_ : (zM p).length = 1 := by have q2_ := c26; rw [hk4] at q2_; omega
  refine ⟨h20, _, rfl, st24.done, ?_⟩
  refine tup2 (zah ?_) (zah ?_)
  all_goals simp [nextR, nextE, hz0, q_]
 refine zy<|O<|zj ?_
 have hl1 : 1 < (zM p).length := by have q_ := c26; omega
 have hne : nextE p = 0 := by rw [nextE, if_neg (by simp [hz0]), if_neg (by omega)]
 refine zn<|zcL X X X<|zi X X (r_asF X)<|Y<|W.sr<|zgY X X<|zcL X X X ?_
 refine ze st24 rfl rfl rfl Tryz.call71 rfl (c_vote_first_int st24.sub (lt := worseB (allL p true)) (B := fun x => 0 ≤ x ∧ x < (p.questions.length : Int)) (caps2 := [.pointer (some ⟨b15, 0, none⟩)]) Tryz.call69 (gives_next (p := p) (p_f0.up ((le4.trans le10).trans le21)) (p_f1.up ((le4.trans le10).trans le21)) (p_f2.up ((le4.trans le10).trans le21)) (p_f3.up ((le4.trans le10).trans le21)) (p_f4.up ((le4.trans le10).trans le21)) (hc5.up (le10.trans le21)) (f14.up le21) hc23 hpb hal (by omega)) Tryz.call72 (fun _ _ _ _ q_ => q_) (fun h_ w_ x_ y_ l_ s_ bx_ by_ => c_vote_Next_2 s_ x_ y_ ((f14.up le21).up l_) (hc23.up l_) bx_.1 by_.1 (zgo hpb hal bx_.1 bx_.2) (zgo hpb hal by_.1 by_.2) (by omega))) ?_
 intro r27 w28 h29 le30 st31 q32
 obtain rfl := q32
 refine zq X X<|zq X X<|Y<|zw<|zbb Tryz.results24 ?_
 refine ⟨h29, _, rfl, st31.done, ?_⟩
 refine tup2 (zah ?_) (zah ?_)
 all_goals first | exact hne.symm | (rw [nextR, if_pos hne, hk4]; exact next_ok hl1 (next_pos hl1))
end Go.Pk

namespace Go.Pk
open Go Go.RowKit Go.Proofs
end Go.Pk

namespace Go.Pk
open Go Go.RowKit Go.Proofs
set_option maxHeartbeats 4000000 in
theorem ziy {h : Heap} {w : World} (hs : Sub h w) {p : Poll} {p_v0 : Value} (p_f0 : Sl LChapter h p_v0 p.text.chapters) {p_v1 : Value} (p_f1 : Sl LRule h p_v1 p.lexicon.rules) {p_v2 : Value} (p_f2 : Sl LDecision h p_v2 p.lexicon.decisions) {p_v3 : Value} (p_f3 : Sl LQuestion h p_v3 p.questions) {p_v4 : Value} (p_f4 : Sl LVoter h p_v4 p.voters) (K1 : Cells h 1 0 Tryz.glob1) (K0 : Cells h 0 0 Tryz.glob0) : Calls Tryz.prog 27 #[.agg #[p_v0, p_v1, p_v2, p_v3, p_v4]] w (fun e_ w' => ∃ h' v0_ v1_ o0_ o1_, e_ = .returned (.tuple #[.agg #[v0_, v1_], .int .i64 (zeo p)]) ∧ Le h h' ∧ St h w h' w' [o0_, o1_] ∧ OSl LRule 68 h' v0_ (((zcI p)).rules) o0_ ∧ OSl LDecision 74 h' v1_ (((zcI p)).decisions) o1_) := by
 refine zP (n := 101) Tryz.func27 X X X<|have st0:=t_s0 hs;have p_f0_b:=p_f0.le;have p_f1_b:=p_f1.le;have p_f2_b:=p_f2.le;have p_f3_b:=p_f3.le;have p_f4_b:=p_f4.le;W.sr<|zJ st0 (cs := [p_v0, p_v1, p_v2, p_v3, p_v4]) X X X<|fun b1 w2 h3 le4 hc5 st6=>zQ st6 zdP X X<|fun b7 w8 st9=>zq X X<|Y<|W.sr<|zr st9.sub hc5 X zaE zad X X<|ze st9 X X X zhj X (zfi st9.sub (p := p) (p_f0.up le4) (p_f1.up le4) (p_f2.up le4) (p_f3.up le4) (p_f4.up le4) _ (K1.up le4) (K0.up le4))<|fun r10 w11 h12 le13 st14 q15=> ?_
 obtain ⟨v16, rfl, f17⟩ := q15
 have f17_b := f17.le
 refine zbY X X<|zA (v := v16) X X X<|zA (v := (.int _ _)) X X X<|zaf (v := v16) X X<|zq X X<|Y<|zj<|W.sr<|zh X X<|zcf X X X<|Y ?_
 refine zC rfl (fun c18 => ?_) (fun c18 => ?_)
 ·
  refine W.sr<|zi X X (zbq (cs := [(.slice none 0 0), (.slice none 0 0)]) t_kr)<|zh X X<|zI st14 (k := 0) X X X (za X (za X zan)) zaC X X X<|fun w19 st20=>zq X X<|Y<|zw<|zd<|zcE Tryz.results27 X zbL zaC X (st20.get (k := 0) X) ?_
  have st21 := st20.snoc
  have f22 := OSl.nil LRule 68 h12
  have st23 := st21.snoc
  have f24 := OSl.nil LDecision 74 h12
  have e1 : zcI p = zfa := by rw [zcI, if_neg (by simpa using c18)]
  have e2 : zeo p = allE p true := by rw [zeo, if_neg (by simpa using c18)]
  refine ⟨h12, (.slice none 0 0), (.slice none 0 0), _, _, congrArg Ending.returned (tup2 rfl (zah ?_)), (le4.trans le13), st23.sublist (own' := [[], []]) (.cons _ (.cons_cons _ (.cons_cons _ (.slnil)))), OSl.to f22 ?_, OSl.to f24 ?_⟩
  all_goals first | rfl | exact e2.symm | (rw [e1]; done) | (rw [e1]; rfl) | (rw [e1]; assumption)
 refine zy<|O<|zj ?_
 have hz0 : allE p true = 0 := by simpa using c18
 obtain ⟨hk1, hk2, hk3, hk4⟩ := zgQ hz0
 have hk5 := List.length_pos_iff.2 hk3
 have hk6 : (allL p true).length = (zM p).length := by rw [hk4]
 have hk7 := zep (zcb hk1).2
 have hk8 := zcO (zcb hk1).2
 have hlx := smallX_len (small_of (zcb hk1).1)
 refine zbg (er := ([], [], [], [9], 3)) (dsts := [24, 25, 26, 27, 28, 29, 30, 31, 32, 6]) st14 Tryz.mixed<|zc 0 [] X t_kr t_kr X X (fun hD wD τD hL hS hO  => (zB X zt X zaC X))<|zc 1 [0] X t_kr t_kr X X (fun hD wD τD hL hS hO _ _ => (zB X zag X zcq X))<|zc 2 [0] X t_kr t_kr X X (fun hD wD τD hL hS hO _ _ => (zf (j := 1) (hL.sub hS) (hc5.up le13) X X X zcZ))<|zbO<|zc 4 [] X t_kr t_kr X X (fun hD wD τD hL hS hO  => (zB X zt X zaC X))<|zc 5 [0] X t_kr t_kr X X (fun hD wD τD hL hS hO _ _ => (zB X zag X zbN X))<|zc 6 [0] X t_kr t_kr X X (fun hD wD τD hL hS hO _ _ => (zf (j := 2) (hL.sub hS) (hc5.up le13) X X X zcr))<|zbO<|zbO<|ziB zdP X<|zbO<|zbP X X X X X X ⟨t_kr, X, t_kr, X, t_kr, X, X, t_kr, (zbp X (zbp X (zbp X (zbp X zcu))))⟩<|fun hE26 w27 _ ls32 hl31 le28 st29 _ _=> ?_
 obtain ⟨oL30, rfl⟩ := zhW hl31
 have l33 := (le4.trans le13).trans le28
 refine zay rfl rfl (zaV rfl Tryz.call76 rfl) ((zeb st29.sub (p_f1.up l33) (by omega)).mono ?_)
 rintro _ w35 ⟨h36, v34, o39, rfl, le37, s41, f40⟩
 refine ⟨_, rfl, ?_⟩
 have st38 := st29.call s41
 refine zp ⟨_, rfl, _, [[(b7, .cells (List.toArray [(.slice none 0 0), (.slice none 0 0)]) 28)]], [o39], le37, st38, ?_⟩
 intro hE43 w44 _ ls49 hl48 le45 st46 _ _
 obtain ⟨oL47, rfl⟩ := zhW hl48
 have l50 := (l33.trans le37).trans le45
 refine zay rfl rfl (zaV rfl Tryz.call77 rfl) ((zcC st46.sub (p_f2.up l50) (by omega)).mono ?_)
 rintro _ w52 ⟨h53, v51, o56, rfl, le54, s58, f57⟩
 refine ⟨_, rfl, ?_⟩
 have st55 := st46.call s58
 refine zp ⟨_, rfl, _, [[(b7, .cells (List.toArray [(.slice none 0 0), (.slice none 0 0)]) 28)]], [o39, o56], le54, st55, ?_⟩
 intro hE60 w61 _ ls66 hl65 le62 st63 
 obtain ⟨oL64, rfl⟩ := zhW hl65
 refine zi rfl rfl (zbq (cs := [v34, v51]) (by obtain ⟨_, _, rfl⟩ := OSl.form f40; obtain ⟨_, _, rfl⟩ := OSl.form f57; kernel_rfl)) ?_
 refine zp ⟨_, rfl, _, [[(b7, .cells (List.toArray [(.slice none 0 0), (.slice none 0 0)]) 28)]], [o39, o56], Le.refl _, st63, ?_⟩
 intro b68
 intro hE69 w70 _ le71 st72 _ _ _ _ _ _ _ _ _ _ _ _
 refine zI st72 (k := 1) X X X (za f40.one (za f57.one zan)) zaC X X X<|fun w73 st74=> ?_
 refine zp ⟨undef, rfl, _, _, Le.refl _, st74, ?_⟩
 intro hE75 w76 _ le77 st78 _ _ _ _ _ _ _ _ _ _ _ _
 refine AllDeps.fin X<|O<|zj<|W.sr<|zR (v := v16) X X ?_
 have l80 := (((((le28.trans le37).trans le45).trans le54).trans le62).trans le71).trans le77
 refine ze st78 rfl rfl rfl Tryz.call78 rfl (zhY st78.sub (f17.up l80) (by omega) (by intro t_ ht_; rw [hk4] at ht_; exact zdB ht_) (by omega)) ?_
 intro r81 w82 h83 le84 st85 q86
 obtain ⟨v87, e89, f88⟩ := q86
 rw [← e89] at f88
 have f88_b := f88.le
 have f90 := Sl.to f88 (show _ = (zcU (zM p)) from by rw [hk4])
 have f90_b := f90.le
 refine zaH f90 X zg X<|zh X X<|Y<|zG ?_
 have l94 := ((((le45.trans le54).trans le62).trans le71).trans le77).trans le84
 have l95 := ((le62.trans le71).trans le77).trans le84
 refine zax ([3, 5] ++ t_rg 7 6 ++ [14] ++ t_rg 36 64) (G := Nat × Lexicon × Value × Value × List (Nat × Obj) × List (Nat × Obj) × Heap) (fun ⟨k, x, v_c1_0, v_c1_1, o_c1_0, o_c1_1, h91⟩ => [(36, .int .i64 (k : Int))]) (fun ⟨k, x, v_c1_0, v_c1_1, o_c1_0, o_c1_1, h91⟩ w' => Le h83 h91 ∧ St h w h91 w' [[(b7, .cells (List.toArray [(.slice none 0 0), (.slice none 0 0)]) 28)], [(b68, .cells (List.toArray [v_c1_0, v_c1_1]) 28)], o_c1_0, o_c1_1] ∧ (OSl LRule 68 h91 v_c1_0 (x.rules) o_c1_0) ∧ (OSl LDecision 74 h91 v_c1_1 (x.decisions) o_c1_1) ∧ (k ≤ (zcU (zM p)).length) ∧ (decK p (zcU (zM p)) k = (x, 0))) (fun ⟨k, x, v_c1_0, v_c1_1, o_c1_0, o_c1_1, h91⟩ => (zcU (zM p)).length - k) ⟨0, p.lexicon, v34, v51, o39, o56, h83⟩ ⟨rfl, trivial⟩ ⟨Le.refl _, st85, (OSl.to (f40.up l94) (by rfl)), (OSl.to (f57.up l95) (by rfl)), zaW, (by rfl)⟩ ?_
 rintro ⟨k, x, v_c1_0, v_c1_1, o_c1_0, o_c1_1, h91⟩ _ w96 ⟨le92, st93, hO_c1_0, hO_c1_1, hk, hdk⟩
 refine W.sr<|zaX X X X<|Y<|zj ?_
 refine zC rfl (fun c97 => ?_) (fun c97 => ?_)
 ·
  refine zy<|O<|zj<|zG<|W.sr<|zh X X ?_
  obtain ⟨ch, hch⟩ : ∃ y_, ((zcU (zM p)))[k]? = some y_ := t_ge (by omega)
  obtain ⟨b98, o99, _, he101, hc100, hr_ch⟩ := Sl.elem (f90.up le92) hch
  obtain rfl := hr_ch
  refine zU he101 X X (hk := X) (hu := zg) (hz := zl) X<|U (j := 0) st93.sub hc100 X X X zz X<|zq X X<|zq X X<|Y<|zj ?_
  have hk9 : k < p.questions.length := by have q_ := set_len7 hk3; omega
  have hx0 := dec_ok (zcb hk1).1 hdk
  have hxd := zhV hx0
  have hxr := lexicon_12 hx0
  refine zn<|E X zt X zbe X X<|have l102:=((((((((le13.trans le28).trans le37).trans le45).trans le54).trans le62).trans le71).trans le77).trans le84).trans le92;U (j := 3) st93.sub (hc5.up l102) X X X zby X<|zh X X ?_
  obtain ⟨q, hq⟩ : ∃ y_, (p.questions)[k]? = some y_ := t_ge (by omega)
  have l107 := (((((l50.trans le54).trans le62).trans le71).trans le77).trans le84).trans le92
  obtain ⟨b103, o104, _, he106, hc105, hr_q⟩ := Sl.elem (p_f3.up l107) hq
  obtain ⟨v108, rfl, f109⟩ := hr_q
  have f109_b := f109.le
  refine zU he106 X X (hk := X) (hu := zaq) (hz := zbR) X<|zr st93.sub hc105 X Tryz.isAgg84 zbR X X<|zQ st93 Tryz.zeroValue84 X X<|fun b110 w111 st112=>zI st112 (k := 4) X X X (za X (za X (za X (za f109.one zan)))) zbR X X X<|fun w113 st114=> ?_
  obtain ⟨h115, le116, hb117, st119⟩ := st114.freeze (k := 4) rfl
  have hc118 := Cells.of hb117
  refine Y<|zj<|W.sr<|zh X X<|zaX X X X<|Y ?_
  refine zC rfl (fun c120 => ?_) (fun c120 => ?_)
  ·
   refine zaI<|zm<|zam<|O<|zn<|zaM X X t_om X<|zh X X<|Y ?_
   refine ⟨⟨k + 1, x, v_c1_0, v_c1_1, o_c1_0, o_c1_1, h115⟩, ⟨rfl, trivial⟩, ?_, ⟨(le92.trans le116), st119.take 4, ?_, ?_, ?_, ?_⟩, ?_⟩
   ·exact zau
   ·refine OSl.to (hO_c1_0.up le116) ?_
    rfl
   ·refine OSl.to (hO_c1_1.up le116) ?_
    rfl
   ·first | omega | (simp; omega)
   ·exact dec_skip hdk hq hch c120
   show (zcU (zM p)).length - ((k + 1)) < (zcU (zM p)).length - k
   omega
  refine zy<|O<|zj<|W.sr<|E X zt X zaA X X<|zal (j := 0) st119.sub (hc5.up (l102.trans le116)) (us := [p_v0]) X X zbk zaA X X X<|zbc (st119.get (k := 1) X) X zbL zaC X X<|E X zaF X zW X X<|zal (j := 0) st119.sub hc118 (us := [.int .i64 (q.at_.chapter), .int .i64 (q.at_.line), .int .i64 (q.at_.word)]) X X zaQ zW X X X ?_
  have ha121 := heapOf_le st119.sub
  have f122 := (OSl.whole (k := 2) st119 (hO_c1_0.up le116) rfl t_om).2
  have f123 := (OSl.whole (k := 3) st119 (hO_c1_1.up le116) rfl t_om).2
  have l124 := (l107.trans le116).trans ha121
  refine ze st119 X X X Tryz.call79 X (Rets.thaw st119.sub (c_stem_HeadOf (zfX _) (t := p.text) (p_f0.up l124) (x := x) f122 f123 (p := q.at_) (K1.up l124)))<|fun r125 w126 h127 le128 st129 q130=> ?_
  obtain rfl := q130
  refine zbY X X<|zA (v := (.agg (List.toArray _))) X X X<|zA (v := (.int _ _)) X X X<|zQ st129 zeN X X<|fun b131 w132 st133=>zI st133 (k := 5) X X X (za X (za X zan)) zai X X X<|fun w134 st135=> ?_
  obtain ⟨h136, le137, hb138, st140⟩ := st135.freeze (k := 5) rfl
  have hc139 := Cells.of hb138
  refine zq X X<|Y<|zj ?_
  have hin := set_in hk3 hq hch (by have q_ := c120; omega)
  refine zbX Tryz.mixed t_kr (Cls h136 _) (Cls.drew st140)<|zH X X (fun _ hC => (zat hC.sub hc139 X zbQ zai X))<|zZ X zaF X zch X X<|zH X X (fun _ hC => (zf (j := 3) hC.sub (hc118.up (le128.trans le137)) X X X zcy))<|zde X X ?_
  obtain ⟨hd, hhd⟩ : ∃ y_, (q.heads)[ch.toNat]? = some y_ := t_ge (by omega)
  obtain ⟨b141, o142, _, he144, hc143, hr_hd⟩ := Sl.elem (f109.up ((le116.trans le128).trans le137)) hhd
  obtain ⟨rfl, ls145, lu146⟩ := hr_hd
  simp only [big] at ls145
  refine zH rfl rfl (fun _ _ => (zav he144 rfl rfl (hk := (show _ = ((ch.toNat : Nat) : Int) by omega)) (hu := zaZ) (hz := zai))) ?_
  refine zH X X (fun _ hC => (zat hC.sub hc143 X zbQ zai X))<|zH X X (fun _ _ => (zgU X X Tryz.eqGuardType72 (Tryz.eq_Head (askR (p.text) (x) (q.at_)).to hd)))<|zbC ?_
  rintro w147 ⟨h148, s149⟩
  have st150 := st140.call0 s149
  refine O ?_
  refine zC rfl (fun c151 => ?_) (fun c151 => ?_)
  ·
   refine zaI<|zm<|zam<|O<|zn<|zaM X X t_om X<|zh X X<|Y ?_
   have l152 := (((le92.trans le116).trans le128).trans le137).trans s149.le
   refine ⟨⟨k + 1, x, v_c1_0, v_c1_1, o_c1_0, o_c1_1, h148⟩, ⟨rfl, trivial⟩, ?_, ⟨l152, st150.take 4, ?_, ?_, ?_, ?_⟩, ?_⟩
   ·exact zau
   ·refine OSl.to (hO_c1_0.up (((le116.trans le128).trans le137).trans s149.le)) ?_
    rfl
   ·refine OSl.to (hO_c1_1.up (((le116.trans le128).trans le137).trans s149.le)) ?_
    rfl
   ·first | omega | (simp; omega)
   ·exact dec_same hdk hq hch (by omega) hhd c151
   show (zcU (zM p)).length - ((k + 1)) < (zcU (zM p)).length - k
   omega
  refine zy<|O<|zj<|zbg (er := ([], [], [], [], 0)) (dsts := [64, 65, 66, 67, 68, 69, 70, 71, 12]) st150 Tryz.mixed<|zc 0 [] X t_kr t_kr X X (fun hD wD τD hL hS hO  => (zB X zaF X zW X))<|zc 1 [0] X t_kr t_kr X X (fun hD wD τD hL hS hO _ _ => (zcD (j := 0) (hL.sub hS) (hc118.up ((le128.trans le137).trans s149.le)) (us := [.int .i64 (q.at_.chapter), .int .i64 (q.at_.line), .int .i64 (q.at_.word)]) X X zaQ zW X X))<|zc 2 [] X t_kr t_kr X X (fun hD wD τD hL hS hO  => (zB X zaF X zch X))<|zc 3 [0] X t_kr t_kr X X (fun hD wD τD hL hS hO _ _ => (zf (j := 3) (hL.sub hS) (hc118.up ((le128.trans le137).trans s149.le)) X X X zcy))<|zc 4 [] X t_kr t_kr X X (fun hD wD τD hL hS hO  => (zel X)) ?_
  refine zc 5 [1, 0] rfl t_kr t_kr rfl rfl (fun hD wD τD hL hS hO _ _ _ _ => (zav he144 rfl rfl (hk := (show _ = ((ch.toNat : Nat) : Int) by omega)) (hu := zaZ) (hz := zai))) ?_
  refine zc 6 [0] X t_kr t_kr X X (fun hD wD τD hL hS hO _ _ => (zat (hL.sub hS) (hc143.up s149.le) X zbQ zai X))<|zc 7 [5, 0] X t_kr t_kr X X (fun hD wD τD hL hS hO _ _ _ _ => (zbq (cs := [.int .i64 1, .int .u8 3, strV [], .int .i64 (q.at_.chapter), .int .i64 (q.at_.line), .int .i64 (q.at_.word), strV (hd.stem), .int .u8 (hd.mark), .int .i64 0]) t_kr))<|ziB zbT X<|zbO<|zbP X X X X X X ⟨t_kr, X, t_kr, X, t_kr, X, X, t_kr, (zbp X zcu)⟩<|fun b153=>fun hE155 w156 _ le157 st158 _ _ _ _ _ _ _ _ _ _ _ _ _ _ _ _=>zI st158 (k := 6) X X X (za X (za X (za X (za X (za X (za X (za X (za X (za X zan))))))))) zX X X X<|fun w159 st160=> ?_
  refine zp ⟨undef, rfl, _, _, Le.refl _, st160, ?_⟩
  intro hE161 w162 _ le163 st164 _ _ _ _ _ _ _ _ _ _ _ _ _ _ _ _
  refine AllDeps.fin X<|O<|zj<|W.sr<|E X zag X zbN X X<|zbi (st164.get (k := 1) X) X X zcr X<|have l166:=((((le116.trans le128).trans le137).trans s149.le).trans le157).trans le163;zfq (hO_c1_1.up l166) X zaG X<|zh X X<|Y<|zG ?_
  refine zax ([14] ++ t_rg 75 12) (G := Nat × Int × Heap) (fun ⟨j, n, h167⟩ => [(75, .int .i64 (j : Int))]) (fun ⟨j, n, h167⟩ w' => Le hE161 h167 ∧ St h w h167 w' [[(b7, .cells (List.toArray [(.slice none 0 0), (.slice none 0 0)]) 28)], [(b68, .cells (List.toArray [v_c1_0, v_c1_1]) 28)], o_c1_0, o_c1_1, [], [], [(b153, .cells (List.toArray [.int .i64 n, .int .u8 3, strV [], .int .i64 (q.at_.chapter), .int .i64 (q.at_.line), .int .i64 (q.at_.word), strV (hd.stem), .int .u8 (hd.mark), .int .i64 0]) 74)]] ∧ (j ≤ x.decisions.length) ∧ (n = nextN (x.decisions.take j))) (fun ⟨j, n, h167⟩ => x.decisions.length - j) ⟨0, 1, hE161⟩ ⟨rfl, trivial⟩ ⟨Le.refl _, st164, zaW, (by rfl)⟩ ?_
  rintro ⟨j, n, h167⟩ _ w170 ⟨le168, st169, hj, hn⟩
  have hnn := nextN_le (zhT hx0) j
  rw [← hn] at hnn
  refine W.sr<|zaX X X X<|Y<|zj ?_
  refine zC rfl (fun c171 => ?_) (fun c171 => ?_)
  ·
   refine zy<|O<|zj<|zG<|W.sr ?_
   obtain ⟨d, hd⟩ : ∃ y_, (x.decisions)[j]? = some y_ := t_ge (by omega)
   obtain ⟨b172, o173, cur174, _, e177, he175, hr_d, hc176⟩ := OSl.elem (hO_c1_1.up (l166.trans le168)) hd
   subst e177
   obtain ⟨rfl, lu178, ls179, ls180, lu181⟩ := hr_d
   simp only [big] at ls179
   simp only [big] at ls180
   refine zU he175 X X (hk := X) (hu := zaG) (hz := zX) X<|zi X X (r_load_curN (st169.get (k := 3) X) hc176 X zaY zX X)<|zQ st169 zbT X X<|fun b182 w183 st184=>zI st184 (k := 7) X X X (za X (za X (za X (za X (za X (za X (za X (za X (za X zan))))))))) zX X X X<|fun w185 st186=> ?_
   obtain ⟨h187, le188, hb189, st191⟩ := st186.freeze (k := 7) rfl
   have hc190 := Cells.of hb189
   refine Y<|zn<|E X zo X zl X X<|zbi (st191.get (k := 6) X) X X zz X<|E X zo X zl X X<|U (j := 0) st191.sub hc190 X X X zz X ?_
   refine zi rfl rfl (zhs rfl rfl (by have q_ := (zhT hx0).2 d (List.mem_of_getElem? hd); omega)) ?_
   refine zi X X (r_max X X)<|E X zo X zl X X<|zar st191 (k := 6) X X X X zl X X X<|fun w192 st193=>zp<|zO<|O<|zn<|zaM X X t_om X<|zh X X<|Y ?_
   refine ⟨⟨j + 1, (maxI n ((d.number) + 1)), h187⟩, ⟨rfl, trivial⟩, ?_, ⟨(le168.trans le188), st193.take 7, ?_, ?_⟩, ?_⟩
   ·exact zau
   ·first | omega | (simp; omega)
   ·rw [hn, nextN_snoc hd]
   show x.decisions.length - ((j + 1)) < x.decisions.length - j
   omega
  refine zaI<|zm<|zm<|zam<|O<|zj ?_
  have e9 : n = mostN x.decisions + 1 := hn.trans (nextN_eq (by omega))
  have e8 : decN n q hd = decD x q hd := by rw [e9]; rfl
  refine zn<|E X zt X zaA X X<|have l194:=((((((l102.trans le116).trans le128).trans le137).trans s149.le).trans le157).trans le163).trans le168;zal (j := 0) st169.sub (hc5.up l194) (us := [p_v0]) X X zbk zaA X X X<|zbc (st169.get (k := 1) X) X zbL zaC X X<|zbc (st169.get (k := 6) X) X zaY zX X X ?_
  have ha195 := heapOf_le st169.sub
  have f196 := (OSl.whole (k := 2) st169 (hO_c1_0.up (l166.trans le168)) rfl t_om).2
  have f197 := (OSl.whole (k := 3) st169 (hO_c1_1.up (l166.trans le168)) rfl t_om).2
  have l198 := (((((((l107.trans le116).trans le128).trans le137).trans s149.le).trans le157).trans le163).trans le168).trans ha195
  refine zay rfl rfl (zaV rfl Tryz.call80 rfl) ((c_stem_Add (zfX _) (t := p.text) (p_f0.up l198) (x := x) f196 f197 (d := (decN n q hd)) (by first | assumption | decide | omega | (simp [decN, zcw, zdq]; done) | (simp [decN]; omega) | (dsimp only; omega) | (simp; omega)) (by first | assumption | (simp [decN, zcw, zdq, big]; done) | (simp [decN, zcw, zdq, big]; omega) | omega) (by first | assumption | (simp [decN, zcw, zdq, big]; done) | (simp [decN, zcw, zdq, big]; omega) | omega) (by first | assumption | decide | omega | (simp [decN, zcw, zdq]; done) | (simp [decN]; omega) | (dsimp only; omega) | (simp; omega)) (K1.up l198)).mono ?_)
  rintro _ w199 ⟨h200, v204, v207, o205, o208, rfl, le201, s203, f206, f209⟩
  refine ⟨_, rfl, ?_⟩
  have s210 := St.thawO s203 st169.sub
  replace f206 := OSl.heap (fun _ _ _ _ q_ => q_) f206 h167
  replace f209 := OSl.heap (fun _ _ _ _ q_ => q_) f209 h167
  have st202 := st169.call s210
  refine zbY X X<|zA (v := (.agg (List.toArray _))) X X X<|zA (v := (.int _ _)) X X X<|zI st202 (k := 1) X X X (za f206.one (za f209.one zan)) zaC X X X<|fun w211 st212=>zq X X<|Y<|W.sr<|zh X X<|zcf X X X<|Y ?_
  refine zC rfl (fun c213 => ?_) (fun c213 => ?_)
  ·
   refine W.sr<|zi X X (zbq (cs := [(.slice none 0 0), (.slice none 0 0)]) t_kr)<|zh X X<|zI st212 (k := 0) X X X (za X (za X zan)) zaC X X X<|fun w214 st215=>zq X X<|Y<|zw<|zK<|zd<|zd<|zK<|zd<|zcE Tryz.results27 X zbL zaC X (st215.get (k := 0) X) ?_
   have st216 := st215.snoc
   have f217 := OSl.nil LRule 68 h167
   have st218 := st216.snoc
   have f219 := OSl.nil LDecision 74 h167
   have ea : ¬ addE p.text x (decD x q hd) = 0 := by have q_ := c213; rw [e8] at q_; exact q_
   have ef := dec_err hdk hq hch (by omega) hhd (by assumption) ea
   have e1 : zcI p = zfa := by rw [zcI, if_pos hz0, ef]
   have e2 : zeo p = addE p.text x (decD x q hd) := by rw [zeo, if_pos hz0, ef]
   rw [← e8] at e2
   refine ⟨h167, (.slice none 0 0), (.slice none 0 0), _, _, congrArg Ending.returned (tup2 rfl (zah ?_)), (((((((l107.trans le116).trans le128).trans le137).trans s149.le).trans le157).trans le163).trans le168), st218.sublist (own' := [[], []]) (.cons _ (.cons _ (.cons _ (.cons _ (.cons _ (.cons _ (.cons _ (.cons _ (.cons _ (.cons_cons _ (.cons_cons _ (.slnil)))))))))))), OSl.to f217 ?_, OSl.to f219 ?_⟩
   all_goals first | rfl | exact e2.symm | (rw [e1]; done) | (rw [e1]; rfl) | (rw [e1]; assumption)
  refine zy<|zO<|O<|zn<|zaM X X t_om X<|zh X X<|Y ?_
  have st220 : St h w h167 _ [[(b7, .cells (List.toArray [(.slice none 0 0), (.slice none 0 0)]) 28)], [(b68, .cells (List.toArray [v204, v207]) 28)], o205, o_c1_1, [], [], [(b153, .cells (List.toArray [.int .i64 n, .int .u8 3, strV [], .int .i64 (q.at_.chapter), .int .i64 (q.at_.line), .int .i64 (q.at_.word), strV (hd.stem), .int .u8 (hd.mark), .int .i64 0]) 74)], [], o208] := St.move (k := 2) (j := 7) st212 rfl rfl (by omega)
  have st221 : St h w h167 _ [[(b7, .cells (List.toArray [(.slice none 0 0), (.slice none 0 0)]) 28)], [(b68, .cells (List.toArray [v204, v207]) 28)], o205, o208, [], [], [(b153, .cells (List.toArray [.int .i64 n, .int .u8 3, strV [], .int .i64 (q.at_.chapter), .int .i64 (q.at_.line), .int .i64 (q.at_.word), strV (hd.stem), .int .u8 (hd.mark), .int .i64 0]) 74)], [], []] := St.move (k := 3) (j := 8) st220 rfl rfl (by omega)
  have l222 := ((((((le92.trans le116).trans le128).trans le137).trans s149.le).trans le157).trans le163).trans le168
  refine ⟨⟨k + 1, ((addN (p.text) (x) ((decN n q hd)))), v204, v207, o205, o208, h167⟩, ⟨rfl, trivial⟩, ?_, ⟨l222, st221.take 4, ?_, ?_, ?_, ?_⟩, ?_⟩
  ·exact zau
  ·refine OSl.to f206 ?_
   rfl
  ·refine OSl.to f209 ?_
   rfl
  ·first | omega | (simp; omega)
  ·have ea : addE p.text x (decD x q hd) = 0 := by have q_ := c213; rw [e8] at q_; exact Classical.not_not.1 q_
   rw [e8]
   exact (dec_add hdk hq hch (by omega) hhd (by assumption)).trans (Prod.ext rfl ea)
  show (zcU (zM p)).length - ((k + 1)) < (zcU (zM p)).length - k
  omega
 refine zaI<|zm<|zm<|zam<|O<|W.sr<|zbc (st93.get (k := 1) X) X zbL zaC X X<|zI st93 (k := 0) X X X (za hO_c1_0.one (za hO_c1_1.one zan)) zaC X X X<|fun w223 st224=>zq X X<|Y<|zw<|zcE Tryz.results27 X zbL zaC X (st224.get (k := 0) X) ?_
 have ek : k = (zcU (zM p)).length := by omega
 have e1 : zcI p = x := by rw [zcI, if_pos hz0, ← ek, hdk]
 have e2 : zeo p = 0 := by rw [zeo, if_pos hz0, ← ek, hdk]
 refine ⟨h91, v_c1_0, v_c1_1, _, _, congrArg Ending.returned (tup2 rfl (zah ?_)), ((((((l50.trans le54).trans le62).trans le71).trans le77).trans le84).trans le92), st224.sublist (own' := [o_c1_0, o_c1_1]) (.cons _ (.cons _ (.cons_cons _ (.cons_cons _ (.slnil))))), OSl.to hO_c1_0 ?_, OSl.to hO_c1_1 ?_⟩
 all_goals first | rfl | exact e2.symm | (rw [e1]; done) | (rw [e1]; rfl) | (rw [e1]; assumption)
end Go.Pk
