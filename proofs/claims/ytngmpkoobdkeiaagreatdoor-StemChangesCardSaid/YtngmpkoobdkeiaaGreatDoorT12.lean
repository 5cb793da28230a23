/- A PART OF THE PROOF: contracts of functions, each walked once (much of it printed by a program of the author's own). -/
import Derived.Test.YtngmpkoobdkeiaaGreatDoorT10
import Derived.Test.YtngmpkoobdkeiaaGreatDoorT8
import Derived.Test.YtngmpkoobdkeiaaGreatDoorT7
import Derived.Test.YtngmpkoobdkeiaaGreatDoorT3
import Derived.Test.YtngmpkoobdkeiaaGreatDoorT11
namespace Go.Pk
open Go Go.RowKit Go.Proofs
set_option maxRecDepth 4000 in
theorem c_postilref04_Without {h : Heap} {w : World} (hs : Sub h w) {x : Lexicon} {x_v0 : Value} (x_f0 : Sl LRule h x_v0 x.rules) {x_v1 : Value} (x_f1 : Sl LDecision h x_v1 x.decisions) (n : Int) (hl : x.decisions.length ≤ 25) : Calls Tryz.prog 67 #[.agg #[x_v0, x_v1], .int .i64 n] w (Rets h w (fun h' _ res_ => ∃ u0 u1, res_ = .agg #[u0, u1] ∧ Sl LRule h' u0 ((lessX x n)).rules ∧ Sl LDecision h' u1 ((lessX x n)).decisions)) := by
 refine zM (n := 33) (args := [.agg #[x_v0, x_v1], .int .i64 n]) Tryz.func67 X X X ?_
 have st0 : St h w h w [] := St.start hs
 have x_f0_b := x_f0.le
 have x_f1_b := x_f1.le
 refine zd<|O<|OpsL.boxO st0 (cs := [x_v0, x_v1]) X X X ?_
 intro b1 w2 st3
 refine zO st3 Tryz.zeroValue28 X X ?_
 intro b4 w5 st6
 refine U<|M<|zd<|O<|Y X X (r_asL X)<|U<|M<|zd<|zd<|O<|Y X X (zx X)<|U<|M<|zF ?_
 have st10 := st6.snoc
 have f11 := OSl.nil LDecision 56 h
 refine zX [5, 6, 7, 8, 9, 10, 11, 12, 13, 14, 15, 16, 17, 18, 19, 20, 21, 22, 23, 24, 25, 26, 27, 28, 29] (G := Nat × Value × List (Nat × Obj) × Heap) (fun ⟨i, v_5, o_5, h7⟩ => [(5, v_5), (6, .int .i64 (i : Int))]) (fun ⟨i, v_5, o_5, h7⟩ w' => Le h h7 ∧ St h w h7 w' [[(b1, .cells (List.toArray [x_v0, x_v1]) 28)], [(b4, .cells (List.toArray [(.slice none 0 0), (.slice none 0 0)]) 28)], o_5] ∧ (OSl LDecision 56 h7 v_5 ((x.decisions.take i).filter fun d => decide (d.number ≠ n)) o_5) ∧ (i ≤ x.decisions.length)) (fun ⟨i, v_5, o_5, h7⟩ => x.decisions.length - i) ⟨0, (.slice none 0 0), [], h⟩ ⟨rfl, rfl, trivial⟩ ⟨Le.refl _, st10, (OSl.to f11 (by rfl)), zak⟩ ?_
 rintro ⟨i, v_5, o_5, h7⟩ _ w12 ⟨le8, st9, hO_5, hi⟩
 refine zd<|zd<|O<|Y X X (zo X)<|Y X X (zc X Tryz.underlying28 X Tryz.sizeOf26 X)<|Y X X (zaq (st9.get (k := 0) X) X X Tryz.isAgg26)<|Y X X (zag (x_f1.up le8) X Tryz.underlying26)<|Y X X (zal X X)<|U<|M ?_
 refine zt rfl (fun c13 => ?_) (fun c13 => ?_)
 ·
  replace c13 := of_decide_eq_true c13
  refine zz<|M<|zd<|zF<|zd<|O<|Y X X (zc X Tryz.underlying28 X Tryz.sizeOf26 X)<|Y X X (zaq (st9.get (k := 0) X) X X Tryz.isAgg26)<|Y X X (zo X) ?_
  have hd : ∃ y_, (x.decisions)[i]? = some y_ := ⟨_, List.getElem?_eq_getElem (by omega)⟩
  obtain ⟨d, hd⟩ := hd
  obtain ⟨b14, o15, _, he17, hc16, hr_d⟩ := Sl.elem (x_f1.up le8) hd
  obtain ⟨rfl, lu18, ls19, ls20, lu21⟩ := hr_d
  simp only [big] at ls19
  simp only [big] at ls20
  refine Y X X (zp he17 X X (hk := X) (hu := Tryz.underlying26) (hz := Tryz.sizeOf56))<|Y X X (zc X Tryz.underlying56 X Tryz.sizeOf3 X)<|Y X X (zb (j := 0) st9.sub hc16 X X X Tryz.isAgg3)<|Y X X (zo X)<|Y X X (r_neq X X)<|U<|M ?_
  refine zt rfl (fun c22 => ?_) (fun c22 => ?_)
  ·
   replace c22 := of_decide_eq_true c22
   refine O<|Y X X (zy (v := v_5) X)<|Y X X (zc X Tryz.underlying28 X Tryz.sizeOf26 X)<|Y X X (zaq (st9.get (k := 0) X) X X Tryz.isAgg26)<|Y X X (zo X)<|Y X X (zp he17 X X (hk := X) (hu := Tryz.underlying26) (hz := Tryz.sizeOf56))<|Y X X (zf st9.sub hc16 X Tryz.isAgg56 Tryz.sizeOf56 X)<|zV (L := LDecision) (xs := [d]) (cs := [.int .i64 (d.number), .int .u8 (d.kind), strV (d.form), .int .i64 (d.at_.chapter), .int .i64 (d.at_.line), .int .i64 (d.at_.word), strV (d.to.stem), .int .u8 (d.to.mark), .int .i64 (d.of_)]) st9 (Enc.cons (L := LDecision) (vs := [.int .i64 (d.number), .int .u8 (d.kind), strV (d.form), .int .i64 (d.at_.chapter), .int .i64 (d.at_.line), .int .i64 (d.at_.word), strV (d.to.stem), .int .u8 (d.to.mark), .int .i64 (d.of_)]) (x := d) (h := h7) (⟨rfl, t_u8, zZ, zZ, t_u8⟩) Enc.nil) X X X Tryz.underlying26 Tryz.info56 X X X t_kr ?_
   intro v23 w24 h27 le28 f25 st26
   refine zP (k := 2) (nb := 88) st26 (hO_5.up le28) rfl f25 rfl rfl rfl Tryz.underlying26 Tryz.info56 rfl rfl rfl (by decide) rfl (by have q := List.length_filter_le (fun d => decide (d.number ≠ n)) (x.decisions.take i); rw [List.length_take] at q; first | omega | (simp only [List.length_append, List.length_cons, List.length_nil]; omega)) (by have q := List.length_filter_le (fun d => decide (d.number ≠ n)) (x.decisions.take i); rw [List.length_take] at q; first | omega | (simp only [List.length_append, List.length_cons, List.length_nil]; omega)) ?_
   intro v29 o30 w31 _ e32 f33 st34
   subst e32
   refine Y X X (zD (v := v29) X)<|U<|zI<|M<|O<|Y X X (zo X)<|Y X X (zah X X t_om)<|Y X X (zx X)<|U<|M ?_
   refine ⟨⟨i + 1, v29, o30, h27⟩, ⟨rfl, rfl, trivial⟩, ?_, ⟨(le8.trans le28), st34, ?_, ?_⟩, ?_⟩
   ·exact zae
   ·refine OSl.to f33 ?_
    rw [take_snoc hd, List.filter_append, List.filter_cons, if_pos (by simpa using c22)]; rfl
   ·first | omega | (simp; omega)
   ·show x.decisions.length - ((i + 1)) < x.decisions.length - i
    omega
  ·
   replace c22 := of_decide_eq_false c22
   refine zz<|zI<|M<|O<|Y X X (zo X)<|Y X X (zah X X t_om)<|Y X X (zx X)<|U<|M ?_
   refine ⟨⟨i + 1, v_5, o_5, h7⟩, ⟨rfl, rfl, trivial⟩, ?_, ⟨le8, st9, ?_, ?_⟩, ?_⟩
   ·exact zae
   ·refine OSl.to hO_5 ?_
    rw [take_snoc hd, List.filter_append, List.filter_cons, if_neg (by simpa using c22)]; simp
   ·first | omega | (simp; omega)
   ·show x.decisions.length - ((i + 1)) < x.decisions.length - i
    omega
 ·
  replace c13 := of_decide_eq_false c13
  refine zab<|zn<|zn<|zT<|M<|zd<|O<|Y X X (zy (v := v_5) X)<|Y X X (zc X Tryz.underlying28 X Tryz.sizeOf26 X)<|zas st9 (k := 0) X X (v := v_5) X hO_5.one Tryz.sizeOf26 X X X ?_
  intro w35 st36
  refine U<|M<|zd<|O<|Y X X (r_load_ball (st36.get (k := 0) X) X Tryz.isAgg28 Tryz.sizeOf28 X)<|zB st36 (k := 1) X X X (zg x_f0.one (zg hO_5.one zU)) Tryz.sizeOf28 X X X ?_
  intro w37 st38
  obtain ⟨h39, le40, hb41, st43⟩ := st38.freeze (k := 1) rfl
  have hc42 := Cells.of hb41
  refine U<|M<|zA<|Post.retcellF Tryz.results67 X Tryz.isAgg28 Tryz.sizeOf28 X st43.sub hc42 ?_
  obtain ⟨h44, le45, f46, st47⟩ := OSl.freeze (k := 2) st43 (hO_5.up le40) rfl (by have q := List.length_filter_le (fun d => decide (d.number ≠ n)) (x.decisions.take i); rw [List.length_take] at q; first | omega | (simp only [List.length_append, List.length_cons, List.length_nil]; omega))
  refine ⟨h44, _, rfl, st47.done, ?_⟩
  refine ⟨_, _, ?_, Sl.to (x_f0.up ((le8.trans le40).trans le45)) ?_, Sl.to f46 ?_⟩
  ·rfl
  ·rfl
  ·rw [List.take_of_length_le (by omega)]; rfl
set_option maxRecDepth 4000 in
theorem c_postilref04_Idle {h : Heap} {w : World} (hs : Sub h w) {t : Text} {t_v0 : Value} (t_f0 : Sl LChapter h t_v0 t.chapters) {x : Lexicon} {x_v0 : Value} (x_f0 : Sl LRule h x_v0 x.rules) {x_v1 : Value} (x_f1 : Sl LDecision h x_v1 x.decisions) : Calls Tryz.prog 23 #[.agg #[t_v0], .agg #[x_v0, x_v1]] w (Rets h w (fun h' _ res_ => ∃ u0, res_ = .tuple #[u0, .int .i64 (checkN t x)] ∧ Sl LInt h' u0 ((idleN t x)))) := by
 refine zM (n := 46) (args := [.agg #[t_v0], .agg #[x_v0, x_v1]]) Tryz.func23 X X X ?_
 have st0 : St h w h w [] := St.start hs
 have t_f0_b := t_f0.le
 have x_f0_b := x_f0.le
 have x_f1_b := x_f1.le
 refine zd<|O<|zr st0 (cs := [t_v0]) X X X ?_
 intro b1 w2 h3 le4 hc5 st6
 refine zr st6 (cs := [x_v0, x_v1]) X X X ?_
 intro b7 w8 h9 le10 hc11 st12
 refine Y X X (r_asL X)<|Y X X (zx X)<|U<|M<|zd<|zd<|O<|Y X X (zf st12.sub (hc5.up le10) X Tryz.isAgg24 Tryz.sizeOf24 X)<|Y X X (zf st12.sub hc11 X Tryz.isAgg28 Tryz.sizeOf28 X)<|zm st12 X X X Tryz.call15 X (zam st12.sub (t := t) (t_f0.up (le4.trans le10)) (x := x) (x_f0.up (le4.trans le10)) (x_f1.up (le4.trans le10))) ?_
 intro r13 w14 h15 le16 st17 q18
 obtain rfl := q18
 refine Y X X (zx X)<|U<|M<|zd<|O<|Y X X (zo X)<|Y X X (r_neq X X)<|U<|M ?_
 refine zt rfl (fun c19 => ?_) (fun c19 => ?_)
 ·
  replace c19 := of_decide_eq_true c19
  refine zd<|O<|Y X X (zo X)<|Y X X (r_asL X)<|Y X X (zx X)<|U<|M<|zA<|zk<|zS Tryz.results23 ?_
  refine ⟨h15, _, rfl, st17.done, ?_⟩
  refine ⟨_, tup2 rfl (zW ?_), Sl.to (Sl.nil _ _) ?_⟩
  all_goals simp_all [idleN]
 ·
  replace c19 := of_decide_eq_false c19
  refine zz<|M<|zd ?_
  have hx0 : checkN t x = 0 := by simpa using c19
  have hdl := lexicon_20 hx0
  refine O<|Y X X (zf st17.sub (hc5.up (le10.trans le16)) X Tryz.isAgg24 Tryz.sizeOf24 X)<|Y X X (zf st17.sub (hc11.up le16) X Tryz.isAgg28 Tryz.sizeOf28 X) ?_
  refine zm st17 rfl rfl rfl Tryz.call60 rfl (c_postilref04_All st17.sub (t := t) (t_f0.up ((le4.trans le10).trans le16)) (x := x) (x_f0.up ((le4.trans le10).trans le16)) (x_f1.up ((le4.trans le10).trans le16)) (by first | exact hx0 | exact lessX_check hx0 _)) ?_
  intro r20 w21 h22 le23 st24 q25
  obtain ⟨v26, e28, f27⟩ := q25
  rw [← e28] at f27
  have f27_b := f27.le
  refine Y X X (zD (v := r20) X)<|U<|M<|zd<|O<|Y X X (r_asL X)<|U<|M<|zd<|zd<|O<|Y X X (zx X)<|U<|M<|zF ?_
  have st32 := st24.snoc
  have f33 := OSl.nil LInt 3 h22
  refine zX [8, 9, 10, 20, 21, 22, 23, 24, 25, 26, 27, 28, 29, 30, 31, 32, 33, 34, 35, 36, 37, 38, 39, 40, 41, 42, 43, 44] (G := Nat × Value × List (Nat × Obj) × Heap) (fun ⟨k, v_8, o_8, h29⟩ => [(8, v_8), (9, .int .i64 ((k : Int) + 1))]) (fun ⟨k, v_8, o_8, h29⟩ w' => Le h22 h29 ∧ St h w h29 w' [o_8] ∧ (OSl LInt 3 h29 v_8 (idleK t x k) o_8) ∧ (k ≤ 999)) (fun ⟨k, v_8, o_8, h29⟩ => 999 - k) ⟨0, (.slice none 0 0), [], h22⟩ ⟨rfl, (zW (by omega)), trivial⟩ ⟨Le.refl _, st32, (OSl.to f33 (by rfl)), zak⟩ ?_
  rintro ⟨k, v_8, o_8, h29⟩ _ w34 ⟨le30, st31, hO_8, hk⟩
  refine zd<|zd<|O<|Y X X (zo X)<|Y X X (r_leq X X)<|U<|M ?_
  refine zt rfl (fun c35 => ?_) (fun c35 => ?_)
  ·
   replace c35 := of_decide_eq_true c35
   refine zz<|M<|zd<|zF<|zd<|O<|Y X X (zf st31.sub (hc11.up ((le16.trans le23).trans le30)) X Tryz.isAgg28 Tryz.sizeOf28 X)<|Y X X (zo X) ?_
   refine zm st31 rfl rfl rfl Tryz.call67 rfl (c_postilref04_Without st31.sub (x := x) (x_f0.up ((((le4.trans le10).trans le16).trans le23).trans le30)) (x_f1.up ((((le4.trans le10).trans le16).trans le23).trans le30)) _ (by omega)) ?_
   intro r36 w37 h38 le39 st40 q41
   obtain ⟨v42, v44, rfl, f43, f45⟩ := q41
   have f43_b := f43.le
   have f45_b := f45.le
   refine zO st40 Tryz.zeroValue28 X X ?_
   intro b46 w47 st48
   refine zB st48 (k := 1) X X X (zg f43.one (zg f45.one zU)) Tryz.sizeOf28 X X X ?_
   intro w49 st50
   obtain ⟨h51, le52, hb53, st55⟩ := st50.freeze (k := 1) rfl
   have hc54 := Cells.of hb53
   refine U<|M<|zd<|O<|Y X X (zc X Tryz.underlying28 X Tryz.sizeOf26 X)<|Y X X (zb (j := 1) st55.sub hc54 X X X Tryz.isAgg26)<|Y X X (zag (f45.up le52) X Tryz.underlying26)<|Y X X (zc X Tryz.underlying28 X Tryz.sizeOf26 X)<|Y X X (zb (j := 1) st55.sub (hc11.up ((((le16.trans le23).trans le30).trans le39).trans le52)) X X X Tryz.isAgg26)<|Y X X (zag (x_f1.up ((((((le4.trans le10).trans le16).trans le23).trans le30).trans le39).trans le52)) X Tryz.underlying26)<|Y X X (zal X X)<|Y X X (zN X) ?_
   refine zG (d := 34) rfl (fun g56 => ?_) (fun g56 => ?_)
   ·
    replace g56 := of_decide_eq_true g56
    refine za X X (d := 34) X<|Y X X (zf st55.sub (hc5.up (((((le10.trans le16).trans le23).trans le30).trans le39).trans le52)) X Tryz.isAgg24 Tryz.sizeOf24 X)<|za X X (d := 34) X<|Y X X (zf st55.sub hc54 X Tryz.isAgg28 Tryz.sizeOf28 X)<|za X X (d := 34) X ?_
    refine zm st55 rfl rfl rfl Tryz.call60 rfl (c_postilref04_All st55.sub (t := t) (t_f0.up ((((((le4.trans le10).trans le16).trans le23).trans le30).trans le39).trans le52)) (x := (lessX (x) (((k : Int) + 1)))) (f43.up le52) (f45.up le52) (by first | exact hx0 | exact lessX_check hx0 _)) ?_
    intro r57 w58 h59 le60 st61 q62
    obtain ⟨v63, e65, f64⟩ := q62
    rw [← e65] at f64
    have f64_b := f64.le
    refine za X X (d := 34) X<|Y X X (zy (v := r20) X)<|za X X (d := 34) X<|zm st61 X X X Tryz.call39 X (c_postilref04_SameHeads st61.sub f64 (f27.up (((le30.trans le39).trans le52).trans le60))) ?_
    intro r66 w67 h68 le69 st70 q71
    obtain rfl := q71
    refine Y X X (zK (v := (.bool _)) X X)<|U<|M ?_
    refine zt rfl (fun c72 => ?_) (fun c72 => ?_)
    ·
     refine O<|Y X X (zy (v := v_8) X)<|Y X X (zo X)<|zV (L := LInt) (xs := [((k : Int) + 1)]) (cs := [.int .i64 ((k : Int) + 1)]) st70 (Enc.cons (L := LInt) (vs := [.int .i64 ((k : Int) + 1)]) (x := ((k : Int) + 1)) (h := h68) (X) Enc.nil) X X X Tryz.underlying39 Tryz.info3 X X X t_kr ?_
     intro v73 w74 h77 le78 f75 st76
     refine zP (k := 0) (nb := 8) st76 (hO_8.up ((((le39.trans le52).trans le60).trans le69).trans le78)) rfl f75 rfl rfl rfl Tryz.underlying39 Tryz.info3 rfl rfl rfl (by decide) rfl (by have q := idleK_len t x k; first | omega | (simp only [List.length_append, List.length_cons, List.length_nil]; omega)) (by have q := idleK_len t x k; first | omega | (simp only [List.length_append, List.length_cons, List.length_nil]; omega)) ?_
     intro v79 o80 w81 _ e82 f83 st84
     subst e82
     refine Y X X (zD (v := v79) X)<|U<|zI<|M<|O<|Y X X (zo X)<|Y X X (zah X X t_om)<|Y X X (zx X)<|U<|M ?_
     refine ⟨⟨k + 1, v79, o80, h77⟩, ⟨rfl, ?_, trivial⟩, ?_, ⟨(((((le30.trans le39).trans le52).trans le60).trans le69).trans le78), st84.take 1, ?_, ?_⟩, ?_⟩
     ·exact zW (by omega)
     ·exact zae
     ·refine OSl.to f83 ?_
      rw [idleK_succ, if_pos (by simp only [idleB, natI, Bool.and_eq_true]; exact ⟨decide_eq_true (by omega), decide_eq_true (by simpa using c72)⟩)]; rfl
     ·first | omega | (simp; omega)
     ·show 999 - ((k + 1)) < 999 - k
      omega
    ·
     refine zz<|zI<|M<|O<|Y X X (zo X)<|Y X X (zah X X t_om)<|Y X X (zx X)<|U<|M ?_
     refine ⟨⟨k + 1, v_8, o_8, h68⟩, ⟨rfl, ?_, trivial⟩, ?_, ⟨((((le30.trans le39).trans le52).trans le60).trans le69), st70.take 1, ?_, ?_⟩, ?_⟩
     ·exact zW (by omega)
     ·exact zae
     ·refine OSl.to (hO_8.up (((le39.trans le52).trans le60).trans le69)) ?_
      rw [idleK_succ, if_neg (by simp only [idleB, natI, Bool.and_eq_true]; intro q; have q1 := c72; simp [of_decide_eq_true q.2] at q1), List.append_nil]
     ·first | omega | (simp; omega)
     ·show 999 - ((k + 1)) < 999 - k
      omega
   ·
    replace g56 := of_decide_eq_false g56
    refine E X X (d := 34) X X X<|E X X (d := 34) X X X<|E X X (d := 34) X X X<|E X X (d := 34) X X X<|E X X (d := 34) X X X<|Y X X (zC (v := (.bool _)) X X)<|U<|M ?_
    refine zt rfl (fun c85 => ?_) (fun c85 => ?_)
    ·
     cases c85
    ·
     refine zz<|zI<|M<|O<|Y X X (zo X)<|Y X X (zah X X t_om)<|Y X X (zx X)<|U<|M ?_
     refine ⟨⟨k + 1, v_8, o_8, h51⟩, ⟨rfl, ?_, trivial⟩, ?_, ⟨((le30.trans le39).trans le52), st55.take 1, ?_, ?_⟩, ?_⟩
     ·exact zW (by omega)
     ·exact zae
     ·refine OSl.to (hO_8.up (le39.trans le52)) ?_
      rw [idleK_succ, if_neg (by simp only [idleB, natI, Bool.and_eq_true]; intro q; have q1 := of_decide_eq_true q.1; have q2 := g56; omega), List.append_nil]
     ·first | omega | (simp; omega)
     ·show 999 - ((k + 1)) < 999 - k
      omega
  ·
   replace c35 := of_decide_eq_false c35
   refine zab<|zn<|zn<|zT<|M<|zd<|O<|Y X X (zy (v := v_8) X)<|Y X X (zD (v := v_8) X)<|Y X X (zx X)<|U<|M<|zA<|zS Tryz.results23 ?_
   obtain ⟨h86, le87, f88, st89⟩ := OSl.freeze (k := 0) st31 hO_8 rfl (by have q := idleK_len t x k; first | omega | (simp only [List.length_append, List.length_cons, List.length_nil]; omega))
   refine ⟨h86, _, rfl, st89.done, ?_⟩
   refine ⟨_, tup2 rfl (zW ?_), Sl.to f88 ?_⟩
   ·exact hx0.symm
   ·rw [show k = 999 by omega]; simp [idleN, hx0, idleR]
set_option maxRecDepth 4000 in
theorem c_postilref04_Homographs {h : Heap} {w : World} (hs : Sub h w) {t : Text} {t_v0 : Value} (t_f0 : Sl LChapter h t_v0 t.chapters) {x : Lexicon} {x_v0 : Value} (x_f0 : Sl LRule h x_v0 x.rules) {x_v1 : Value} (x_f1 : Sl LDecision h x_v1 x.decisions) : Calls Tryz.prog 21 #[.agg #[t_v0], .agg #[x_v0, x_v1]] w (Rets h w (fun h' _ res_ => ∃ u0, res_ = .tuple #[u0, .int .i64 (checkN t x)] ∧ Sl LStr h' u0 ((homR t x)))) := by
 refine zM (n := 64) (args := [.agg #[t_v0], .agg #[x_v0, x_v1]]) Tryz.func21 X X X ?_
 have st0 : St h w h w [] := St.start hs
 have t_f0_b := t_f0.le
 have x_f0_b := x_f0.le
 have x_f1_b := x_f1.le
 refine zd<|O<|zr st0 (cs := [t_v0]) X X X ?_
 intro b1 w2 h3 le4 hc5 st6
 refine zr st6 (cs := [x_v0, x_v1]) X X X ?_
 intro b7 w8 h9 le10 hc11 st12
 refine Y X X (r_asL X)<|Y X X (zx X)<|U<|M<|zd<|zd<|O<|Y X X (zf st12.sub (hc5.up le10) X Tryz.isAgg24 Tryz.sizeOf24 X)<|Y X X (zf st12.sub hc11 X Tryz.isAgg28 Tryz.sizeOf28 X)<|zm st12 X X X Tryz.call15 X (zam st12.sub (t := t) (t_f0.up (le4.trans le10)) (x := x) (x_f0.up (le4.trans le10)) (x_f1.up (le4.trans le10))) ?_
 intro r13 w14 h15 le16 st17 q18
 obtain rfl := q18
 refine Y X X (zx X)<|U<|M<|zd<|O<|Y X X (zo X)<|Y X X (r_neq X X)<|U<|M ?_
 refine zt rfl (fun c19 => ?_) (fun c19 => ?_)
 ·
  replace c19 := of_decide_eq_true c19
  refine zd<|O<|Y X X (zo X)<|Y X X (r_asL X)<|Y X X (zx X)<|U<|M<|zA<|zk<|zS Tryz.results21 ?_
  refine ⟨h15, _, rfl, st17.done, ?_⟩
  refine ⟨_, tup2 rfl (zW ?_), Sl.to (Sl.nil _ _) ?_⟩
  all_goals simp_all [homR]
 ·
  replace c19 := of_decide_eq_false c19
  refine zz<|M<|zd ?_
  have hx0 : checkN t x = 0 := by simpa using c19
  refine O<|Y X X (r_asL X)<|U<|M<|zd<|zaa (er := ([], [], [], [], 0)) (dsts := [19, 20, 21, 22, 23, 8, 9]) st17 Tryz.mixed<|zh 0 [] X t_kr t_kr X X (fun hD wD τD hL hS hO  => (zf (hL.sub hS) (hc5.up (le10.trans le16)) X Tryz.isAgg24 Tryz.sizeOf24 X)) ?_
  refine zQ 1 (.res (fun h' res_ => Sl LPlace h' res_ ((placesT (t)))) (fun _ _ _ hl f => f.up hl)) [0] rfl t_kr t_kr ?_ ?_
  ·
   intro hD wD τD hL hS hO _ _
   have st20 := St.start hS
   refine zm st20 rfl rfl rfl Tryz.call59 rfl (c_postilref01_All st20.sub (t := t) (t_f0.up (((le4.trans le10).trans le16).trans hL)) (by exact check_text hx0)) ?_
   intro r21 w22 h23 le24 st25 q26
   obtain ⟨v27, e29, f28⟩ := q26
   rw [← e29] at f28
   have f28_b := f28.le
   exact U ⟨_, _, rfl, st25, _, rfl, f28⟩
  refine zh 2 [] X t_kr t_kr X X (fun hD wD τD hL hS hO  => (zf (hL.sub hS) (hc5.up (le10.trans le16)) X Tryz.isAgg24 Tryz.sizeOf24 X))<|zh 3 [] X t_kr t_kr X X (fun hD wD τD hL hS hO  => (zf (hL.sub hS) (hc11.up le16) X Tryz.isAgg28 Tryz.sizeOf28 X)) ?_
  refine zQ 4 (.res (fun h' res_ => Sl LHead h' res_ ((headsL (t) (x)))) (fun _ _ _ hl f => f.up hl)) [1, 0, 2] rfl t_kr t_kr ?_ ?_
  ·
   intro hD wD τD hL hS hO _ _ _ _ gv1_0 gf1_0
   have st30 := St.start hS
   refine zm st30 rfl rfl rfl Tryz.call60 rfl (c_postilref04_All st30.sub (t := t) (t_f0.up (((le4.trans le10).trans le16).trans hL)) (x := x) (x_f0.up (((le4.trans le10).trans le16).trans hL)) (x_f1.up (((le4.trans le10).trans le16).trans hL)) (by exact hx0)) ?_
   intro r31 w32 h33 le34 st35 q36
   obtain ⟨v37, e39, f38⟩ := q36
   rw [← e39] at f38
   have f38_b := f38.le
   exact U ⟨_, _, rfl, st35, _, rfl, f38⟩
  refine zQ 5 (.res (fun h' res_ => Sl LPlace h' res_ (((placesT (t))))) (fun _ _ _ hl f => f.up hl)) [0, 4, 3] rfl t_kr t_kr ?_ ?_
  ·
   intro hD wD τD hL hS hO gv4_0 gf4_0 _ _ gv1_0 gf1_0
   have st40 := St.start hS
   refine Y X X (zD (v := gv1_0) X) ?_
   exact U ⟨_, _, rfl, st40, _, rfl, gf1_0⟩
  refine zQ 6 (.res (fun h' res_ => Sl LHead h' res_ (((headsL (t) (x))))) (fun _ _ _ hl f => f.up hl)) [5, 4, 3, 2, 1, 0] rfl t_kr t_kr ?_ ?_
  ·
   intro hD wD τD hL hS hO _ _ gv1_0 gf1_0 _ _ _ _ gv4_0 gf4_0 gv5_0 gf5_0
   have st41 := St.start hS
   refine Y X X (zD (v := gv4_0) X) ?_
   exact U ⟨_, _, rfl, st41, _, rfl, gf4_0⟩
  refine zan X X X X X X ⟨t_kr, X, t_kr, X, t_kr, X, X, t_kr, cx_nil⟩ ?_
  intro hE42 w43 _ le44 st45 _ _ gv1_0x46 gf1_0x46 _ _ _ _ gv4_0x46 gf4_0x46 gv5_0x46 gf5_0x46 gv6_0x46 gf6_0x46
  refine AllDeps.fin X ?_
  have hpl := places_len (check_text hx0)
  have hhl : (headsL t x).length = (placesT t).length := heads_length t x
  have hel := entries_length t x
  refine M<|zd<|zd<|O<|Y X X (zx X)<|U<|M<|zF ?_
  refine zX [7, 10, 11, 12, 24, 25, 26, 27, 28, 29, 30, 31, 32, 33, 34, 35, 36, 37, 38, 39, 40, 41, 42, 43, 44, 45, 46, 47, 48, 49, 50, 51, 52, 53, 54, 55, 56, 57, 58, 59, 60, 61, 62] (G := Nat × Value × Heap) (fun ⟨i, v_7, h47⟩ => [(7, v_7), (10, .int .i64 (i : Int))]) (fun ⟨i, v_7, h47⟩ w' => Le hE42 h47 ∧ St h w h47 w' [] ∧ (Sl LStr h47 v_7 (setL sLt (pairsN (entriesL t x) i))) ∧ (i ≤ (headsL t x).length)) (fun ⟨i, v_7, h47⟩ => (headsL t x).length - i) ⟨0, (.slice none 0 0), hE42⟩ ⟨rfl, rfl, trivial⟩ ⟨Le.refl _, st45, (Sl.to (Sl.nil LStr hE42) (by rfl)), zak⟩ ?_
  rintro ⟨i, v_7, h47⟩ _ w50 ⟨le48, st49, hF_7, hi⟩
  refine zd<|zd<|O<|Y X X (zo X)<|Y X X (zy (v := gv6_0x46) X)<|Y X X (zag (gf6_0x46.up le48) X Tryz.underlying80)<|Y X X (zal X X)<|U<|M ?_
  refine zt rfl (fun c51 => ?_) (fun c51 => ?_)
  ·
   replace c51 := of_decide_eq_true c51
   refine zz<|M<|zd<|zF<|zd<|O<|Y X X (zx X)<|U<|M<|zF ?_
   refine zX [7, 11, 12, 30, 31, 32, 33, 34, 35, 36, 37, 38, 39, 40, 41, 42, 43, 44, 45, 46, 47, 48, 49, 50, 51, 52, 53, 54, 55, 56, 57, 58, 59, 60, 61, 62] (G := Nat × Value × Heap) (fun ⟨k, v_7, h52⟩ => [(7, v_7), (11, .int .i64 (k : Int))]) (fun ⟨k, v_7, h52⟩ w' => Le h47 h52 ∧ St h w h52 w' [] ∧ (Sl LStr h52 v_7 (setL sLt (pairsN (entriesL t x) i ++ (List.range k).flatMap (pairAt (entriesL t x) i)))) ∧ (k ≤ i)) (fun ⟨k, v_7, h52⟩ => i - k) ⟨0, v_7, h47⟩ ⟨rfl, rfl, trivial⟩ ⟨Le.refl _, st49, (Sl.to hF_7 (by simp)), zak⟩ ?_
   rintro ⟨k, v_7, h52⟩ _ w55 ⟨le53, st54, hF_7, hk⟩
   refine zd<|zd<|O<|Y X X (zo X)<|Y X X (zo X)<|Y X X (zal X X)<|U<|M ?_
   refine zt rfl (fun c56 => ?_) (fun c56 => ?_)
   ·
    replace c56 := of_decide_eq_true c56
    refine zz<|M<|zd<|zF<|zd ?_
    obtain ⟨p, hp⟩ : ∃ y, ((placesT t))[i]? = some y := ⟨_, List.getElem?_eq_getElem (by omega)⟩
    obtain ⟨q, hq⟩ : ∃ y, ((placesT t))[k]? = some y := ⟨_, List.getElem?_eq_getElem (by omega)⟩
    obtain ⟨a, ha⟩ : ∃ y, ((headsL t x))[i]? = some y := ⟨_, List.getElem?_eq_getElem (by omega)⟩
    obtain ⟨b, hb⟩ : ∃ y, ((headsL t x))[k]? = some y := ⟨_, List.getElem?_eq_getElem (by omega)⟩
    refine zai Tryz.mixed t_kr (Cls h52 _) (Cls.drew st54)<|ze X X (fun _ hC => (zf hC.sub (hc5.up ((((le10.trans le16).trans le44).trans le48).trans le53)) X Tryz.isAgg24 Tryz.sizeOf24 X))<|ze X X (fun _ _ => (zy (v := gv5_0x46) X))<|ze X X (fun _ _ => (zo X)) ?_
    obtain ⟨b57, o58, _, he60, hc59, hr_p⟩ := Sl.elem (gf5_0x46.up (le48.trans le53)) hp
    obtain rfl := hr_p
    refine ze X X (fun _ _ => (zp he60 X X (hk := X) (hu := Tryz.underlying63) (hz := Tryz.sizeOf52)))<|ze X X (fun _ hC => (zf hC.sub hc59 X Tryz.isAgg52 Tryz.sizeOf52 X)) ?_
    have hp0 : placeB t p = true := placesT_mem (List.mem_of_getElem? hp)
    have hq0 : placeB t q = true := placesT_mem (List.mem_of_getElem? hq)
    have hw12 := wordD_len (check_text hx0) hp0
    have hpq := pair_pl hp hq ha hb
    refine OpsQ.calls rfl rfl (fun _ => zaj rfl Tryz.call61 rfl) (fun _ hC => Rets.quiet hC (c_postilref01_WordAt hC.sub (t := t) (t_f0.up (((((le4.trans le10).trans le16).trans le44).trans le48).trans le53)) (p := p) (by first | exact hp0 | exact hq0))) ?_
    refine ze X X (fun _ _ => (r_asS X))<|zac ?_
    rintro w61 ⟨h62, s63⟩
    have st64 := st54.call0 s63
    refine M<|zd<|zai Tryz.mixed t_kr (Cls h62 _) (Cls.drew st64)<|ze X X (fun _ _ => (r_mvS X))<|ze X X (fun _ hC => (zf hC.sub (hc5.up (((((le10.trans le16).trans le44).trans le48).trans le53).trans s63.le)) X Tryz.isAgg24 Tryz.sizeOf24 X))<|ze X X (fun _ _ => (zy (v := gv5_0x46) X))<|ze X X (fun _ _ => (zo X)) ?_
    obtain ⟨b65, o66, _, he68, hc67, hr_q⟩ := Sl.elem (gf5_0x46.up ((le48.trans le53).trans s63.le)) hq
    obtain rfl := hr_q
    refine ze X X (fun _ _ => (zp he68 X X (hk := X) (hu := Tryz.underlying63) (hz := Tryz.sizeOf52)))<|ze X X (fun _ hC => (zf hC.sub hc67 X Tryz.isAgg52 Tryz.sizeOf52 X)) ?_
    refine OpsQ.calls rfl rfl (fun _ => zaj rfl Tryz.call61 rfl) (fun _ hC => Rets.quiet hC (c_postilref01_WordAt hC.sub (t := t) (t_f0.up ((((((le4.trans le10).trans le16).trans le44).trans le48).trans le53).trans s63.le)) (p := q) (by first | exact hp0 | exact hq0))) ?_
    refine ze X X (fun _ _ => (r_seql X X))<|ze X X (fun _ _ => (zN X)) ?_
    refine OpsQ.split (d := 49) rfl (fun g69 => ?_) (fun g69 => ?_)
    ·
     replace g69 := of_decide_eq_true g69
     refine zq X X (d := 49) X<|ze X X (fun _ _ => (zy (v := gv6_0x46) X))<|zq X X (d := 49) X<|ze X X (fun _ _ => (zo X))<|zq X X (d := 49) X ?_
     obtain ⟨b70, o71, _, he73, hc72, hr_a⟩ := Sl.elem (gf6_0x46.up ((le48.trans le53).trans s63.le)) ha
     obtain ⟨rfl, ls74, lu75⟩ := hr_a
     simp only [big] at ls74
     refine ze X X (fun _ _ => (zp he73 X X (hk := X) (hu := Tryz.underlying80) (hz := Tryz.sizeOf54)))<|zq X X (d := 49) X<|ze X X (fun _ hC => (zf hC.sub hc72 X Tryz.isAgg54 Tryz.sizeOf54 X))<|zq X X (d := 49) X<|ze X X (fun _ _ => (zy (v := gv6_0x46) X))<|zq X X (d := 49) X<|ze X X (fun _ _ => (zo X))<|zq X X (d := 49) X ?_
     obtain ⟨b76, o77, _, he79, hc78, hr_b⟩ := Sl.elem (gf6_0x46.up ((le48.trans le53).trans s63.le)) hb
     obtain ⟨rfl, ls80, lu81⟩ := hr_b
     simp only [big] at ls80
     refine ze X X (fun _ _ => (zp he79 X X (hk := X) (hu := Tryz.underlying80) (hz := Tryz.sizeOf54)))<|zq X X (d := 49) X<|ze X X (fun _ hC => (zf hC.sub hc78 X Tryz.isAgg54 Tryz.sizeOf54 X))<|zq X X (d := 49) X<|ze X X (fun _ _ => (r_stneq X X Tryz.eqGuardType54 (Tryz.eq_Head a b)))<|ze X X (fun _ _ => (zK (v := (.bool _)) X X))<|zac ?_
     rintro w82 ⟨h83, s84⟩
     have st85 := st64.call0 s84
     refine M ?_
     refine zt rfl (fun c86 => ?_) (fun c86 => ?_)
     ·
      replace c86 := of_decide_eq_true c86
      have hq1 := pairs_len (entriesL t x) i (by omega)
      have hq2 := flatMap_len (pairAt_len (entriesL t x) i) k
      have hq3 : (entriesL t x).length * i ≤ 600 * 600 := Nat.mul_le_mul (by omega) (by omega)
      have hq4 := setL_len sLt_T (pairsN (entriesL t x) i ++ (List.range k).flatMap (pairAt (entriesL t x) i))
      rw [List.length_append] at hq4
      refine O<|Y X X (zy (v := v_7) X)<|Y X X (r_mvS X) ?_
      refine zm st85 rfl rfl rfl Tryz.call62 rfl (c_postilref04_added st85.sub (hF_7.up (s63.le.trans s84.le)) _ zZ (by omega)) ?_
      intro r87 w88 h89 le90 st91 q92
      obtain ⟨v93, e95, f94⟩ := q92
      rw [← e95] at f94
      have f94_b := f94.le
      refine Y X X (zD (v := r87) X)<|U<|zI<|M<|O<|Y X X (zo X)<|Y X X (zah X X t_om)<|Y X X (zx X)<|U<|M ?_
      refine ⟨⟨k + 1, r87, h89⟩, ⟨rfl, rfl, trivial⟩, ?_, ⟨(((le53.trans s63.le).trans s84.le).trans le90), st91, ?_, ?_⟩, ?_⟩
      ·exact zae
      ·refine Sl.to f94 ?_
       rw [range_flat_succ, hpq, if_pos ⟨by simpa using g69, by simpa using c86⟩, ← List.append_assoc]; exact (setL_snoc _ _).symm
      ·first | omega | (simp; omega)
      ·show i - ((k + 1)) < i - k
       omega
     ·
      replace c86 := of_decide_eq_false c86
      refine zz<|zI<|M<|O<|Y X X (zo X)<|Y X X (zah X X t_om)<|Y X X (zx X)<|U<|M ?_
      refine ⟨⟨k + 1, v_7, h83⟩, ⟨rfl, rfl, trivial⟩, ?_, ⟨((le53.trans s63.le).trans s84.le), st85, ?_, ?_⟩, ?_⟩
      ·exact zae
      ·refine Sl.to (hF_7.up (s63.le.trans s84.le)) ?_
       rw [range_flat_succ, hpq, if_neg (by intro q; exact q.2 (by simpa using c86)), List.append_nil]
      ·first | omega | (simp; omega)
      ·show i - ((k + 1)) < i - k
       omega
    ·
     replace g69 := of_decide_eq_false g69
     refine zj X X (d := 49) X X X<|zj X X (d := 49) X X X<|zj X X (d := 49) X X X<|zj X X (d := 49) X X X<|zj X X (d := 49) X X X<|zj X X (d := 49) X X X<|zj X X (d := 49) X X X<|zj X X (d := 49) X X X<|zj X X (d := 49) X X X<|ze X X (fun _ _ => (zC (v := (.bool _)) X X))<|zac ?_
     rintro w96 ⟨h97, s98⟩
     have st99 := st64.call0 s98
     refine M ?_
     refine zt rfl (fun c100 => ?_) (fun c100 => ?_)
     ·
      cases c100
     ·
      refine zz<|zI<|M<|O<|Y X X (zo X)<|Y X X (zah X X t_om)<|Y X X (zx X)<|U<|M ?_
      refine ⟨⟨k + 1, v_7, h97⟩, ⟨rfl, rfl, trivial⟩, ?_, ⟨((le53.trans s63.le).trans s98.le), st99, ?_, ?_⟩, ?_⟩
      ·exact zae
      ·refine Sl.to (hF_7.up (s63.le.trans s98.le)) ?_
       rw [range_flat_succ, hpq, if_neg (by intro q; exact absurd q.1 (by simpa using g69)), List.append_nil]
      ·first | omega | (simp; omega)
      ·show i - ((k + 1)) < i - k
       omega
   ·
    replace c56 := of_decide_eq_false c56
    refine zab<|zn<|zn<|zT<|zI<|M<|O<|Y X X (zo X)<|Y X X (zah X X t_om)<|Y X X (zx X)<|U<|M ?_
    refine ⟨⟨i + 1, v_7, h52⟩, ⟨rfl, rfl, trivial⟩, ?_, ⟨(le48.trans le53), st54, ?_, ?_⟩, ?_⟩
    ·exact zae
    ·refine Sl.to hF_7 ?_
     rw [show k = i by omega, pairsN, pairsN, range_flat_succ]; rfl
    ·first | omega | (simp; omega)
    ·show (headsL t x).length - ((i + 1)) < (headsL t x).length - i
     omega
  ·
   replace c51 := of_decide_eq_false c51
   refine zab<|zn<|zn<|zT<|M<|zd<|O<|Y X X (zy (v := v_7) X)<|Y X X (zD (v := v_7) X)<|Y X X (zx X)<|U<|M<|zA<|zS Tryz.results21 ?_
   refine ⟨h47, _, rfl, st49.done, ?_⟩
   refine ⟨_, tup2 rfl (zW ?_), Sl.to hF_7 ?_⟩
   ·exact hx0.symm
   ·rw [show i = (entriesL t x).length by omega, ← homs_pairs]; simp [homR, hx0]
set_option maxRecDepth 4000 in
theorem c_postilref04_Twin_own {h : Heap} {w : World} (hs : Sub h w) {x : Lexicon} {x_v0 : Value} (x_f0 : Sl LRule h x_v0 x.rules) {x_v1 : Value} (x_f1 : Sl LDecision h x_v1 x.decisions) (hln : x.rules.length ≤ 20 ∧ x.decisions.length ≤ 25) : Calls Tryz.prog 9 #[.agg #[x_v0, x_v1]] w (fun e_ w' => ∃ h' v0_ v1_ o0_ o1_, e_ = .returned (.agg #[v0_, v1_]) ∧ Le h h' ∧ St h w h' w' [o0_, o1_] ∧ OSl LRule 70 h' v0_ ((x).rules) o0_ ∧ OSl LDecision 56 h' v1_ ((x).decisions) o1_) := by
 refine zM (n := 14) (args := [.agg #[x_v0, x_v1]]) Tryz.func9 X X X ?_
 have st0 : St h w h w [] := St.start hs
 have x_f0_b := x_f0.le
 have x_f1_b := x_f1.le
 refine zd<|O<|OpsL.boxO st0 (cs := [x_v0, x_v1]) X X X ?_
 intro b1 w2 st3
 refine zO st3 Tryz.zeroValue28 X X ?_
 intro b4 w5 st6
 refine U<|M<|zd<|O<|OpsL.sliceE (L := LRule) st6 X ⟨_, Tryz.sizeOf70⟩ Tryz.underlying25 ?_
 intro v7 o8 w9 f10 st11
 refine Y X X (zc X Tryz.underlying28 X Tryz.sizeOf25 X)<|Y X X (zaq (st11.get (k := 0) X) X X Tryz.isAgg25) ?_
 refine zP (k := 2) (nb := 40) st11 f10 rfl x_f0 rfl rfl rfl Tryz.underlying25 Tryz.info70 rfl rfl rfl (by decide) rfl (by simp only [List.length_nil, List.nil_append]; omega) (by simp only [List.length_nil, List.nil_append]; omega) ?_
 intro v12 o13 w14 _ e15 f16 st17
 subst e15
 refine Y X X (zc X Tryz.underlying28 X Tryz.sizeOf25 X)<|zas st17 (k := 0) X X (v := v12) X f16.one Tryz.sizeOf25 X X X ?_
 intro w18 st19
 refine U<|M<|zd<|O<|OpsL.sliceE (L := LDecision) st19 X ⟨_, Tryz.sizeOf56⟩ Tryz.underlying26 ?_
 intro v20 o21 w22 f23 st24
 refine Y X X (zc X Tryz.underlying28 X Tryz.sizeOf26 X)<|Y X X (zaq (st24.get (k := 0) X) X X Tryz.isAgg26) ?_
 refine zP (k := 3) (nb := 88) st24 f23 rfl x_f1 rfl rfl rfl Tryz.underlying26 Tryz.info56 rfl rfl rfl (by decide) rfl (by simp only [List.length_nil, List.nil_append]; omega) (by simp only [List.length_nil, List.nil_append]; omega) ?_
 intro v25 o26 w27 _ e28 f29 st30
 subst e28
 refine Y X X (zc X Tryz.underlying28 X Tryz.sizeOf26 X)<|zas st30 (k := 0) X X (v := v25) X f29.one Tryz.sizeOf26 X X X ?_
 intro w31 st32
 refine U<|M<|zd<|O<|Y X X (r_load_ball (st32.get (k := 0) X) X Tryz.isAgg28 Tryz.sizeOf28 X)<|zB st32 (k := 1) X X X (zg f16.one (zg f29.one zU)) Tryz.sizeOf28 X X X ?_
 intro w33 st34
 obtain ⟨h35, le36, hb37, st39⟩ := st34.freeze (k := 1) rfl
 have hc38 := Cells.of hb37
 refine U<|M<|zA<|Post.retcellF Tryz.results9 X Tryz.isAgg28 Tryz.sizeOf28 X st39.sub hc38 ?_
 refine ⟨h35, v12, v25, _, _, congrArg Ending.returned (rfl), le36, st39.sublist (own' := [o13, o26]) (.cons _ (.cons _ (.cons_cons _ (.cons_cons _ (.slnil))))), OSl.to (f16.up le36) ?_, OSl.to (f29.up le36) ?_⟩
 ·simp
 ·simp
set_option maxRecDepth 4000 in
theorem c_postilref04_Add {h : Heap} {w : World} (hs : Sub h w) {t : Text} {t_v0 : Value} (t_f0 : Sl LChapter h t_v0 t.chapters) {x : Lexicon} {x_v0 : Value} (x_f0 : Sl LRule h x_v0 x.rules) {x_v1 : Value} (x_f1 : Sl LDecision h x_v1 x.decisions) {d : Decision} (d_l2 : 0 ≤ d.kind ∧ d.kind ≤ 255) (d_l3 : d.form.length ≤ 281474976710656) (d_l7 : d.to.stem.length ≤ 281474976710656) (d_l8 : 0 ≤ d.to.mark ∧ d.to.mark ≤ 255) : Calls Tryz.prog 25 #[.agg #[t_v0], .agg #[x_v0, x_v1], .agg #[.int .i64 d.number, .int .u8 d.kind, strV d.form, .int .i64 d.at_.chapter, .int .i64 d.at_.line, .int .i64 d.at_.word, strV d.to.stem, .int .u8 d.to.mark, .int .i64 d.of_]] w (Rets h w (fun h' _ res_ => ∃ u0 u1, res_ = .tuple #[.agg #[u0, u1], .int .i64 (addE t x d)] ∧ Sl LRule h' u0 ((addN t x d)).rules ∧ Sl LDecision h' u1 ((addN t x d)).decisions)) := by
 refine zM (n := 88) (args := [.agg #[t_v0], .agg #[x_v0, x_v1], .agg #[.int .i64 d.number, .int .u8 d.kind, strV d.form, .int .i64 d.at_.chapter, .int .i64 d.at_.line, .int .i64 d.at_.word, strV d.to.stem, .int .u8 d.to.mark, .int .i64 d.of_]]) Tryz.func25 X X X ?_
 have st0 : St h w h w [] := St.start hs
 have t_f0_b := t_f0.le
 have x_f0_b := x_f0.le
 have x_f1_b := x_f1.le
 refine zd<|O<|zr st0 (cs := [t_v0]) X X X ?_
 intro b1 w2 h3 le4 hc5 st6
 refine zr st6 (cs := [x_v0, x_v1]) X X X ?_
 intro b7 w8 h9 le10 hc11 st12
 refine zr st12 (cs := [.int .i64 (d.number), .int .u8 (d.kind), strV (d.form), .int .i64 (d.at_.chapter), .int .i64 (d.at_.line), .int .i64 (d.at_.word), strV (d.to.stem), .int .u8 (d.to.mark), .int .i64 (d.of_)]) X X X ?_
 intro b13 w14 h15 le16 hc17 st18
 refine zO st18 Tryz.zeroValue28 X X ?_
 intro b19 w20 st21
 refine Y X X (zx X)<|U<|M<|zd<|zd<|O<|Y X X (zf st21.sub (hc5.up (le10.trans le16)) X Tryz.isAgg24 Tryz.sizeOf24 X)<|Y X X (zf st21.sub (hc11.up le16) X Tryz.isAgg28 Tryz.sizeOf28 X)<|zm st21 X X X Tryz.call15 X (zam st21.sub (t := t) (t_f0.up ((le4.trans le10).trans le16)) (x := x) (x_f0.up ((le4.trans le10).trans le16)) (x_f1.up ((le4.trans le10).trans le16))) ?_
 intro r22 w23 h24 le25 st26 q27
 obtain rfl := q27
 refine Y X X (zx X)<|U<|M<|zd<|O<|Y X X (zo X)<|Y X X (r_neq X X)<|U<|M ?_
 refine zt rfl (fun c28 => ?_) (fun c28 => ?_)
 ·
  replace c28 := of_decide_eq_true c28
  refine zd<|O<|Y X X (r_build (cs := [(.slice none 0 0), (.slice none 0 0)]) t_kr)<|Y X X (zo X)<|zB st26 (k := 0) X X X (zg X (zg X zU)) Tryz.sizeOf28 X X X ?_
  intro w29 st30
  refine Y X X (zx X)<|U<|M<|zA<|zk<|zao Tryz.results25 X Tryz.isAgg28 Tryz.sizeOf28 X (st30.get (k := 0) X) ?_
  refine ⟨h24, _, rfl, st30.done, ?_⟩
  refine ⟨_, _, tup2 ?_ (zW ?_), Sl.to (Sl.nil _ _) ?_, Sl.to (Sl.nil _ _) ?_⟩
  all_goals (obtain ⟨q1, q2⟩ := addE_bad (d := d) c28)
  ·rfl
  ·exact q1.symm
  ·rw [q2]; rfl
  ·rw [q2]; rfl
 ·
  replace c28 := of_decide_eq_false c28
  refine zz<|M<|zd<|zd ?_
  have hx0 : checkN t x = 0 := by simpa using c28
  have hdl := lexicon_20 hx0
  have hrl := lexicon_12 hx0
  refine O<|Y X X (zc X Tryz.underlying28 X Tryz.sizeOf26 X)<|Y X X (zb (j := 1) st26.sub (hc11.up (le16.trans le25)) X X X Tryz.isAgg26)<|Y X X (zag (x_f1.up (((le4.trans le10).trans le16).trans le25)) X Tryz.underlying26)<|Y X X (r_eql X X)<|U<|M ?_
  refine zt rfl (fun c31 => ?_) (fun c31 => ?_)
  ·
   replace c31 := of_decide_eq_true c31
   refine zd<|O<|Y X X (r_build (cs := [(.slice none 0 0), (.slice none 0 0)]) t_kr)<|zB st26 (k := 0) X X X (zg X (zg X zU)) Tryz.sizeOf28 X X X ?_
   intro w32 st33
   refine Y X X (zx X)<|U<|M<|zA<|zk<|zao Tryz.results25 X Tryz.isAgg28 Tryz.sizeOf28 X (st33.get (k := 0) X) ?_
   refine ⟨h24, _, rfl, st33.done, ?_⟩
   refine ⟨_, _, tup2 ?_ (zW ?_), Sl.to (Sl.nil _ _) ?_, Sl.to (Sl.nil _ _) ?_⟩
   all_goals (obtain ⟨q1, q2⟩ := addE_full (d := d) hx0 (by have q := c31; omega))
   ·rfl
   ·exact q1.symm
   ·rw [q2]; rfl
   ·rw [q2]; rfl
  ·
   replace c31 := of_decide_eq_false c31
   refine zz<|M<|zd<|O<|Y X X (zf st26.sub (hc11.up (le16.trans le25)) X Tryz.isAgg28 Tryz.sizeOf28 X) ?_
   refine zad rfl rfl (zaj rfl Tryz.call9 rfl) ((c_postilref04_Twin_own st26.sub (x := x) (x_f0.up (((le4.trans le10).trans le16).trans le25)) (x_f1.up (((le4.trans le10).trans le16).trans le25)) (by omega)).mono ?_)
   rintro _ w34 ⟨h35, v39, v42, o40, o43, rfl, le36, s38, f41, f44⟩
   refine ⟨_, rfl, ?_⟩
   have st37 := st26.call s38
   refine zO st37 Tryz.zeroValue28 X X ?_
   intro b45 w46 st47
   refine zB st47 (k := 3) X X X (zg f41.one (zg f44.one zU)) Tryz.sizeOf28 X X X ?_
   intro w48 st49
   refine U<|M<|zd<|O<|Y X X (zc X Tryz.underlying28 X Tryz.sizeOf26 X)<|Y X X (zaq (st49.get (k := 3) X) X X Tryz.isAgg26)<|Y X X (zf st49.sub (hc17.up (le25.trans le36)) X Tryz.isAgg56 Tryz.sizeOf56 X)<|zV (L := LDecision) (xs := [d]) (cs := [.int .i64 (d.number), .int .u8 (d.kind), strV (d.form), .int .i64 (d.at_.chapter), .int .i64 (d.at_.line), .int .i64 (d.at_.word), strV (d.to.stem), .int .u8 (d.to.mark), .int .i64 (d.of_)]) st49 (Enc.cons (L := LDecision) (vs := [.int .i64 (d.number), .int .u8 (d.kind), strV (d.form), .int .i64 (d.at_.chapter), .int .i64 (d.at_.line), .int .i64 (d.at_.word), strV (d.to.stem), .int .u8 (d.to.mark), .int .i64 (d.of_)]) (x := d) (h := h35) (⟨rfl, t_u8, zZ, zZ, t_u8⟩) Enc.nil) X X X Tryz.underlying26 Tryz.info56 X X X t_kr ?_
   intro v50 w51 h54 le55 f52 st53
   refine zP (k := 2) (nb := 88) st53 (f44.up le55) rfl f52 rfl rfl rfl Tryz.underlying26 Tryz.info56 rfl rfl rfl (by decide) rfl (by first | omega | (simp only [List.length_append, List.length_cons, List.length_nil]; omega)) (by first | omega | (simp only [List.length_append, List.length_cons, List.length_nil]; omega)) ?_
   intro v56 o57 w58 _ e59 f60 st61
   subst e59
   refine Y X X (zc X Tryz.underlying28 X Tryz.sizeOf26 X)<|zas st61 (k := 3) X X (v := v56) X f60.one Tryz.sizeOf26 X X X ?_
   intro w62 st63
   refine U<|M<|zd<|zd<|O<|Y X X (zf st63.sub (hc5.up ((((le10.trans le16).trans le25).trans le36).trans le55)) X Tryz.isAgg24 Tryz.sizeOf24 X)<|Y X X (r_load_ball (st63.get (k := 3) X) X Tryz.isAgg28 Tryz.sizeOf28 X) ?_
   have ha64 := heapOf_le st63.sub
   have f65 := (OSl.whole (k := 1) st63 (f41.up le55) rfl t_om).2
   have f66 := (OSl.whole (k := 2) st63 f60 rfl t_om).2
   refine zm st63 X X X Tryz.call55 X (Rets.thaw st63.sub (c_postilref04_Lexicon (heapOf_sub _) (t := t) (t_f0.up ((((((le4.trans le10).trans le16).trans le25).trans le36).trans le55).trans ha64)) (x := (Lexicon.mk (((x)).rules) ((((x)).decisions) ++ [d]))) f65 f66)) ?_
   intro r67 w68 h69 le70 st71 q72
   obtain rfl := q72
   refine Y X X (r_not X)<|U<|M ?_
   refine zt rfl (fun c73 => ?_) (fun c73 => ?_)
   ·
    refine zd<|O<|Y X X (r_build (cs := [(.slice none 0 0), (.slice none 0 0)]) t_kr)<|zB st71 (k := 0) X X X (zg X (zg X zU)) Tryz.sizeOf28 X X X ?_
    intro w74 st75
    refine Y X X (zx X)<|U<|M<|zA<|zk<|zao Tryz.results25 X Tryz.isAgg28 Tryz.sizeOf28 X (st75.get (k := 0) X) ?_
    refine ⟨h69, _, rfl, st75.done, ?_⟩
    refine ⟨_, _, tup2 ?_ (zW ?_), Sl.to (Sl.nil _ _) ?_, Sl.to (Sl.nil _ _) ?_⟩
    all_goals (obtain ⟨q1, q2⟩ := addE_err (d := d) hx0 (by have q := c31; omega) (more_bad (check_text hx0) (by simpa [moreX] using c73)))
    ·rfl
    ·exact q1.symm
    ·rw [q2]; rfl
    ·rw [q2]; rfl
   ·
    refine zz<|M<|zd<|zd ?_
    have hx1 : checkN t (moreX x d) = 0 := more_ok (check_text hx0) (by simpa [moreX] using c73)
    have hml : (x.decisions ++ [d]).length = x.decisions.length + 1 := by simp
    refine O<|Y X X (zx X)<|U<|M<|zF ?_
    refine zX [10, 11, 12, 38, 39, 40, 41, 42, 43, 44, 45, 46, 47, 48, 49, 50, 51, 52, 53, 54, 55, 56, 57, 58, 59, 60, 61, 62, 63, 64, 65, 66, 67, 68, 69, 70, 71, 72, 73, 74, 75, 76, 77, 78, 79, 80, 81, 82, 83, 84, 85, 86] (G := Nat × List Decision × List (Nat × Obj) × Heap) (fun ⟨i, ds, o_k2, h76⟩ => [(10, .int .i64 (i : Int))]) (fun ⟨i, ds, o_k2, h76⟩ w' => Le h69 h76 ∧ St h w h76 w' [[(b19, .cells (List.toArray [(.slice none 0 0), (.slice none 0 0)]) 28)], o40, o_k2, [(b45, .cells (List.toArray [v39, v56]) 28)]] ∧ (OSl LDecision 56 h76 v56 (ds) o_k2) ∧ (1 ≤ i ∧ i ≤ ds.length) ∧ (ds.Perm (x.decisions ++ [d])) ∧ (sortedTo ds i)) (fun ⟨i, ds, o_k2, h76⟩ => ds.length - i) ⟨1, (x.decisions ++ [d]), o57, h69⟩ ⟨rfl, trivial⟩ ⟨Le.refl _, st71, (OSl.to (f60.up le70) (by rfl)), (by exact ⟨by omega, by omega⟩), (by exact List.Perm.refl _), (by exact sorted_one _)⟩ ?_
    rintro ⟨i, ds, o_k2, h76⟩ _ w79 ⟨le77, st78, hO_k2, hi, hdp, hso⟩
    have hdsl := hdp.length_eq
    refine zd<|zd<|O<|Y X X (zo X)<|Y X X (zc X Tryz.underlying28 X Tryz.sizeOf26 X)<|Y X X (zaq (st78.get (k := 3) X) X X Tryz.isAgg26)<|Y X X (r_len_own hO_k2 X Tryz.underlying26)<|Y X X (zal X X)<|U<|M ?_
    refine zt rfl (fun c80 => ?_) (fun c80 => ?_)
    ·
     replace c80 := of_decide_eq_true c80
     refine zz<|M<|zd<|zF<|zd ?_
     obtain ⟨y, hy⟩ : ∃ y, (ds)[i]? = some y := ⟨_, List.getElem?_eq_getElem (by omega)⟩
     refine O<|Y X X (zo X)<|Y X X (zx X)<|U<|M<|zF ?_
     refine zX [11, 12, 46, 47, 48, 49, 50, 51, 52, 53, 54, 55, 56, 57, 58, 59, 60, 61, 62, 63, 64, 65, 66, 67, 68, 69, 70, 71, 72, 73, 74, 75, 76, 77, 78, 79, 80, 81, 82, 83, 84, 85, 86] (G := Nat × List (Nat × Obj) × Heap) (fun ⟨k, o_k2, h81⟩ => [(11, .int .i64 (k : Int))]) (fun ⟨k, o_k2, h81⟩ w' => Le h76 h81 ∧ St h w h81 w' [[(b19, .cells (List.toArray [(.slice none 0 0), (.slice none 0 0)]) 28)], o40, o_k2, [(b45, .cells (List.toArray [v39, v56]) 28)]] ∧ (OSl LDecision 56 h81 v56 (insK ds i k y) o_k2) ∧ (k ≤ i) ∧ (∀ z ∈ (ds.take i).drop k, y.number < z.number)) (fun ⟨k, o_k2, h81⟩ => k) ⟨i, o_k2, h76⟩ ⟨rfl, trivial⟩ ⟨Le.refl _, st78, (OSl.to hO_k2 (by exact (insK_start hy).symm)), zak, (by rw [List.drop_eq_nil_of_le (by rw [List.length_take]; omega)]; simp)⟩ ?_
     rintro ⟨k, o_k2, h81⟩ _ w84 ⟨le82, st83, hO_k2, hk, hg⟩
     have hil := insK_len hy hk
     refine zd<|zd<|zai Tryz.mixed t_kr (Cls h81 _) (Cls.drew st83)<|ze X X (fun _ _ => (zo X))<|ze X X (fun _ _ => (r_gtr X X))<|ze X X (fun _ _ => (zN X)) ?_
     refine OpsQ.split (d := 48) rfl (fun g85 => ?_) (fun g85 => ?_)
     ·
      replace g85 := of_decide_eq_true g85
      refine zq X X (d := 48) X<|ze X X (fun _ _ => (zc X Tryz.underlying28 X Tryz.sizeOf26 X))<|zq X X (d := 48) X<|ze X X (fun _ hC => (zaq (hC.block (st83.get (k := 3) X)) X X Tryz.isAgg26))<|zq X X (d := 48) X<|ze X X (fun _ _ => (zo X))<|zq X X (d := 48) X<|ze X X (fun _ _ => (r_sub X X t_om))<|zq X X (d := 48) X ?_
      have hz : ∃ y_, (insK ds i k y)[k - 1]? = some y_ := ⟨_, List.getElem?_eq_getElem (by rw [insK_len hy hk]; omega)⟩
      obtain ⟨z, hz⟩ := hz
      obtain ⟨b86, o87, cur88, _, e91, he89, hr_z, hc90⟩ := OSl.elem hO_k2 hz
      subst e91
      obtain ⟨rfl, lu92, ls93, ls94, lu95⟩ := hr_z
      simp only [big] at ls93
      simp only [big] at ls94
      refine ze rfl rfl (fun _ _ => (zp he89 rfl rfl (hk := (show _ = ((k - 1 : Nat) : Int) by omega)) (hu := Tryz.underlying26) (hz := Tryz.sizeOf56))) ?_
      refine zq X X (d := 48) X<|ze X X (fun _ _ => (zc X Tryz.underlying56 X Tryz.sizeOf3 X))<|zq X X (d := 48) X<|ze X X (fun _ hC => (r_load_cur1 (j := 0) (hC.block (st83.get (k := 2) X)) hc90 X X X Tryz.isAgg3))<|zq X X (d := 48) X<|ze X X (fun _ _ => (zc X Tryz.underlying28 X Tryz.sizeOf26 X))<|zq X X (d := 48) X<|ze X X (fun _ hC => (zaq (hC.block (st83.get (k := 3) X)) X X Tryz.isAgg26))<|zq X X (d := 48) X<|ze X X (fun _ _ => (zo X))<|zq X X (d := 48) X ?_
      have hy2 : ∃ y_, (insK ds i k y)[k]? = some y_ := ⟨_, List.getElem?_eq_getElem (by rw [insK_len hy hk]; omega)⟩
      obtain ⟨y2, hy2⟩ := hy2
      obtain ⟨b96, o97, cur98, _, e101, he99, hr_y2, hc100⟩ := OSl.elem hO_k2 hy2
      obtain ⟨hb102, hc103⟩ : b86 = b96 ∧ cur88 = cur98 := by cases e101; exact ⟨rfl, rfl⟩
      subst hb102
      subst hc103
      obtain ⟨rfl, lu104, ls105, ls106, lu107⟩ := hr_y2
      simp only [big] at ls105
      simp only [big] at ls106
      refine ze X X (fun _ _ => (zp he99 X X (hk := X) (hu := Tryz.underlying26) (hz := Tryz.sizeOf56)))<|zq X X (d := 48) X<|ze X X (fun _ _ => (zc X Tryz.underlying56 X Tryz.sizeOf3 X))<|zq X X (d := 48) X<|ze X X (fun _ hC => (r_load_cur1 (j := 0) (hC.block (st83.get (k := 2) X)) hc100 X X X Tryz.isAgg3))<|zq X X (d := 48) X<|ze X X (fun _ _ => (r_gtr X X))<|ze X X (fun _ _ => (zK (v := (.bool _)) X X))<|zac ?_
      rintro w108 ⟨h109, s110⟩
      have st111 := st83.call0 s110
      refine M ?_
      refine zt rfl (fun c112 => ?_) (fun c112 => ?_)
      ·
       replace c112 := of_decide_eq_true c112
       refine zz<|M<|zd<|zF<|zd<|O<|Y X X (zc X Tryz.underlying28 X Tryz.sizeOf26 X)<|Y X X (zaq (st111.get (k := 3) X) X X Tryz.isAgg26)<|Y X X (zo X) ?_
       obtain ⟨b113, o114, cur115, _, e118, he116, hr_y2, hc117⟩ := OSl.elem (hO_k2.up s110.le) hy2
       obtain ⟨hb119, hc120⟩ : b86 = b113 ∧ cur88 = cur115 := by cases e118; exact ⟨rfl, rfl⟩
       subst hb119
       subst hc120
       obtain ⟨rfl, lu121, ls122, ls123, lu124⟩ := hr_y2
       simp only [big] at ls122
       simp only [big] at ls123
       refine Y X X (zp he116 X X (hk := X) (hu := Tryz.underlying26) (hz := Tryz.sizeOf56))<|Y X X (r_load_curN (st111.get (k := 2) X) hc117 X Tryz.isAgg56 Tryz.sizeOf56 X)<|zO st111 Tryz.zeroValue56 X X ?_
       intro b125 w126 st127
       refine zB st127 (k := 4) X X X (zg X (zg X (zg X (zg X (zg X (zg X (zg X (zg X (zg X zU))))))))) Tryz.sizeOf56 X X X ?_
       intro w128 st129
       obtain ⟨h130, le131, hb132, st134⟩ := st129.freeze (k := 4) rfl
       have hc133 := Cells.of hb132
       refine U<|M<|zd ?_
       obtain ⟨b135, o136, cur137, _, e140, he138, hr_z, hc139⟩ := OSl.elem (hO_k2.up (s110.le.trans le131)) hz
       obtain ⟨hb141, hc142⟩ : b86 = b135 ∧ cur88 = cur137 := by cases e140; exact ⟨rfl, rfl⟩
       subst hb141
       subst hc142
       obtain ⟨rfl, lu143, ls144, ls145, lu146⟩ := hr_z
       simp only [big] at ls144
       simp only [big] at ls145
       obtain ⟨b147, o148, cur149, _, e152, he150, hr_y2, hc151⟩ := OSl.elem (hO_k2.up (s110.le.trans le131)) hy2
       obtain ⟨hb153, hc154⟩ : b86 = b147 ∧ cur88 = cur149 := by cases e152; exact ⟨rfl, rfl⟩
       subst hb153
       subst hc154
       obtain ⟨rfl, lu155, ls156, ls157, lu158⟩ := hr_y2
       simp only [big] at ls156
       simp only [big] at ls157
       refine zaa (er := ([1, 4, 8], [], [], [], 0)) (dsts := [71, 72, 73, 74, 75, 76, 77, 78, 79, 80]) st134 Tryz.mixed<|zh 0 [] X t_kr t_kr X X (fun hD wD τD hL hS hO  => (zc X Tryz.underlying28 X Tryz.sizeOf26 X))<|zh 1 [0] X t_kr t_kr X X (fun hD wD τD hL hS hO _ _ => (zaq ((hO X).get (k := 3) X) X X Tryz.isAgg26))<|zh 2 [] X t_kr t_kr X X (fun hD wD τD hL hS hO  => (zo X))<|zh 3 [] X t_kr t_kr X X (fun hD wD τD hL hS hO  => (zc X Tryz.underlying28 X Tryz.sizeOf26 X))<|zh 4 [0] X t_kr t_kr X X (fun hD wD τD hL hS hO _ _ => (zaq ((hO X).get (k := 3) X) X X Tryz.isAgg26))<|zh 5 [] X t_kr t_kr X X (fun hD wD τD hL hS hO  => (zo X))<|zh 6 [0] X t_kr t_kr X X (fun hD wD τD hL hS hO _ _ => (r_sub X X t_om)) ?_
       refine zh 7 [2, 0] rfl t_kr t_kr rfl rfl (fun hD wD τD hL hS hO _ _ _ _ => (zp he138 rfl rfl (hk := (show _ = ((k - 1 : Nat) : Int) by omega)) (hu := Tryz.underlying26) (hz := Tryz.sizeOf56))) ?_
       refine zh 8 [0] X t_kr t_kr X X (fun hD wD τD hL hS hO _ _ => (r_load_curN ((hO X).get (k := 2) X) hc139 X Tryz.isAgg56 Tryz.sizeOf56 X))<|zh 9 [8, 7, 6, 5, 4, 3, 2, 1, 0] X t_kr t_kr X X (fun hD wD τD hL hS hO _ _ _ _ _ _ _ _ _ _ _ _ _ _ _ _ _ _ => (zp he150 X X (hk := X) (hu := Tryz.underlying26) (hz := Tryz.sizeOf56)))<|zaf<|zan X X X X X X ⟨t_kr, X, t_kr, X, t_kr, X, X, t_kr, (zY X cx_nil)⟩ ?_
       intro hE160 w161 _ le162 st163 _ _ _ _ _ _ _ _ _ _ _ _ _ _ _ _ _ _ _ _
       refine OpsL.storeEl (k := 2) st163 (hO_k2.up ((s110.le.trans le131).trans le162)) rfl (by rw [insK_len hy hk]; omega) he150 rfl rfl (⟨rfl, t_u8, zZ, zZ, t_u8⟩) Tryz.sizeOf56 ?_
       intro o164 w165 _ e166 f167 st168
       subst e166
       refine U ⟨undef, rfl, _, _, Le.refl _, st168, ?_⟩
       intro hE169 w170 _ le171 st172 _ _ _ _ _ _ _ _ _ _ _ _ _ _ _ _ _ _ _ _
       refine AllDeps.fin X<|M<|O<|Y X X (zc X Tryz.underlying28 X Tryz.sizeOf26 X)<|Y X X (zaq (st172.get (k := 3) X) X X Tryz.isAgg26)<|Y X X (zo X)<|Y X X (r_sub X X t_om)<|Y X X (zf st172.sub (hc133.up (le162.trans le171)) X Tryz.isAgg56 Tryz.sizeOf56 X) ?_
       have hz2 : ∃ y_, (((insK ds i k y).set k z))[k - 1]? = some y_ := ⟨_, List.getElem?_eq_getElem (by rw [List.length_set, insK_len hy hk]; omega)⟩
       obtain ⟨z2, hz2⟩ := hz2
       obtain ⟨b174, o175, cur176, _, e179, he177, hr_z2, hc178⟩ := OSl.elem (f167.up le171) hz2
       subst e179
       obtain ⟨rfl, lu180, ls181, ls182, lu183⟩ := hr_z2
       simp only [big] at ls181
       simp only [big] at ls182
       refine Y rfl rfl (zp he177 rfl rfl (hk := (show _ = ((k - 1 : Nat) : Int) by omega)) (hu := Tryz.underlying26) (hz := Tryz.sizeOf56)) ?_
       refine OpsL.storeEl (k := 2) st172 (f167.up le171) rfl (by rw [List.length_set, insK_len hy hk]; omega) he177 rfl rfl (⟨rfl, t_u8, zZ, zZ, t_u8⟩) Tryz.sizeOf56 ?_
       intro o184 w185 _ e186 f187 st188
       subst e186
       refine U<|zI<|M<|O<|Y X X (zo X)<|Y X X (r_sub X X t_om)<|Y X X (zx X)<|U<|M ?_
       have hz3 : ds[k - 1]? = some z := (insK_pred hy hk (by omega)).symm.trans hz
       have e2 : y2 = y := Option.some.inj (hy2.symm.trans (insK_at hy hk))
       refine ⟨⟨k - 1, o184, hE169⟩, ⟨?_, trivial⟩, ?_, ⟨((((le82.trans s110.le).trans le131).trans le162).trans le171), st188.take 4, ?_, ?_, ?_⟩, ?_⟩
       ·exact zW (by omega)
       ·exact zae
       ·refine OSl.to f187 ?_
        rw [e2]; exact insK_step hy hk (by omega) hz3
       ·first | omega | (simp; omega)
       ·exact insK_gt hk (by omega) hz3 (by have q := c112; rw [e2] at q; omega) hg
       ·show ((k - 1)) < k
        omega
      ·
       replace c112 := of_decide_eq_false c112
       refine zab<|zn<|zn<|zT<|zI<|M<|O<|Y X X (zo X)<|Y X X (zah X X t_om)<|Y X X (zx X)<|U<|M ?_
       have hz3 : ds[k - 1]? = some z := (insK_pred hy hk (by omega)).symm.trans hz
       have e2 : y2 = y := Option.some.inj (hy2.symm.trans (insK_at hy hk))
       refine ⟨⟨i + 1, insK ds i k y, [(b86, .cells cur88 56)], h109⟩, ⟨rfl, trivial⟩, ?_, ⟨((le77.trans le82).trans s110.le), st111, ?_, ?_, ?_, ?_⟩, ?_⟩
       ·exact zae
       ·refine OSl.to (hO_k2.up s110.le) ?_
        rfl
       ·rw [insK_len hy hk]; exact ⟨by omega, by omega⟩
       ·exact (insK_perm hy hk).trans hdp
       ·exact insK_sorted hy hk hso hg (by intro h0 z0 hz0; rw [hz3] at hz0; cases hz0; have q := c112; rw [e2] at q; omega)
       ·show ((insK ds i k y)).length - ((i + 1)) < ds.length - i
        have := insK_len hy hk; omega
     ·
      replace g85 := of_decide_eq_false g85
      refine zj X X (d := 48) X X X<|zj X X (d := 48) X X X<|zj X X (d := 48) X X X<|zj X X (d := 48) X X X<|zj X X (d := 48) X X X<|zj X X (d := 48) X X X<|zj X X (d := 48) X X X<|zj X X (d := 48) X X X<|zj X X (d := 48) X X X<|zj X X (d := 48) X X X<|zj X X (d := 48) X X X<|zj X X (d := 48) X X X<|zj X X (d := 48) X X X<|zj X X (d := 48) X X X<|ze X X (fun _ _ => (zC (v := (.bool _)) X X))<|zac ?_
      rintro w189 ⟨h190, s191⟩
      have st192 := st83.call0 s191
      refine M ?_
      refine zt rfl (fun c193 => ?_) (fun c193 => ?_)
      ·
       cases c193
      ·
       refine zab<|zn<|zn<|zT<|zI<|M<|O<|Y X X (zo X)<|Y X X (zah X X t_om)<|Y X X (zx X)<|U<|M ?_
       refine ⟨⟨i + 1, insK ds i k y, o_k2, h190⟩, ⟨rfl, trivial⟩, ?_, ⟨((le77.trans le82).trans s191.le), st192, ?_, ?_, ?_, ?_⟩, ?_⟩
       ·exact zae
       ·refine OSl.to (hO_k2.up s191.le) ?_
        rfl
       ·rw [insK_len hy hk]; exact ⟨by omega, by omega⟩
       ·exact (insK_perm hy hk).trans hdp
       ·exact insK_sorted hy hk hso hg (by intro h0; omega)
       ·show ((insK ds i k y)).length - ((i + 1)) < ds.length - i
        have := insK_len hy hk; omega
    ·
     replace c80 := of_decide_eq_false c80
     refine zab<|zn<|zn<|zT<|M<|zd<|O<|Y X X (r_load_ball (st78.get (k := 3) X) X Tryz.isAgg28 Tryz.sizeOf28 X)<|zB st78 (k := 0) X X X (zg f41.one (zg hO_k2.one zU)) Tryz.sizeOf28 X X X ?_
     intro w194 st195
     refine Y X X (zx X)<|U<|M<|zA<|zao Tryz.results25 X Tryz.isAgg28 Tryz.sizeOf28 X (st195.get (k := 0) X) ?_
     obtain ⟨h196, le197, f198, st199⟩ := OSl.freeze (k := 1) st195 (f41.up ((le55.trans le70).trans le77)) rfl t_om
     obtain ⟨h200, le201, f202, st203⟩ := OSl.freeze (k := 2) st199 (hO_k2.up le197) rfl t_om
     refine ⟨h200, _, rfl, st203.done, ?_⟩
     refine ⟨_, _, tup2 ?_ (zW ?_), Sl.to (f198.up le201) ?_, Sl.to f202 ?_⟩
     all_goals (obtain ⟨q1, q2⟩ := addE_ok (d := d) hx0 (by have q := c31; omega) hx1)
     ·rfl
     ·exact q1.symm
     ·rw [q2]; rfl
     ·rw [q2]; exact ascD_of hdp hso (by omega) (okD_of hx1).1
set_option maxRecDepth 4000 in
theorem c_postilref04_Changes {h : Heap} {w : World} (hs : Sub h w) {t : Text} {t_v0 : Value} (t_f0 : Sl LChapter h t_v0 t.chapters) {x : Lexicon} {x_v0 : Value} (x_f0 : Sl LRule h x_v0 x.rules) {x_v1 : Value} (x_f1 : Sl LDecision h x_v1 x.decisions) {d : Decision} (d_l2 : 0 ≤ d.kind ∧ d.kind ≤ 255) (d_l3 : d.form.length ≤ 281474976710656) (d_l7 : d.to.stem.length ≤ 281474976710656) (d_l8 : 0 ≤ d.to.mark ∧ d.to.mark ≤ 255) : Calls Tryz.prog 27 #[.agg #[t_v0], .agg #[x_v0, x_v1], .agg #[.int .i64 d.number, .int .u8 d.kind, strV d.form, .int .i64 d.at_.chapter, .int .i64 d.at_.line, .int .i64 d.at_.word, strV d.to.stem, .int .u8 d.to.mark, .int .i64 d.of_]] w (Rets h w (fun h' _ res_ => ∃ u0, res_ = .tuple #[u0, .int .i64 (addE t x d)] ∧ Sl LPlace h' u0 ((changesR t x d)))) := by
 refine zM (n := 56) (args := [.agg #[t_v0], .agg #[x_v0, x_v1], .agg #[.int .i64 d.number, .int .u8 d.kind, strV d.form, .int .i64 d.at_.chapter, .int .i64 d.at_.line, .int .i64 d.at_.word, strV d.to.stem, .int .u8 d.to.mark, .int .i64 d.of_]]) Tryz.func27 X X X ?_
 have st0 : St h w h w [] := St.start hs
 have t_f0_b := t_f0.le
 have x_f0_b := x_f0.le
 have x_f1_b := x_f1.le
 refine zd<|O<|zr st0 (cs := [t_v0]) X X X ?_
 intro b1 w2 h3 le4 hc5 st6
 refine zr st6 (cs := [x_v0, x_v1]) X X X ?_
 intro b7 w8 h9 le10 hc11 st12
 refine zr st12 (cs := [.int .i64 (d.number), .int .u8 (d.kind), strV (d.form), .int .i64 (d.at_.chapter), .int .i64 (d.at_.line), .int .i64 (d.at_.word), strV (d.to.stem), .int .u8 (d.to.mark), .int .i64 (d.of_)]) X X X ?_
 intro b13 w14 h15 le16 hc17 st18
 refine Y X X (r_asL X)<|Y X X (zx X)<|U<|M<|zd<|O<|Y X X (zf st18.sub (hc5.up (le10.trans le16)) X Tryz.isAgg24 Tryz.sizeOf24 X)<|Y X X (zf st18.sub (hc11.up le16) X Tryz.isAgg28 Tryz.sizeOf28 X)<|Y X X (zf st18.sub hc17 X Tryz.isAgg56 Tryz.sizeOf56 X)<|zm st18 X X X Tryz.call25 X (c_postilref04_Add st18.sub (t := t) (t_f0.up ((le4.trans le10).trans le16)) (x := x) (x_f0.up ((le4.trans le10).trans le16)) (x_f1.up ((le4.trans le10).trans le16)) (d := d) t_u8 zZ zZ t_u8) ?_
 intro r19 w20 h21 le22 st23 q24
 obtain ⟨v25, v27, rfl, f26, f28⟩ := q24
 have f26_b := f26.le
 have f28_b := f28.le
 refine Y X X (r_mvT X)<|Y X X (zH (v := (.agg (List.toArray _))) X X)<|Y X X (zH (v := (.int _ _)) X X)<|zO st23 Tryz.zeroValue28 X X ?_
 intro b29 w30 st31
 refine zB st31 (k := 0) X X X (zg f26.one (zg f28.one zU)) Tryz.sizeOf28 X X X ?_
 intro w32 st33
 obtain ⟨h34, le35, hb36, st38⟩ := st33.freeze (k := 0) rfl
 have hc37 := Cells.of hb36
 refine Y X X (zx X)<|U<|M<|zd<|zd<|O<|Y X X (zo X)<|Y X X (r_neq X X)<|U<|M ?_
 refine zt rfl (fun c39 => ?_) (fun c39 => ?_)
 ·
  replace c39 := of_decide_eq_true c39
  refine zd<|O<|Y X X (zo X)<|Y X X (r_asL X)<|Y X X (zx X)<|U<|M<|zA<|zk<|zS Tryz.results27 ?_
  refine ⟨h34, _, rfl, st38.done, ?_⟩
  refine ⟨_, tup2 rfl (zW ?_), Sl.to (Sl.nil _ _) ?_⟩
  all_goals simp_all [changesR]
 ·
  replace c39 := of_decide_eq_false c39
  refine zz<|M<|zd ?_
  have hz0 : addE t x d = 0 := by simpa using c39
  have han : addN t x d = addX x d := by rw [addN, if_pos hz0]
  have hx0 := (addE_zero hz0).1
  have hx1 := addX_check (addE_zero hz0).2.2
  have hpl := places_len (check_text hx0)
  have hl1 := heads_length t x
  have hl2 := heads_length t (addX x d)
  refine zaa (er := ([], [], [], [], 0)) (dsts := [25, 26, 27, 28, 29, 30, 31, 32, 10, 11, 12]) st38 Tryz.mixed<|zh 0 [] X t_kr t_kr X X (fun hD wD τD hL hS hO  => (zf (hL.sub hS) (hc5.up (((le10.trans le16).trans le22).trans le35)) X Tryz.isAgg24 Tryz.sizeOf24 X)) ?_
  refine zQ 1 (.res (fun h' res_ => Sl LPlace h' res_ ((placesT (t)))) (fun _ _ _ hl f => f.up hl)) [0] rfl t_kr t_kr ?_ ?_
  ·
   intro hD wD τD hL hS hO _ _
   have st40 := St.start hS
   refine zm st40 rfl rfl rfl Tryz.call59 rfl (c_postilref01_All st40.sub (t := t) (t_f0.up (((((le4.trans le10).trans le16).trans le22).trans le35).trans hL)) (by exact check_text hx0)) ?_
   intro r41 w42 h43 le44 st45 q46
   obtain ⟨v47, e49, f48⟩ := q46
   rw [← e49] at f48
   have f48_b := f48.le
   exact U ⟨_, _, rfl, st45, _, rfl, f48⟩
  refine zh 2 [] X t_kr t_kr X X (fun hD wD τD hL hS hO  => (zf (hL.sub hS) (hc5.up (((le10.trans le16).trans le22).trans le35)) X Tryz.isAgg24 Tryz.sizeOf24 X))<|zh 3 [] X t_kr t_kr X X (fun hD wD τD hL hS hO  => (zf (hL.sub hS) (hc11.up ((le16.trans le22).trans le35)) X Tryz.isAgg28 Tryz.sizeOf28 X)) ?_
  refine zQ 4 (.res (fun h' res_ => Sl LHead h' res_ ((headsL (t) (x)))) (fun _ _ _ hl f => f.up hl)) [1, 0, 2] rfl t_kr t_kr ?_ ?_
  ·
   intro hD wD τD hL hS hO _ _ _ _ gv1_0 gf1_0
   have st50 := St.start hS
   refine zm st50 rfl rfl rfl Tryz.call60 rfl (c_postilref04_All st50.sub (t := t) (t_f0.up (((((le4.trans le10).trans le16).trans le22).trans le35).trans hL)) (x := x) (x_f0.up (((((le4.trans le10).trans le16).trans le22).trans le35).trans hL)) (x_f1.up (((((le4.trans le10).trans le16).trans le22).trans le35).trans hL)) (by first | exact hx0 | (rw [han]; exact hx1))) ?_
   intro r51 w52 h53 le54 st55 q56
   obtain ⟨v57, e59, f58⟩ := q56
   rw [← e59] at f58
   have f58_b := f58.le
   exact U ⟨_, _, rfl, st55, _, rfl, f58⟩
  refine zh 5 [] X t_kr t_kr X X (fun hD wD τD hL hS hO  => (zf (hL.sub hS) (hc5.up (((le10.trans le16).trans le22).trans le35)) X Tryz.isAgg24 Tryz.sizeOf24 X))<|zh 6 [] X t_kr t_kr X X (fun hD wD τD hL hS hO  => (zf (hL.sub hS) hc37 X Tryz.isAgg28 Tryz.sizeOf28 X)) ?_
  refine zQ 7 (.res (fun h' res_ => Sl LHead h' res_ ((headsL t (addX x d)))) (fun _ _ _ hl f => f.up hl)) [1, 0, 2] rfl t_kr t_kr ?_ ?_
  ·
   intro hD wD τD hL hS hO _ _ _ _ gv4_0 gf4_0
   have st60 := St.start hS
   refine zm st60 rfl rfl rfl Tryz.call60 rfl (c_postilref04_All st60.sub (t := t) (t_f0.up (((((le4.trans le10).trans le16).trans le22).trans le35).trans hL)) (x := (addN (t) (x) (d))) (f26.up (le35.trans hL)) (f28.up (le35.trans hL)) (by first | exact hx0 | (rw [han]; exact hx1))) ?_
   intro r61 w62 h63 le64 st65 q66
   obtain ⟨v67, e69, f68⟩ := q66
   rw [← e69] at f68
   have f68_b := f68.le
   have f70 := Sl.to f68 (show _ = (headsL t (addX x d)) from by rw [han])
   have f70_b := f70.le
   exact U ⟨_, _, rfl, st65, _, rfl, f70⟩
  refine zQ 8 (.res (fun h' res_ => Sl LPlace h' res_ (((placesT (t))))) (fun _ _ _ hl f => f.up hl)) [0, 7, 6] rfl t_kr t_kr ?_ ?_
  ·
   intro hD wD τD hL hS hO gv7_0 gf7_0 _ _ gv1_0 gf1_0
   have st71 := St.start hS
   refine Y X X (zD (v := gv1_0) X) ?_
   exact U ⟨_, _, rfl, st71, _, rfl, gf1_0⟩
  refine zQ 9 (.res (fun h' res_ => Sl LHead h' res_ (((headsL (t) (x))))) (fun _ _ _ hl f => f.up hl)) [8, 7, 6, 5, 4, 0] rfl t_kr t_kr ?_ ?_
  ·
   intro hD wD τD hL hS hO _ _ gv1_0 gf1_0 _ _ _ _ gv4_0 gf4_0 gv8_0 gf8_0
   have st72 := St.start hS
   refine Y X X (zD (v := gv4_0) X) ?_
   exact U ⟨_, _, rfl, st72, _, rfl, gf4_0⟩
  refine zQ 10 (.res (fun h' res_ => Sl LHead h' res_ (((headsL t (addX x d))))) (fun _ _ _ hl f => f.up hl)) [9, 8, 7, 6, 5, 4, 3, 2, 1, 0] rfl t_kr t_kr ?_ ?_
  ·
   intro hD wD τD hL hS hO _ _ gv1_0 gf1_0 _ _ _ _ gv4_0 gf4_0 _ _ _ _ gv7_0 gf7_0 gv8_0 gf8_0 gv9_0 gf9_0
   have st73 := St.start hS
   refine Y X X (zD (v := gv7_0) X) ?_
   exact U ⟨_, _, rfl, st73, _, rfl, gf7_0⟩
  refine zan X X X X X X ⟨t_kr, X, t_kr, X, t_kr, X, X, t_kr, cx_nil⟩ ?_
  intro hE74 w75 _ le76 st77 _ _ gv1_0x78 gf1_0x78 _ _ _ _ gv4_0x78 gf4_0x78 _ _ _ _ gv7_0x78 gf7_0x78 gv8_0x78 gf8_0x78 gv9_0x78 gf9_0x78 gv10_0x78 gf10_0x78
  refine AllDeps.fin X<|M<|zd<|O<|Y X X (r_asL X)<|U<|M<|zd<|zd<|O<|Y X X (zx X)<|U<|M<|zF ?_
  have st82 := st77.snoc
  have f83 := OSl.nil LPlace 52 hE74
  refine zX [13, 14, 33, 34, 35, 36, 37, 38, 39, 40, 41, 42, 43, 44, 45, 46, 47, 48, 49, 50, 51, 52, 53, 54] (G := Nat × Value × List (Nat × Obj) × Heap) (fun ⟨i, v_13, o_13, h79⟩ => [(13, v_13), (14, .int .i64 (i : Int))]) (fun ⟨i, v_13, o_13, h79⟩ w' => Le hE74 h79 ∧ St h w h79 w' [[], o_13] ∧ (OSl LPlace 52 h79 v_13 (((placesT t).take i).filter fun p => decide (headAt t (addX x d) p ≠ headAt t x p)) o_13) ∧ (i ≤ (placesT t).length)) (fun ⟨i, v_13, o_13, h79⟩ => (placesT t).length - i) ⟨0, (.slice none 0 0), [], hE74⟩ ⟨rfl, rfl, trivial⟩ ⟨Le.refl _, st82, (OSl.to f83 (by rfl)), zak⟩ ?_
  rintro ⟨i, v_13, o_13, h79⟩ _ w84 ⟨le80, st81, hO_13, hi⟩
  refine zd<|zd<|O<|Y X X (zo X)<|Y X X (zy (v := gv8_0x78) X)<|Y X X (zag (gf8_0x78.up le80) X Tryz.underlying63)<|Y X X (zal X X)<|U<|M ?_
  refine zt rfl (fun c85 => ?_) (fun c85 => ?_)
  ·
   replace c85 := of_decide_eq_true c85
   refine zz<|M<|zd<|zF<|zd ?_
   obtain ⟨p, hp⟩ : ∃ y, ((placesT t))[i]? = some y := ⟨_, List.getElem?_eq_getElem (by omega)⟩
   refine zai Tryz.mixed t_kr (Cls h79 _) (Cls.drew st81)<|ze X X (fun _ _ => (zy (v := gv9_0x78) X))<|ze X X (fun _ _ => (zo X)) ?_
   have ha : ∃ y_, ((((headsL (t) (x)))))[i]? = some y_ := ⟨_, List.getElem?_eq_getElem (by omega)⟩
   obtain ⟨a, ha⟩ := ha
   obtain ⟨b86, o87, _, he89, hc88, hr_a⟩ := Sl.elem (gf9_0x78.up le80) ha
   obtain ⟨rfl, ls90, lu91⟩ := hr_a
   simp only [big] at ls90
   refine ze X X (fun _ _ => (zp he89 X X (hk := X) (hu := Tryz.underlying80) (hz := Tryz.sizeOf54)))<|ze X X (fun _ hC => (zf hC.sub hc88 X Tryz.isAgg54 Tryz.sizeOf54 X))<|ze X X (fun _ _ => (zy (v := gv10_0x78) X))<|ze X X (fun _ _ => (zo X)) ?_
   have hb : ∃ y_, ((((headsL t (addX x d)))))[i]? = some y_ := ⟨_, List.getElem?_eq_getElem (by omega)⟩
   obtain ⟨b, hb⟩ := hb
   obtain ⟨b92, o93, _, he95, hc94, hr_b⟩ := Sl.elem (gf10_0x78.up le80) hb
   obtain ⟨rfl, ls96, lu97⟩ := hr_b
   simp only [big] at ls96
   refine ze X X (fun _ _ => (zp he95 X X (hk := X) (hu := Tryz.underlying80) (hz := Tryz.sizeOf54)))<|ze X X (fun _ hC => (zf hC.sub hc94 X Tryz.isAgg54 Tryz.sizeOf54 X))<|ze X X (fun _ _ => (r_stneq X X Tryz.eqGuardType54 (Tryz.eq_Head a b)))<|zac ?_
   rintro w98 ⟨h99, s100⟩
   have st101 := st81.call0 s100
   refine M ?_
   refine zt rfl (fun c102 => ?_) (fun c102 => ?_)
   ·
    replace c102 := of_decide_eq_true c102
    refine O<|Y X X (zy (v := v_13) X)<|Y X X (zy (v := gv8_0x78) X)<|Y X X (zo X) ?_
    obtain ⟨b103, o104, _, he106, hc105, hr_p⟩ := Sl.elem (gf8_0x78.up (le80.trans s100.le)) hp
    obtain rfl := hr_p
    refine Y X X (zp he106 X X (hk := X) (hu := Tryz.underlying63) (hz := Tryz.sizeOf52))<|Y X X (zf st101.sub hc105 X Tryz.isAgg52 Tryz.sizeOf52 X)<|zV (L := LPlace) (xs := [p]) (cs := [.int .i64 (p.chapter), .int .i64 (p.line), .int .i64 (p.word)]) st101 (Enc.cons (L := LPlace) (vs := [.int .i64 (p.chapter), .int .i64 (p.line), .int .i64 (p.word)]) (x := p) (h := h99) (X) Enc.nil) X X X Tryz.underlying63 Tryz.info52 X X X t_kr ?_
    intro v107 w108 h111 le112 f109 st110
    refine zP (k := 1) (nb := 24) st110 (hO_13.up (s100.le.trans le112)) rfl f109 rfl rfl rfl Tryz.underlying63 Tryz.info52 rfl rfl rfl (by decide) rfl (by have q := List.length_filter_le (fun p => decide (headAt t (addX x d) p ≠ headAt t x p)) ((placesT t).take i); rw [List.length_take] at q; first | omega | (simp only [List.length_append, List.length_cons, List.length_nil]; omega)) (by have q := List.length_filter_le (fun p => decide (headAt t (addX x d) p ≠ headAt t x p)) ((placesT t).take i); rw [List.length_take] at q; first | omega | (simp only [List.length_append, List.length_cons, List.length_nil]; omega)) ?_
    intro v113 o114 w115 _ e116 f117 st118
    subst e116
    refine Y X X (zD (v := v113) X)<|U<|zI<|M<|O<|Y X X (zo X)<|Y X X (zah X X t_om)<|Y X X (zx X)<|U<|M ?_
    refine ⟨⟨i + 1, v113, o114, h111⟩, ⟨rfl, rfl, trivial⟩, ?_, ⟨((le80.trans s100.le).trans le112), st118, ?_, ?_⟩, ?_⟩
    ·exact zae
    ·refine OSl.to f117 ?_
     rw [take_snoc hp, List.filter_append, List.filter_cons, if_pos (by rw [← head_pl hp ha, ← head_pl hp hb]; exact decide_eq_true (Ne.symm (by simpa using c102)))]; rfl
    ·first | omega | (simp; omega)
    ·show (placesT t).length - ((i + 1)) < (placesT t).length - i
     omega
   ·
    replace c102 := of_decide_eq_false c102
    refine zz<|zI<|M<|O<|Y X X (zo X)<|Y X X (zah X X t_om)<|Y X X (zx X)<|U<|M ?_
    refine ⟨⟨i + 1, v_13, o_13, h99⟩, ⟨rfl, rfl, trivial⟩, ?_, ⟨(le80.trans s100.le), st101, ?_, ?_⟩, ?_⟩
    ·exact zae
    ·refine OSl.to (hO_13.up s100.le) ?_
     rw [take_snoc hp, List.filter_append, List.filter_cons, if_neg (by rw [← head_pl hp ha, ← head_pl hp hb]; intro e; exact of_decide_eq_true e (by have q := c102; simp at q; exact q.symm))]; simp
    ·first | omega | (simp; omega)
    ·show (placesT t).length - ((i + 1)) < (placesT t).length - i
     omega
  ·
   replace c85 := of_decide_eq_false c85
   refine zab<|zn<|zn<|zT<|M<|zd<|O<|Y X X (zy (v := v_13) X)<|Y X X (zD (v := v_13) X)<|Y X X (zx X)<|U<|M<|zA<|zS Tryz.results27 ?_
   obtain ⟨h119, le120, f121, st122⟩ := OSl.freeze (k := 1) st81 hO_13 rfl (by have q := List.length_filter_le (fun p => decide (headAt t (addX x d) p ≠ headAt t x p)) ((placesT t).take i); rw [List.length_take] at q; first | omega | (simp only [List.length_append, List.length_cons, List.length_nil]; omega))
   refine ⟨h119, _, rfl, st122.done, ?_⟩
   refine ⟨_, tup2 rfl (zW ?_), Sl.to f121 ?_⟩
   ·exact hz0.symm
   ·rw [List.take_of_length_le (by omega), changesR, if_pos hz0]; rfl
end Go.Pk

namespace Go.Pk
open Go Go.RowKit Go.Proofs
set_option maxRecDepth 4000 in
set_option maxHeartbeats 4000000 in
theorem c_postillaw04_StemChanges {h : Heap} {w : World} (hs : Sub h w) {t : Text} {t_v0 : Value} (t_f0 : Sl LChapter h t_v0 t.chapters) {x : Lexicon} {x_v0 : Value} (x_f0 : Sl LRule h x_v0 x.rules) {x_v1 : Value} (x_f1 : Sl LDecision h x_v1 x.decisions) {d : Decision} (d_l2 : 0 ≤ d.kind ∧ d.kind ≤ 255) (d_l3 : d.form.length ≤ 281474976710656) (d_l7 : d.to.stem.length ≤ 281474976710656) (d_l8 : 0 ≤ d.to.mark ∧ d.to.mark ≤ 255) (K0 : Cells h 0 0 Tryz.glob0) : Calls Tryz.prog 4 #[.agg #[t_v0], .agg #[x_v0, x_v1], .agg #[.int .i64 d.number, .int .u8 d.kind, strV d.form, .int .i64 d.at_.chapter, .int .i64 d.at_.line, .int .i64 d.at_.word, strV d.to.stem, .int .u8 d.to.mark, .int .i64 d.of_]] w (Rets h w (fun _ _ res_ => res_ = .bool (true))) := by
 refine zM (n := 176) (args := [.agg #[t_v0], .agg #[x_v0, x_v1], .agg #[.int .i64 d.number, .int .u8 d.kind, strV d.form, .int .i64 d.at_.chapter, .int .i64 d.at_.line, .int .i64 d.at_.word, strV d.to.stem, .int .u8 d.to.mark, .int .i64 d.of_]]) Tryz.func4 X X X ?_
 have st0 : St h w h w [] := St.start hs
 have t_f0_b := t_f0.le
 have x_f0_b := x_f0.le
 have x_f1_b := x_f1.le
 refine zd<|O<|zr st0 (cs := [t_v0]) X X X ?_
 intro b1 w2 h3 le4 hc5 st6
 refine zr st6 (cs := [x_v0, x_v1]) X X X ?_
 intro b7 w8 h9 le10 hc11 st12
 refine zr st12 (cs := [.int .i64 (d.number), .int .u8 (d.kind), strV (d.form), .int .i64 (d.at_.chapter), .int .i64 (d.at_.line), .int .i64 (d.at_.word), strV (d.to.stem), .int .u8 (d.to.mark), .int .i64 (d.of_)]) X X X ?_
 intro b13 w14 h15 le16 hc17 st18
 refine Y X X (zJ X)<|U<|M<|zd<|zd<|O<|Y X X (zf st18.sub (hc5.up (le10.trans le16)) X Tryz.isAgg24 Tryz.sizeOf24 X)<|zm st18 X X X Tryz.call6 X (c_postilref01_Great st18.sub (t := t) (t_f0.up ((le4.trans le10).trans le16))) ?_
 intro r19 w20 h21 le22 st23 q24
 obtain rfl := q24
 refine Y X X (zN X) ?_
 refine zG (d := 30) rfl (fun g25 => ?_) (fun g25 => ?_)
 ·
  refine E X X (d := 30) X X X<|E X X (d := 30) X X X<|Y X X (zK (v := (.bool _)) X X)<|Y X X (zN X)<|E X X (d := 34) X X X<|E X X (d := 34) X X X<|E X X (d := 34) X X X<|E X X (d := 34) X X X<|Y X X (zK (v := (.bool _)) X X)<|Y X X (zN X)<|E X X (d := 40) X X X<|E X X (d := 40) X X X<|E X X (d := 40) X X X<|E X X (d := 40) X X X<|E X X (d := 40) X X X<|Y X X (zK (v := (.bool _)) X X)<|U<|M ?_
  refine zt rfl (fun c26 => ?_) (fun c26 => ?_)
  ·
   refine zd<|O<|Y X X (zJ X)<|U<|M<|zA<|zk<|zi Tryz.results4 ?_
   refine ⟨h21, _, rfl, st23.done, ?_⟩
   refine zw ?_
   simp_all
  ·
   cases c26
 ·
  refine za X X (d := 30) X<|Y X X (zf st23.sub (hc11.up (le16.trans le22)) X Tryz.isAgg28 Tryz.sizeOf28 X)<|za X X (d := 30) X<|zm st23 X X X Tryz.call7 X (c_postilref04_Great st23.sub (x := x) (x_f0.up (((le4.trans le10).trans le16).trans le22)) (x_f1.up (((le4.trans le10).trans le16).trans le22))) ?_
  intro r27 w28 h29 le30 st31 q32
  obtain rfl := q32
  refine Y X X (zC (v := (.bool _)) X X)<|Y X X (zN X) ?_
  refine zG (d := 34) rfl (fun g33 => ?_) (fun g33 => ?_)
  ·
   refine E X X (d := 34) X X X<|E X X (d := 34) X X X<|E X X (d := 34) X X X<|E X X (d := 34) X X X<|Y X X (zK (v := (.bool _)) X X)<|Y X X (zN X)<|E X X (d := 40) X X X<|E X X (d := 40) X X X<|E X X (d := 40) X X X<|E X X (d := 40) X X X<|E X X (d := 40) X X X<|Y X X (zK (v := (.bool _)) X X)<|U<|M ?_
   refine zt rfl (fun c34 => ?_) (fun c34 => ?_)
   ·
    refine zd<|O<|Y X X (zJ X)<|U<|M<|zA<|zk<|zi Tryz.results4 ?_
    refine ⟨h29, _, rfl, st31.done, ?_⟩
    refine zw ?_
    simp_all
   ·
    cases c34
  ·
   refine za X X (d := 34) X<|Y X X (zc X Tryz.underlying56 X Tryz.sizeOf9 X)<|za X X (d := 34) X<|Y X X (zb (j := 2) st31.sub (hc17.up (le22.trans le30)) X X X Tryz.isAgg9)<|za X X (d := 34) X<|Y X X (zar X Tryz.underlying9)<|za X X (d := 34) X<|Y X X (r_gtr X X)<|Y X X (zC (v := (.bool _)) X X)<|Y X X (zN X) ?_
   refine zG (d := 40) rfl (fun g35 => ?_) (fun g35 => ?_)
   ·
    replace g35 := of_decide_eq_true g35
    refine E X X (d := 40) X X X<|E X X (d := 40) X X X<|E X X (d := 40) X X X<|E X X (d := 40) X X X<|E X X (d := 40) X X X<|Y X X (zK (v := (.bool _)) X X)<|U<|M ?_
    refine zt rfl (fun c36 => ?_) (fun c36 => ?_)
    ·
     refine zd<|O<|Y X X (zJ X)<|U<|M<|zA<|zk<|zi Tryz.results4 ?_
     refine ⟨h29, _, rfl, st31.done, ?_⟩
     refine zw ?_
     simp_all
    ·
     cases c36
   ·
    replace g35 := of_decide_eq_false g35
    refine za X X (d := 40) X<|Y X X (zc X Tryz.underlying56 X Tryz.sizeOf54 X)<|za X X (d := 40) X<|Y X X (zc X Tryz.underlying54 X Tryz.sizeOf9 X)<|za X X (d := 40) X<|Y X X (zb (j := 6) st31.sub (hc17.up (le22.trans le30)) X X X Tryz.isAgg9)<|za X X (d := 40) X<|Y X X (zar X Tryz.underlying9)<|za X X (d := 40) X<|Y X X (r_gtr X X)<|Y X X (zC (v := (.bool _)) X X)<|U<|M ?_
    refine zt rfl (fun c37 => ?_) (fun c37 => ?_)
    ·
     replace c37 := of_decide_eq_true c37
     refine zd<|O<|Y X X (zJ X)<|U<|M<|zA<|zk<|zi Tryz.results4 ?_
     refine ⟨h29, _, rfl, st31.done, ?_⟩
     refine zw ?_
     simp_all
    ·
     replace c37 := of_decide_eq_false c37
     refine zz<|M<|zd<|zaa (er := ([], [], [], [], 0)) (dsts := [47, 48, 49, 50, 7, 8]) st31 Tryz.mixed<|zh 0 [] X t_kr t_kr X X (fun hD wD τD hL hS hO  => (zf (hL.sub hS) (hc5.up (((le10.trans le16).trans le22).trans le30)) X Tryz.isAgg24 Tryz.sizeOf24 X)) ?_
     refine zQ 1 (.res (fun h' res_ => ∃ gv1_0, res_ = .agg #[gv1_0] ∧ Sl LChapter h' gv1_0 ((t)).chapters) (by rintro _ _ _ hl ⟨gv1_0, e_, gf1_0⟩; exact ⟨gv1_0, e_, gf1_0.up hl⟩)) [0] rfl t_kr t_kr ?_ ?_
     ·
      intro hD wD τD hL hS hO _ _
      have st38 := St.start hS
      refine zm st38 rfl rfl rfl Tryz.call8 rfl (c_postilref01_Twin st38.sub (t := t) (t_f0.up (((((le4.trans le10).trans le16).trans le22).trans le30).trans hL)) (by simpa using g25)) ?_
      intro r39 w40 h41 le42 st43 q44
      obtain ⟨v45, rfl, f46⟩ := q44
      have f46_b := f46.le
      exact U ⟨_, _, rfl, st43, _, rfl, ⟨_, rfl, f46⟩⟩
     refine zh 2 [] X t_kr t_kr X X (fun hD wD τD hL hS hO  => (zf (hL.sub hS) (hc11.up ((le16.trans le22).trans le30)) X Tryz.isAgg28 Tryz.sizeOf28 X)) ?_
     refine zQ 3 (.res (fun h' res_ => ∃ gv3_0 gv3_1, res_ = .agg #[gv3_0, gv3_1] ∧ Sl LRule h' gv3_0 ((x)).rules ∧ Sl LDecision h' gv3_1 ((x)).decisions) (by rintro _ _ _ hl ⟨gv3_0, gv3_1, e_, gf3_0, gf3_1⟩; exact ⟨gv3_0, gv3_1, e_, gf3_0.up hl, gf3_1.up hl⟩)) [0, 1] rfl t_kr t_kr ?_ ?_
     ·
      intro hD wD τD hL hS hO _ _ gv1_ gf1_
      obtain ⟨gv1_0, rfl, gf1_0⟩ := gf1_
      have st47 := St.start hS
      refine zm st47 rfl rfl rfl Tryz.call9 rfl (c_postilref04_Twin st47.sub (x := x) (x_f0.up (((((le4.trans le10).trans le16).trans le22).trans le30).trans hL)) (x_f1.up (((((le4.trans le10).trans le16).trans le22).trans le30).trans hL)) (by simpa using g33)) ?_
      intro r48 w49 h50 le51 st52 q53
      obtain ⟨v54, v56, rfl, f55, f57⟩ := q53
      have f55_b := f55.le
      have f57_b := f57.le
      exact U ⟨_, _, rfl, st52, _, rfl, ⟨_, _, rfl, f55, f57⟩⟩
     refine Drw.al Tryz.zeroValue24 X<|Drw.al Tryz.zeroValue28 X<|zaf<|zaf<|zan X X X X X X ⟨t_kr, X, t_kr, X, t_kr, X, X, t_kr, (zY X (zY X cx_nil))⟩ ?_
     intro b58
     intro b59
     intro hE61 w62 _ le63 st64 gv3_x60 gf3_x60 _ _ gv1_x60 gf1_x60
     obtain ⟨gv3_0x60, gv3_1x60, rfl, gf3_0x60, gf3_1x60⟩ := gf3_x60
     obtain ⟨gv1_0x60, rfl, gf1_0x60⟩ := gf1_x60
     refine zB st64 (k := 0) X X X (zg gf1_0x60.one zU) Tryz.sizeOf24 X X X ?_
     intro w65 st66
     obtain ⟨h67, le68, hb69, st71⟩ := st66.freeze (k := 0) rfl
     have hc70 := Cells.of hb69
     refine U ⟨undef, rfl, _, _, le68, st71, ?_⟩
     intro hE73 w74 _ le75 st76 _ _ gv1_x72 gf1_x72 _ _ gv3_x72 gf3_x72
     obtain ⟨gv1_0x72, rfl, gf1_0x72⟩ := gf1_x72
     obtain ⟨gv3_0x72, gv3_1x72, rfl, gf3_0x72, gf3_1x72⟩ := gf3_x72
     refine zB st76 (k := 1) X X X (zg gf3_0x72.one (zg gf3_1x72.one zU)) Tryz.sizeOf28 X X X ?_
     intro w77 st78
     obtain ⟨h79, le80, hb81, st83⟩ := st78.freeze (k := 1) rfl
     have hc82 := Cells.of hb81
     refine U ⟨undef, rfl, _, _, le80, st83, ?_⟩
     intro hE84 w85 _ le86 st87 _ _ gv1_x88 gf1_x88 _ _ gv3_x88 gf3_x88
     obtain ⟨gv1_0x88, rfl, gf1_0x88⟩ := gf1_x88
     obtain ⟨gv3_0x88, gv3_1x88, rfl, gf3_0x88, gf3_1x88⟩ := gf3_x88
     refine AllDeps.fin X<|M<|zd<|O<|Y X X (zf st87.sub (hc70.up ((le75.trans le80).trans le86)) X Tryz.isAgg24 Tryz.sizeOf24 X)<|Y X X (zf st87.sub (hc82.up le86) X Tryz.isAgg28 Tryz.sizeOf28 X)<|zm st87 X X X Tryz.call20 X (c_stem_Homographs st87.sub (t := (t)) (gf1_0x60.up (((le68.trans le75).trans le80).trans le86)) (x := (x)) (gf3_0x72.up (le80.trans le86)) (gf3_1x72.up (le80.trans le86)) (K0.up (((((((((le4.trans le10).trans le16).trans le22).trans le30).trans le63).trans le68).trans le75).trans le80).trans le86))) ?_
     intro r89 w90 h91 le92 st93 q94
     obtain ⟨v95, rfl, f96⟩ := q94
     have f96_b := f96.le
     refine Y X X (r_mvT X)<|Y X X (zH (v := v95) X X)<|Y X X (zH (v := (.int _ _)) X X)<|Y X X (zD (v := v95) X)<|Y X X (zx X)<|U<|M<|zd<|O<|Y X X (zf st93.sub (hc5.up (((((((((le10.trans le16).trans le22).trans le30).trans le63).trans le68).trans le75).trans le80).trans le86).trans le92)) X Tryz.isAgg24 Tryz.sizeOf24 X)<|Y X X (zf st93.sub (hc11.up ((((((((le16.trans le22).trans le30).trans le63).trans le68).trans le75).trans le80).trans le86).trans le92)) X Tryz.isAgg28 Tryz.sizeOf28 X)<|zm st93 X X X Tryz.call21 X (c_postilref04_Homographs st93.sub (t := t) (t_f0.up ((((((((((le4.trans le10).trans le16).trans le22).trans le30).trans le63).trans le68).trans le75).trans le80).trans le86).trans le92)) (x := x) (x_f0.up ((((((((((le4.trans le10).trans le16).trans le22).trans le30).trans le63).trans le68).trans le75).trans le80).trans le86).trans le92)) (x_f1.up ((((((((((le4.trans le10).trans le16).trans le22).trans le30).trans le63).trans le68).trans le75).trans le80).trans le86).trans le92))) ?_
     intro r97 w98 h99 le100 st101 q102
     obtain ⟨v103, rfl, f104⟩ := q102
     have f104_b := f104.le
     refine Y X X (r_mvT X)<|Y X X (zH (v := v103) X X)<|Y X X (zH (v := (.int _ _)) X X)<|Y X X (zD (v := v103) X)<|Y X X (zx X)<|U<|M<|zd<|O<|Y X X (zf st101.sub (hc70.up ((((le75.trans le80).trans le86).trans le92).trans le100)) X Tryz.isAgg24 Tryz.sizeOf24 X)<|Y X X (zf st101.sub (hc82.up ((le86.trans le92).trans le100)) X Tryz.isAgg28 Tryz.sizeOf28 X)<|zm st101 X X X Tryz.call22 X (c_stem_Idle st101.sub (t := (t)) (gf1_0x60.up (((((le68.trans le75).trans le80).trans le86).trans le92).trans le100)) (x := (x)) (gf3_0x72.up (((le80.trans le86).trans le92).trans le100)) (gf3_1x72.up (((le80.trans le86).trans le92).trans le100)) (K0.up (((((((((((le4.trans le10).trans le16).trans le22).trans le30).trans le63).trans le68).trans le75).trans le80).trans le86).trans le92).trans le100))) ?_
     intro r105 w106 h107 le108 st109 q110
     obtain ⟨v111, rfl, f112⟩ := q110
     have f112_b := f112.le
     refine Y X X (r_mvT X)<|Y X X (zH (v := v111) X X)<|Y X X (zH (v := (.int _ _)) X X)<|Y X X (zD (v := v111) X)<|Y X X (zx X)<|U<|M<|zd<|O<|Y X X (zf st109.sub (hc5.up (((((((((((le10.trans le16).trans le22).trans le30).trans le63).trans le68).trans le75).trans le80).trans le86).trans le92).trans le100).trans le108)) X Tryz.isAgg24 Tryz.sizeOf24 X)<|Y X X (zf st109.sub (hc11.up ((((((((((le16.trans le22).trans le30).trans le63).trans le68).trans le75).trans le80).trans le86).trans le92).trans le100).trans le108)) X Tryz.isAgg28 Tryz.sizeOf28 X)<|zm st109 X X X Tryz.call23 X (c_postilref04_Idle st109.sub (t := t) (t_f0.up ((((((((((((le4.trans le10).trans le16).trans le22).trans le30).trans le63).trans le68).trans le75).trans le80).trans le86).trans le92).trans le100).trans le108)) (x := x) (x_f0.up ((((((((((((le4.trans le10).trans le16).trans le22).trans le30).trans le63).trans le68).trans le75).trans le80).trans le86).trans le92).trans le100).trans le108)) (x_f1.up ((((((((((((le4.trans le10).trans le16).trans le22).trans le30).trans le63).trans le68).trans le75).trans le80).trans le86).trans le92).trans le100).trans le108))) ?_
     intro r113 w114 h115 le116 st117 q118
     obtain ⟨v119, rfl, f120⟩ := q118
     have f120_b := f120.le
     refine Y X X (r_mvT X)<|Y X X (zH (v := v119) X X)<|Y X X (zH (v := (.int _ _)) X X)<|Y X X (zD (v := v119) X)<|Y X X (zx X)<|U<|M<|zd<|O<|Y X X (zf st117.sub (hc70.up ((((((le75.trans le80).trans le86).trans le92).trans le100).trans le108).trans le116)) X Tryz.isAgg24 Tryz.sizeOf24 X)<|Y X X (zf st117.sub (hc82.up ((((le86.trans le92).trans le100).trans le108).trans le116)) X Tryz.isAgg28 Tryz.sizeOf28 X)<|Y X X (zf st117.sub (hc17.up ((((((((((le22.trans le30).trans le63).trans le68).trans le75).trans le80).trans le86).trans le92).trans le100).trans le108).trans le116)) X Tryz.isAgg56 Tryz.sizeOf56 X) ?_
     refine zad rfl rfl (zaj rfl Tryz.call24 rfl) ((c_stem_Add st117.sub (t := (t)) (gf1_0x60.up (((((((le68.trans le75).trans le80).trans le86).trans le92).trans le100).trans le108).trans le116)) (x := (x)) (gf3_0x72.up (((((le80.trans le86).trans le92).trans le100).trans le108).trans le116)) (gf3_1x72.up (((((le80.trans le86).trans le92).trans le100).trans le108).trans le116)) (d := d) t_u8 zZ zZ t_u8 (K0.up (((((((((((((le4.trans le10).trans le16).trans le22).trans le30).trans le63).trans le68).trans le75).trans le80).trans le86).trans le92).trans le100).trans le108).trans le116))).mono ?_)
     rintro _ w121 ⟨h122, v126, v129, o127, o130, rfl, le123, s125, f128, f131⟩
     refine ⟨_, rfl, ?_⟩
     have st124 := st117.call s125
     refine Y X X (r_mvT X)<|Y X X (zH (v := (.agg (List.toArray _))) X X)<|Y X X (zH (v := (.int _ _)) X X)<|zO st124 Tryz.zeroValue28 X X ?_
     intro b132 w133 st134
     refine zB st134 (k := 4) X X X (zg f128.one (zg f131.one zU)) Tryz.sizeOf28 X X X ?_
     intro w135 st136
     obtain ⟨h137, le138, hb139, st141⟩ := st136.freeze (k := 4) rfl
     have hc140 := Cells.of hb139
     refine Y X X (zx X)<|U<|M<|zd<|O<|Y X X (zf st141.sub (hc5.up ((((((((((((((le10.trans le16).trans le22).trans le30).trans le63).trans le68).trans le75).trans le80).trans le86).trans le92).trans le100).trans le108).trans le116).trans le123).trans le138)) X Tryz.isAgg24 Tryz.sizeOf24 X)<|Y X X (zf st141.sub (hc11.up (((((((((((((le16.trans le22).trans le30).trans le63).trans le68).trans le75).trans le80).trans le86).trans le92).trans le100).trans le108).trans le116).trans le123).trans le138)) X Tryz.isAgg28 Tryz.sizeOf28 X)<|Y X X (zf st141.sub (hc17.up ((((((((((((le22.trans le30).trans le63).trans le68).trans le75).trans le80).trans le86).trans le92).trans le100).trans le108).trans le116).trans le123).trans le138)) X Tryz.isAgg56 Tryz.sizeOf56 X)<|zm st141 X X X Tryz.call25 X (c_postilref04_Add st141.sub (t := t) (t_f0.up (((((((((((((((le4.trans le10).trans le16).trans le22).trans le30).trans le63).trans le68).trans le75).trans le80).trans le86).trans le92).trans le100).trans le108).trans le116).trans le123).trans le138)) (x := x) (x_f0.up (((((((((((((((le4.trans le10).trans le16).trans le22).trans le30).trans le63).trans le68).trans le75).trans le80).trans le86).trans le92).trans le100).trans le108).trans le116).trans le123).trans le138)) (x_f1.up (((((((((((((((le4.trans le10).trans le16).trans le22).trans le30).trans le63).trans le68).trans le75).trans le80).trans le86).trans le92).trans le100).trans le108).trans le116).trans le123).trans le138)) (d := d) t_u8 zZ zZ t_u8) ?_
     intro r142 w143 h144 le145 st146 q147
     obtain ⟨v148, v150, rfl, f149, f151⟩ := q147
     have f149_b := f149.le
     have f151_b := f151.le
     refine Y X X (r_mvT X)<|Y X X (zH (v := (.agg (List.toArray _))) X X)<|Y X X (zH (v := (.int _ _)) X X)<|zO st146 Tryz.zeroValue28 X X ?_
     intro b152 w153 st154
     refine zB st154 (k := 5) X X X (zg f149.one (zg f151.one zU)) Tryz.sizeOf28 X X X ?_
     intro w155 st156
     obtain ⟨h157, le158, hb159, st161⟩ := st156.freeze (k := 5) rfl
     have hc160 := Cells.of hb159
     refine Y X X (zx X)<|U<|M<|zd<|O<|Y X X (zf st161.sub (hc70.up ((((((((((le75.trans le80).trans le86).trans le92).trans le100).trans le108).trans le116).trans le123).trans le138).trans le145).trans le158)) X Tryz.isAgg24 Tryz.sizeOf24 X)<|Y X X (zf st161.sub (hc82.up ((((((((le86.trans le92).trans le100).trans le108).trans le116).trans le123).trans le138).trans le145).trans le158)) X Tryz.isAgg28 Tryz.sizeOf28 X)<|Y X X (zf st161.sub (hc17.up ((((((((((((((le22.trans le30).trans le63).trans le68).trans le75).trans le80).trans le86).trans le92).trans le100).trans le108).trans le116).trans le123).trans le138).trans le145).trans le158)) X Tryz.isAgg56 Tryz.sizeOf56 X)<|zm st161 X X X Tryz.call26 X (c_stem_Changes st161.sub (t := (t)) (gf1_0x60.up (((((((((((le68.trans le75).trans le80).trans le86).trans le92).trans le100).trans le108).trans le116).trans le123).trans le138).trans le145).trans le158)) (x := (x)) (gf3_0x72.up (((((((((le80.trans le86).trans le92).trans le100).trans le108).trans le116).trans le123).trans le138).trans le145).trans le158)) (gf3_1x72.up (((((((((le80.trans le86).trans le92).trans le100).trans le108).trans le116).trans le123).trans le138).trans le145).trans le158)) (d := d) t_u8 zZ zZ t_u8 (K0.up (((((((((((((((((le4.trans le10).trans le16).trans le22).trans le30).trans le63).trans le68).trans le75).trans le80).trans le86).trans le92).trans le100).trans le108).trans le116).trans le123).trans le138).trans le145).trans le158))) ?_
     intro r162 w163 h164 le165 st166 q167
     obtain ⟨v168, rfl, f169⟩ := q167
     have f169_b := f169.le
     refine Y X X (r_mvT X)<|Y X X (zH (v := v168) X X)<|Y X X (zH (v := (.int _ _)) X X)<|Y X X (zD (v := v168) X)<|Y X X (zx X)<|U<|M<|zd<|O<|Y X X (zf st166.sub (hc5.up (((((((((((((((((le10.trans le16).trans le22).trans le30).trans le63).trans le68).trans le75).trans le80).trans le86).trans le92).trans le100).trans le108).trans le116).trans le123).trans le138).trans le145).trans le158).trans le165)) X Tryz.isAgg24 Tryz.sizeOf24 X)<|Y X X (zf st166.sub (hc11.up ((((((((((((((((le16.trans le22).trans le30).trans le63).trans le68).trans le75).trans le80).trans le86).trans le92).trans le100).trans le108).trans le116).trans le123).trans le138).trans le145).trans le158).trans le165)) X Tryz.isAgg28 Tryz.sizeOf28 X)<|Y X X (zf st166.sub (hc17.up (((((((((((((((le22.trans le30).trans le63).trans le68).trans le75).trans le80).trans le86).trans le92).trans le100).trans le108).trans le116).trans le123).trans le138).trans le145).trans le158).trans le165)) X Tryz.isAgg56 Tryz.sizeOf56 X)<|zm st166 X X X Tryz.call27 X (c_postilref04_Changes st166.sub (t := t) (t_f0.up ((((((((((((((((((le4.trans le10).trans le16).trans le22).trans le30).trans le63).trans le68).trans le75).trans le80).trans le86).trans le92).trans le100).trans le108).trans le116).trans le123).trans le138).trans le145).trans le158).trans le165)) (x := x) (x_f0.up ((((((((((((((((((le4.trans le10).trans le16).trans le22).trans le30).trans le63).trans le68).trans le75).trans le80).trans le86).trans le92).trans le100).trans le108).trans le116).trans le123).trans le138).trans le145).trans le158).trans le165)) (x_f1.up ((((((((((((((((((le4.trans le10).trans le16).trans le22).trans le30).trans le63).trans le68).trans le75).trans le80).trans le86).trans le92).trans le100).trans le108).trans le116).trans le123).trans le138).trans le145).trans le158).trans le165)) (d := d) t_u8 zZ zZ t_u8) ?_
     intro r170 w171 h172 le173 st174 q175
     obtain ⟨v176, rfl, f177⟩ := q175
     have f177_b := f177.le
     refine Y X X (r_mvT X)<|Y X X (zH (v := v176) X X)<|Y X X (zH (v := (.int _ _)) X X)<|Y X X (zD (v := v176) X)<|Y X X (zx X)<|U<|M<|zd<|O<|Y X X (zy (v := v95) X)<|Y X X (zy (v := v103) X)<|zm st174 X X X Tryz.call16 X (c_postilref01_SameWords st174.sub (f96.up ((((((((le100.trans le108).trans le116).trans le123).trans le138).trans le145).trans le158).trans le165).trans le173)) (f104.up (((((((le108.trans le116).trans le123).trans le138).trans le145).trans le158).trans le165).trans le173))) ?_
     intro r178 w179 h180 le181 st182 q183
     obtain rfl := q183
     refine Y X X (zN X) ?_
     refine zG (d := 106) rfl (fun g184 => ?_) (fun g184 => ?_)
     ·
      refine za X X (d := 106) X<|Y X X (zo X)<|za X X (d := 106) X<|Y X X (zo X)<|za X X (d := 106) X<|Y X X (r_eql X X)<|Y X X (zK (v := (.bool _)) X X)<|Y X X (zN X) ?_
      refine zG (d := 111) rfl (fun g185 => ?_) (fun g185 => ?_)
      ·
       replace g185 := of_decide_eq_true g185
       refine za X X (d := 111) X<|Y X X (zy (v := v111) X)<|za X X (d := 111) X<|Y X X (zy (v := v119) X)<|za X X (d := 111) X<|zm st182 X X X Tryz.call17 X (c_postillaw04_sameInts st182.sub (f112.up (((((((le116.trans le123).trans le138).trans le145).trans le158).trans le165).trans le173).trans le181)) (f120.up ((((((le123.trans le138).trans le145).trans le158).trans le165).trans le173).trans le181))) ?_
       intro r186 w187 h188 le189 st190 q191
       obtain rfl := q191
       refine Y X X (zK (v := (.bool _)) X X)<|Y X X (zN X) ?_
       refine zG (d := 116) rfl (fun g192 => ?_) (fun g192 => ?_)
       ·
        refine za X X (d := 116) X<|Y X X (zo X)<|za X X (d := 116) X<|Y X X (zo X)<|za X X (d := 116) X<|Y X X (r_eql X X)<|Y X X (zK (v := (.bool _)) X X)<|Y X X (zN X) ?_
        refine zG (d := 121) rfl (fun g193 => ?_) (fun g193 => ?_)
        ·
         replace g193 := of_decide_eq_true g193
         refine za X X (d := 121) X<|Y X X (zf st190.sub (hc140.up (((((le145.trans le158).trans le165).trans le173).trans le181).trans le189)) X Tryz.isAgg28 Tryz.sizeOf28 X)<|za X X (d := 121) X<|Y X X (zf st190.sub (hc160.up (((le165.trans le173).trans le181).trans le189)) X Tryz.isAgg28 Tryz.sizeOf28 X)<|za X X (d := 121) X ?_
         have ha194 := heapOf_le st190.sub
         have f195 := (OSl.whole (k := 2) st190 (f128.up ((((((le138.trans le145).trans le158).trans le165).trans le173).trans le181).trans le189)) rfl (by first | exact addN_len1 t x d | exact addN_len2 t x d)).2
         have f196 := (OSl.whole (k := 3) st190 (f131.up ((((((le138.trans le145).trans le158).trans le165).trans le173).trans le181).trans le189)) rfl (by first | exact addN_len1 t x d | exact addN_len2 t x d)).2
         refine zm st190 X X X Tryz.call19 X (Rets.thaw st190.sub (c_postilref04_Same (heapOf_sub _) (a := (Lexicon.mk (((addN ((t)) ((x)) (d))).rules) (((addN ((t)) ((x)) (d))).decisions))) f195 f196 (b := (addN (t) (x) (d))) (f149.up (((((le158.trans le165).trans le173).trans le181).trans le189).trans ha194)) (f151.up (((((le158.trans le165).trans le173).trans le181).trans le189).trans ha194)))) ?_
         intro r197 w198 h199 le200 st201 q202
         obtain rfl := q202
         refine Y X X (zK (v := (.bool _)) X X)<|Y X X (zN X) ?_
         refine zG (d := 126) rfl (fun g203 => ?_) (fun g203 => ?_)
         ·
          refine za X X (d := 126) X<|Y X X (zo X)<|za X X (d := 126) X<|Y X X (zo X)<|za X X (d := 126) X<|Y X X (r_eql X X)<|Y X X (zK (v := (.bool _)) X X)<|Y X X (zN X) ?_
          refine zG (d := 131) rfl (fun g204 => ?_) (fun g204 => ?_)
          ·
           replace g204 := of_decide_eq_true g204
           refine za X X (d := 131) X<|Y X X (zy (v := v168) X)<|za X X (d := 131) X<|Y X X (zy (v := v176) X)<|za X X (d := 131) X<|zm st201 X X X Tryz.call28 X (c_postilref01_SamePlaces st201.sub (f169.up (((le173.trans le181).trans le189).trans le200)) (f177.up ((le181.trans le189).trans le200))) ?_
           intro r205 w206 h207 le208 st209 q210
           obtain rfl := q210
           refine Y X X (zK (v := (.bool _)) X X)<|Y X X (zN X) ?_
           refine zG (d := 136) rfl (fun g211 => ?_) (fun g211 => ?_)
           ·
            refine za X X (d := 136) X<|Y X X (zo X)<|za X X (d := 136) X<|Y X X (zo X)<|za X X (d := 136) X<|Y X X (r_eql X X)<|Y X X (zK (v := (.bool _)) X X)<|Y X X (zJ X)<|U<|M<|zd<|zd<|O<|Y X X (zc X Tryz.underlying28 X Tryz.sizeOf25 X)<|Y X X (zb (j := 0) st209.sub (hc140.up (((((((le145.trans le158).trans le165).trans le173).trans le181).trans le189).trans le200).trans le208)) X X X Tryz.isAgg25)<|Y X X (r_len_own (f128.up ((((((((le138.trans le145).trans le158).trans le165).trans le173).trans le181).trans le189).trans le200).trans le208)) X Tryz.underlying25)<|Y X X (zo X)<|U<|M<|zF ?_
            refine zX [26, 144, 145, 146, 147, 148, 149, 150, 151, 152] (G := Nat × List Rule × List (Nat × Obj) × Heap) (fun ⟨i, ys, o_k2, h212⟩ => [(144, .int .i64 (i : Int))]) (fun ⟨i, ys, o_k2, h212⟩ w' => Le h207 h212 ∧ St h w h212 w' [[], [], o_k2, o130, [], []] ∧ (OSl LRule 70 h212 v126 (ys) o_k2) ∧ (ys.length = (addN t x d).rules.length) ∧ (i ≤ ys.length)) (fun ⟨i, ys, o_k2, h212⟩ => ys.length - i) ⟨0, (addN t x d).rules, o127, h207⟩ ⟨rfl, trivial⟩ ⟨Le.refl _, st209, (OSl.to (f128.up ((((((((le138.trans le145).trans le158).trans le165).trans le173).trans le181).trans le189).trans le200).trans le208)) (by rfl)), (by rfl), zak⟩ ?_
            rintro ⟨i, ys, o_k2, h212⟩ _ w215 ⟨le213, st214, hO_k2, hl, hi⟩
            refine zd<|O<|Y X X (zal X X)<|U<|M<|zd ?_
            refine zt rfl (fun c216 => ?_) (fun c216 => ?_)
            ·
             replace c216 := of_decide_eq_true c216
             refine zz<|M<|zd<|zF<|zd<|O<|Y X X (zo X)<|Y X X (zx X)<|U<|M<|O<|Y X X (zc X Tryz.underlying28 X Tryz.sizeOf25 X)<|Y X X (zb (j := 0) st214.sub (hc140.up ((((((((le145.trans le158).trans le165).trans le173).trans le181).trans le189).trans le200).trans le208).trans le213)) X X X Tryz.isAgg25)<|Y X X (zo X) ?_
             have hr : ∃ y_, (ys)[i]? = some y_ := ⟨_, List.getElem?_eq_getElem (by omega)⟩
             obtain ⟨r, hr⟩ := hr
             obtain ⟨b217, o218, cur219, _, e222, he220, hr_r, hc221⟩ := OSl.elem hO_k2 hr
             subst e222
             obtain ⟨rfl, ls223, ls224⟩ := hr_r
             simp only [big] at ls223
             simp only [big] at ls224
             refine Y X X (zp he220 X X (hk := X) (hu := Tryz.underlying25) (hz := Tryz.sizeOf70))<|Y X X (zc X Tryz.underlying70 X Tryz.sizeOf3 X) ?_
             refine OpsL.storeElF (j := 2) (k := 2) (y1 := { r with least := 0 }) st214 hO_k2 rfl hr he220 rfl rfl rfl rfl rfl (by rintro _ ⟨rfl, f0_, f1_⟩; exact ⟨rfl, f0_, f1_⟩) Tryz.sizeOf3 ?_
             intro o225 w226 _ e227 f228 st229
             subst e227
             refine U<|zI<|M<|O<|Y X X (zah X X t_om)<|Y X X (zo X)<|U<|M ?_
             refine ⟨⟨i + 1, (ys.set i { r with least := 0 }), o225, h212⟩, ⟨rfl, trivial⟩, ?_, ⟨le213, st229, ?_, ?_, ?_⟩, ?_⟩
             ·exact zae
             ·refine OSl.to f228 ?_
              rfl
             ·rw [List.length_set]; exact hl
             ·rw [List.length_set]; omega
             ·show (((ys.set i { r with least := 0 }))).length - ((i + 1)) < ys.length - i
              rw [List.length_set]; omega
            ·
             replace c216 := of_decide_eq_false c216
             refine zab<|zn<|zn<|zT<|M<|zd<|zd<|O<|Y X X (zc X Tryz.underlying28 X Tryz.sizeOf26 X)<|Y X X (zb (j := 1) st214.sub (hc140.up ((((((((le145.trans le158).trans le165).trans le173).trans le181).trans le189).trans le200).trans le208).trans le213)) X X X Tryz.isAgg26)<|Y X X (r_len_own (f131.up (((((((((le138.trans le145).trans le158).trans le165).trans le173).trans le181).trans le189).trans le200).trans le208).trans le213)) X Tryz.underlying26)<|Y X X (zo X)<|U<|M<|zF ?_
             refine zX [27, 156, 157, 158, 159, 160, 161, 162, 163, 164] (G := Nat × List Decision × List (Nat × Obj) × Heap) (fun ⟨i, ys, o_k3, h230⟩ => [(156, .int .i64 (i : Int))]) (fun ⟨i, ys, o_k3, h230⟩ w' => Le h212 h230 ∧ St h w h230 w' [[], [], o_k2, o_k3, [], []] ∧ (OSl LDecision 56 h230 v129 (ys) o_k3) ∧ (ys.length = (addN t x d).decisions.length) ∧ (i ≤ ys.length)) (fun ⟨i, ys, o_k3, h230⟩ => ys.length - i) ⟨0, (addN t x d).decisions, o130, h212⟩ ⟨rfl, trivial⟩ ⟨Le.refl _, st214, (OSl.to (f131.up (((((((((le138.trans le145).trans le158).trans le165).trans le173).trans le181).trans le189).trans le200).trans le208).trans le213)) (by rfl)), (by rfl), zak⟩ ?_
             rintro ⟨i, ys, o_k3, h230⟩ _ w233 ⟨le231, st232, hO_k3, hl, hi⟩
             refine zd<|O<|Y X X (zal X X)<|U<|M<|zd ?_
             refine zt rfl (fun c234 => ?_) (fun c234 => ?_)
             ·
              replace c234 := of_decide_eq_true c234
              refine zz<|M<|zd<|zF<|zd<|O<|Y X X (zo X)<|Y X X (zx X)<|U<|M<|O<|Y X X (zc X Tryz.underlying28 X Tryz.sizeOf26 X)<|Y X X (zb (j := 1) st232.sub (hc140.up (((((((((le145.trans le158).trans le165).trans le173).trans le181).trans le189).trans le200).trans le208).trans le213).trans le231)) X X X Tryz.isAgg26)<|Y X X (zo X) ?_
              have he : ∃ y_, (ys)[i]? = some y_ := ⟨_, List.getElem?_eq_getElem (by omega)⟩
              obtain ⟨e, he⟩ := he
              obtain ⟨b235, o236, cur237, _, e240, he238, hr_e, hc239⟩ := OSl.elem hO_k3 he
              subst e240
              obtain ⟨rfl, lu241, ls242, ls243, lu244⟩ := hr_e
              simp only [big] at ls242
              simp only [big] at ls243
              refine Y X X (zp he238 X X (hk := X) (hu := Tryz.underlying26) (hz := Tryz.sizeOf56))<|Y X X (zc X Tryz.underlying56 X Tryz.sizeOf3 X) ?_
              refine OpsL.storeElF (j := 0) (k := 3) (y1 := { e with number := 0 }) st232 hO_k3 rfl he he238 rfl rfl rfl rfl rfl (by rintro _ ⟨rfl, f1_, f2_, f6_, f7_⟩; exact ⟨rfl, f1_, f2_, f6_, f7_⟩) Tryz.sizeOf3 ?_
              intro o245 w246 _ e247 f248 st249
              subst e247
              refine U<|zI<|M<|O<|Y X X (zah X X t_om)<|Y X X (zo X)<|U<|M ?_
              refine ⟨⟨i + 1, (ys.set i { e with number := 0 }), o245, h230⟩, ⟨rfl, trivial⟩, ?_, ⟨le231, st249, ?_, ?_, ?_⟩, ?_⟩
              ·exact zae
              ·refine OSl.to f248 ?_
               rfl
              ·rw [List.length_set]; exact hl
              ·rw [List.length_set]; omega
              ·show (((ys.set i { e with number := 0 }))).length - ((i + 1)) < ys.length - i
               rw [List.length_set]; omega
             ·
              replace c234 := of_decide_eq_false c234
              refine zab<|zn<|zn<|zT<|M<|zd<|O<|Y X X (zN X)<|Y X X (zN X) ?_
              refine zG (d := 166) rfl (fun g250 => ?_) (fun g250 => ?_)
              ·
               replace g250 := of_decide_eq_true g250
               refine za X X (d := 166) X<|Y X X (zf st232.sub (hc70.up ((((((((((((((((((le75.trans le80).trans le86).trans le92).trans le100).trans le108).trans le116).trans le123).trans le138).trans le145).trans le158).trans le165).trans le173).trans le181).trans le189).trans le200).trans le208).trans le213).trans le231)) X Tryz.isAgg24 Tryz.sizeOf24 X)<|za X X (d := 166) X<|Y X X (zf st232.sub (hc5.up ((((((((((((((((((((((((le10.trans le16).trans le22).trans le30).trans le63).trans le68).trans le75).trans le80).trans le86).trans le92).trans le100).trans le108).trans le116).trans le123).trans le138).trans le145).trans le158).trans le165).trans le173).trans le181).trans le189).trans le200).trans le208).trans le213).trans le231)) X Tryz.isAgg24 Tryz.sizeOf24 X)<|za X X (d := 166) X<|zm st232 X X X Tryz.call18 X (c_postilref01_Same st232.sub (a := (t)) (gf1_0x60.up (((((((((((((((((((le68.trans le75).trans le80).trans le86).trans le92).trans le100).trans le108).trans le116).trans le123).trans le138).trans le145).trans le158).trans le165).trans le173).trans le181).trans le189).trans le200).trans le208).trans le213).trans le231)) (b := t) (t_f0.up (((((((((((((((((((((((((le4.trans le10).trans le16).trans le22).trans le30).trans le63).trans le68).trans le75).trans le80).trans le86).trans le92).trans le100).trans le108).trans le116).trans le123).trans le138).trans le145).trans le158).trans le165).trans le173).trans le181).trans le189).trans le200).trans le208).trans le213).trans le231))) ?_
               intro r251 w252 h253 le254 st255 q256
               obtain rfl := q256
               refine Y X X (zK (v := (.bool _)) X X)<|Y X X (zN X) ?_
               refine zG (d := 171) rfl (fun g257 => ?_) (fun g257 => ?_)
               ·
                refine za X X (d := 171) X<|Y X X (zf st255.sub (hc82.up (((((((((((((((((le86.trans le92).trans le100).trans le108).trans le116).trans le123).trans le138).trans le145).trans le158).trans le165).trans le173).trans le181).trans le189).trans le200).trans le208).trans le213).trans le231).trans le254)) X Tryz.isAgg28 Tryz.sizeOf28 X)<|za X X (d := 171) X<|Y X X (zf st255.sub (hc11.up ((((((((((((((((((((((((le16.trans le22).trans le30).trans le63).trans le68).trans le75).trans le80).trans le86).trans le92).trans le100).trans le108).trans le116).trans le123).trans le138).trans le145).trans le158).trans le165).trans le173).trans le181).trans le189).trans le200).trans le208).trans le213).trans le231).trans le254)) X Tryz.isAgg28 Tryz.sizeOf28 X)<|za X X (d := 171) X<|zm st255 X X X Tryz.call19 X (c_postilref04_Same st255.sub (a := (x)) (gf3_0x72.up ((((((((((((((((((le80.trans le86).trans le92).trans le100).trans le108).trans le116).trans le123).trans le138).trans le145).trans le158).trans le165).trans le173).trans le181).trans le189).trans le200).trans le208).trans le213).trans le231).trans le254)) (gf3_1x72.up ((((((((((((((((((le80.trans le86).trans le92).trans le100).trans le108).trans le116).trans le123).trans le138).trans le145).trans le158).trans le165).trans le173).trans le181).trans le189).trans le200).trans le208).trans le213).trans le231).trans le254)) (b := x) (x_f0.up ((((((((((((((((((((((((((le4.trans le10).trans le16).trans le22).trans le30).trans le63).trans le68).trans le75).trans le80).trans le86).trans le92).trans le100).trans le108).trans le116).trans le123).trans le138).trans le145).trans le158).trans le165).trans le173).trans le181).trans le189).trans le200).trans le208).trans le213).trans le231).trans le254)) (x_f1.up ((((((((((((((((((((((((((le4.trans le10).trans le16).trans le22).trans le30).trans le63).trans le68).trans le75).trans le80).trans le86).trans le92).trans le100).trans le108).trans le116).trans le123).trans le138).trans le145).trans le158).trans le165).trans le173).trans le181).trans le189).trans le200).trans le208).trans le213).trans le231).trans le254))) ?_
                intro r258 w259 h260 le261 st262 q263
                obtain rfl := q263
                refine Y X X (zK (v := (.bool _)) X X)<|Y X X (zJ X)<|U<|M<|zA<|zi Tryz.results4 ?_
                refine ⟨h260, _, rfl, st262.done, ?_⟩
                refine zw ?_
                simp_all
               ·
                simp at g257
              ·
               replace g250 := of_decide_eq_false g250
               simp at g250
           ·
            simp at g211
          ·
           replace g204 := of_decide_eq_false g204
           simp at g204
         ·
          simp at g203
        ·
         replace g193 := of_decide_eq_false g193
         simp at g193
       ·
        simp at g192
      ·
       replace g185 := of_decide_eq_false g185
       simp at g185
     ·
      simp at g184
end Go.Pk
