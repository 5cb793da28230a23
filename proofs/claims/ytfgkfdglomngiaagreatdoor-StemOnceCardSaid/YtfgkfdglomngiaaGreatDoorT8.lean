/- A PART OF THE PROOF: contracts of functions, each walked once (much of it printed by a program of the author's own). -/
import Derived.Test.YtfgkfdglomngiaaGreatDoorT7
import Derived.Test.YtfgkfdglomngiaaGreatDoorT3
import Derived.Test.YtfgkfdglomngiaaGreatDoorT4
import Derived.Test.YtfgkfdglomngiaaGreatDoorT2
import Derived.Test.YtfgkfdglomngiaaGreatDoorT1
import Derived.Test.YtfgkfdglomngiaaGreatDoorT6
set_option linter.unusedSimpArgs false
set_option linter.unusedVariables false
namespace Go.Pk
open Go Go.RowKit Go.Proofs
set_option maxRecDepth 4000 in
theorem c_stem_Steps {h : Heap} {w : World} (hs : Sub h w) {t : Text} {t_v0 : Value} (t_f0 : Sl LChapter h t_v0 t.chapters) {x : Lexicon} {x_v0 : Value} (x_f0 : Sl LRule h x_v0 x.rules) {x_v1 : Value} (x_f1 : Sl LDecision h x_v1 x.decisions) (word : Str) (word_le : word.length ≤ 281474976710656) (K0 : Cells h 0 0 Tryz.glob0) : Calls Tryz.prog 31 #[.agg #[t_v0], .agg #[x_v0, x_v1], strV word] w (Rets h w (fun h' _ res_ => ∃ u0, res_ = .tuple #[u0, .int .i64 (stepsE t x word)] ∧ Sl LStr h' u0 (stepsR t x word))) := by
 refine zx (n := 25) (args := [.agg #[t_v0], .agg #[x_v0, x_v1], strV word]) Tryz.func31 X X X ?_
 have st0 : St h w h w [] := St.start hs
 have t_f0_b := t_f0.le
 have x_f0_b := x_f0.le
 have x_f1_b := x_f1.le
 refine W.sr<|zl st0 (cs := [t_v0]) X X X ?_
 intro b1 w2 h3 le4 hc5 st6
 refine zl st6 (cs := [x_v0, x_v1]) X X X ?_
 intro b7 w8 h9 le10 hc11 st12
 refine v_asL X X<|v_asI X X<|Y<|W.sr<|v_load_call st12.sub (hc5.up le10) X Tryz.isAgg24 Tryz.sizeOf24 X X<|v_load_call st12.sub hc11 X Tryz.isAgg28 Tryz.sizeOf28 X X<|za st12 X X X Tryz.call67 X (c_stem_open st12.sub (t := t) (t_f0.up (le4.trans le10)) (x := x) (x_f0.up (le4.trans le10)) (x_f1.up (le4.trans le10)) (K0.up (le4.trans le10))) ?_
 intro r13 w14 h15 le16 st17 q18
 rcases Bool.eq_false_or_eq_true (decide (checkN (t) (x) = 0)) with hb19 | hb19
 ·
  simp only [hb19, if_true, if_false, Bool.false_eq_true, reduceIte] at q18
  obtain ⟨v20, rfl, f21⟩ := q18
  obtain ⟨b22, vs23, rfl, hc24, hr25⟩ := f21
  obtain ⟨v26, v28, v30, v32, rfl, f27, f29, f31, lm33⟩ := hr25
  have f27_b := f27.le
  have f29_b := f29.le
  have f31_b := f31.le
  refine v_mvT X X<|v_extract (v := (.pointer (some _))) X X X<|v_extract (v := (.int _ _)) X X X<|v_asP X X<|v_asI X X<|Y<|zg<|W.sr<|v_mvI X X<|v_neq X X X<|Y ?_
  refine zh rfl (fun c34 => ?_) (fun c34 => ?_)
  ·
   replace c34 := of_decide_eq_true c34
   refine W.sr<|v_mvI X X<|v_asL X X<|v_asI X X<|Y<|zk<|zd<|zH Tryz.results31 ?_
   refine ⟨h15, _, rfl, st17.done, ?_⟩
   refine ⟨_, tup2 rfl (zC ?_), Sl.to (Sl.nil _ _) ?_⟩
   all_goals simp_all [stepsR, stepsE, wordB]
  ·
   replace c34 := of_decide_eq_false c34
   refine zo<|U<|zg<|W.sr<|v_mvS X X<|za st17 X X X Tryz.call77 X (c_stem_letters st17.sub _ zO _) ?_
   intro r35 w36 h37 le38 st39 q40
   obtain rfl := q40
   refine v_not X X<|Y ?_
   refine zh rfl (fun c41 => ?_) (fun c41 => ?_)
   ·
    refine W.sr<|v_asL X X<|v_asI X X<|Y<|zk<|zd<|zH Tryz.results31 ?_
    refine ⟨h37, _, rfl, st39.done, ?_⟩
    refine ⟨_, tup2 rfl (zC ?_), Sl.to (Sl.nil _ _) ?_⟩
    all_goals simp_all [stepsR, stepsE, wordB]
   ·
    refine zo<|U<|W.sr<|v_mvP X X<|v_mvS X X ?_
    refine za st39 rfl rfl rfl Tryz.call78 rfl (c_stem_office_steps st39.sub (o := (Office.mk (x) (t) (standM (x)))) (f27.up le38) (f29.up le38) (f31.up le38) (lm33.up le38) (hc24.up le38) _ zO (by exact word_len (show wordB word = true by simpa [wordB] using c41))) ?_
    intro r42 w43 h44 le45 st46 q47
    obtain ⟨v48, e50, f49⟩ := q47
    rw [← e50] at f49
    have f49_b := f49.le
    refine v_assign (v := r42) X X<|v_asI X X<|Y<|zk<|zH Tryz.results31 ?_
    refine ⟨h44, _, rfl, st46.done, ?_⟩
    refine ⟨_, tup2 rfl (zC ?_), Sl.to f49 ?_⟩
    all_goals simp_all [stepsR, stepsE, wordB]
 ·
  simp only [hb19, if_true, if_false, Bool.false_eq_true, reduceIte] at q18
  obtain ⟨v51, rfl, f52⟩ := q18
  obtain rfl := f52
  refine v_mvT X X<|v_extract (v := (.pointer none)) X X X<|v_extract (v := (.int _ _)) X X X<|v_assign X X<|v_asI X X<|Y<|zg<|W.sr<|v_mvI X X<|v_neq X X X<|Y ?_
  refine zh rfl (fun c53 => ?_) (fun c53 => ?_)
  ·
   replace c53 := of_decide_eq_true c53
   refine W.sr<|v_mvI X X<|v_asL X X<|v_asI X X<|Y<|zk<|zd<|zH Tryz.results31 ?_
   refine ⟨h15, _, rfl, st17.done, ?_⟩
   refine ⟨_, tup2 rfl (zC ?_), Sl.to (Sl.nil _ _) ?_⟩
   all_goals simp_all [stepsR, stepsE, wordB]
  ·
   replace c53 := of_decide_eq_false c53
   exfalso
   simp_all
set_option maxRecDepth 4000 in
theorem c_stem_Standing {h : Heap} {w : World} (hs : Sub h w) {t : Text} {t_v0 : Value} (t_f0 : Sl LChapter h t_v0 t.chapters) {x : Lexicon} {x_v0 : Value} (x_f0 : Sl LRule h x_v0 x.rules) {x_v1 : Value} (x_f1 : Sl LDecision h x_v1 x.decisions) (K0 : Cells h 0 0 Tryz.glob0) : Calls Tryz.prog 18 #[.agg #[t_v0], .agg #[x_v0, x_v1]] w (Rets h w (fun h' _ res_ => ∃ u0, res_ = .tuple #[u0, .int .i64 (checkN t x)] ∧ Sl LInt h' u0 (standingN t x))) := by
 refine zx (n := 35) (args := [.agg #[t_v0], .agg #[x_v0, x_v1]]) Tryz.func18 X X X ?_
 have st0 : St h w h w [] := St.start hs
 have t_f0_b := t_f0.le
 have x_f0_b := x_f0.le
 have x_f1_b := x_f1.le
 refine W.sr<|zl st0 (cs := [t_v0]) X X X ?_
 intro b1 w2 h3 le4 hc5 st6
 refine zl st6 (cs := [x_v0, x_v1]) X X X ?_
 intro b7 w8 h9 le10 hc11 st12
 refine v_asL X X<|v_asI X X<|Y<|W.sr<|v_load_call st12.sub (hc5.up le10) X Tryz.isAgg24 Tryz.sizeOf24 X X<|v_load_call st12.sub hc11 X Tryz.isAgg28 Tryz.sizeOf28 X X<|za st12 X X X Tryz.call67 X (c_stem_open st12.sub (t := t) (t_f0.up (le4.trans le10)) (x := x) (x_f0.up (le4.trans le10)) (x_f1.up (le4.trans le10)) (K0.up (le4.trans le10))) ?_
 intro r13 w14 h15 le16 st17 q18
 rcases Bool.eq_false_or_eq_true (decide (checkN (t) (x) = 0)) with hb19 | hb19
 ·
  simp only [hb19, if_true, if_false, Bool.false_eq_true, reduceIte] at q18
  obtain ⟨v20, rfl, f21⟩ := q18
  obtain ⟨b22, vs23, rfl, hc24, hr25⟩ := f21
  obtain ⟨v26, v28, v30, v32, rfl, f27, f29, f31, lm33⟩ := hr25
  have f27_b := f27.le
  have f29_b := f29.le
  have f31_b := f31.le
  refine v_mvT X X<|v_extract (v := (.pointer (some _))) X X X<|v_extract (v := (.int _ _)) X X X<|v_asP X X<|v_asI X X<|Y<|zg<|W.sr<|v_mvI X X<|v_neq X X X<|Y ?_
  refine zh rfl (fun c34 => ?_) (fun c34 => ?_)
  ·
   replace c34 := of_decide_eq_true c34
   refine W.sr<|v_mvI X X<|v_asL X X<|v_asI X X<|Y<|zk<|zd<|zH Tryz.results18 ?_
   refine ⟨h15, _, rfl, st17.done, ?_⟩
   refine ⟨_, tup2 rfl (zC ?_), Sl.to (Sl.nil _ _) ?_⟩
   all_goals simp_all [standingN]
  ·
   replace c34 := of_decide_eq_false c34
   refine zo<|U<|W.sr<|v_asL X X<|Y<|zg<|zg ?_
   have hck : checkN t x = 0 := by simpa using c34
   have hml : (standM x).length ≤ 20 := standM_len hck
   refine zm<|v_mvP X X<|ze X X (r_nil_check X)<|v_field_addr X Tryz.underlying129 X Tryz.sizeOf127 X X<|v_load_cells1 (j := 3) st17.sub hc24 X X X Tryz.isAgg127 X<|OpsL.rangeM st17 lm33.1 X Tryz.underlying127 X ?_
   intro o35 vi36 w37 hI38 st39
   refine Y<|zr ?_
   have st43 := st39.snoc
   have f44 := OSl.nil LInt 3 h15
   refine zN [8, 9, 24, 25, 26, 27, 28, 29, 30, 31] (G := List (Int × Decision) × List (Int × Decision) × Value × List (Nat × Obj) × List (Nat × Obj) × Heap) (fun ⟨dn, rm, v_8, o_8, o_23, h40⟩ => [(8, v_8)]) (fun ⟨dn, rm, v_8, o_8, o_23, h40⟩ w' => Le h15 h40 ∧ St h w h40 w' [o_23, o_8] ∧ (OSl LInt 3 h40 v_8 (dn.map (·.1)) o_8) ∧ (MI (fun n : Int => .int .i64 n) (fun x => .agg ((fun x : Decision => [.int .i64 x.number, .int .u8 x.kind, strV x.form, .int .i64 x.at_.chapter, .int .i64 x.at_.line, .int .i64 x.at_.word, strV x.to.stem, .int .u8 x.to.mark, .int .i64 x.of_]) x).toArray) h40 v32 o_23 vi36 rm) ∧ ((dn ++ rm).Perm (standM x))) (fun ⟨dn, rm, v_8, o_8, o_23, h40⟩ => rm.length) ⟨[], (standM x), (.slice none 0 0), [], o35, h15⟩ ⟨rfl, trivial⟩ ⟨Le.refl _, st43, (OSl.to f44 (by rfl)), hI38, (by exact List.Perm.refl _)⟩ ?_
   rintro ⟨dn, rm, v_8, o_8, o_23, h40⟩ _ w45 ⟨le41, st42, hO_8, hI_23, hpd⟩
   refine W.sr ?_
   refine OpsL.nextM (i := 0) st42 hI_23 rfl rfl rfl (fun e46 w47 st48 => ?_) (fun p49 rm50 o51 w56 _ e57 hp54 hI52 hC53 st55 => ?_)
   ·
    refine v_extract (v := (.bool _)) X X X<|Y<|zg ?_
    refine zh rfl (fun c58 => ?_) (fun c58 => ?_)
    ·
     cases c58
    ·
     refine zP<|zi<|zi<|zJ<|U<|zg ?_
     have hdn : dn.Perm (standM x) := by
      have q := hpd
      rw [e46, List.append_nil] at q
      exact q
     have hdl := hdn.length_eq
     refine zm<|v_move (v := v_8) X X ?_
     have con := sort1 (L := LInt) (T := 3) (f := 68) (fun n : Int => .int .i64 n) id rfl (fun l => l.mergeSort fun a b => decide (a ≤ b)) (fun l => List.mergeSort_perm _ _) (fun blk off cap zs w hH hb hs => Tryz.slices_Sort_int blk off cap zs w hH hb hs) (fun p cap w => Tryz.slices_Sort_int_none p cap w) (i := 1) st48 hO_8 rfl (by simp only [List.length_map]; omega)
     refine zD rfl rfl (zS rfl Tryz.call68 rfl) (con.mono ?_)
     rintro _ w59 ⟨rfl, o60, _, e61, f62, st63⟩
     subst e61
     refine ⟨_, rfl, ?_⟩
     clear con
     have f64 := OSl.to f62 (show _ = (standingN t x) from (standing_eq (okD_of hck) hdn).trans (by rw [standingN, if_pos hck]))
     refine Y<|W.sr<|v_move (v := v_8) X X<|v_assign (v := v_8) X X<|v_asI X X<|Y<|zk<|zH Tryz.results18 ?_
     obtain ⟨h65, le66, f67, st68⟩ := OSl.freeze (k := 1) st63 f64 rfl (by have q := standingN_len t x; omega)
     refine ⟨h65, _, rfl, st68.done, ?_⟩
     refine ⟨_, tup2 rfl (zC ?_), Sl.to f67 ?_⟩
     all_goals simp_all [standingN]
   ·
    subst e57
    refine v_extract (v := (.bool _)) X X X<|Y<|zg ?_
    refine zh rfl (fun c69 => ?_) (fun c69 => ?_)
    ·
     refine zo<|U<|zr<|W.sr<|ze X X (r_entry st55.sub hC53 (st55.ent (k := 0) X) X)<|v_extract (v := (.int _ _)) X X X<|v_asI X X<|Y<|zm<|v_move (v := v_8) X X<|v_mvI X X<|zG (L := LInt) (xs := [p49.1]) (cs := [.int .i64 p49.1]) st55 (Enc.cons (L := LInt) (vs := [.int .i64 p49.1]) (x := p49.1) (h := h40) (X) Enc.nil) X X X Tryz.underlying46 Tryz.info3 X X X t_kr ?_
     intro v70 w71 h74 le75 f72 st73
     refine OpsL.append (k := 1) (nb := 8) st73 (hO_8.up le75) rfl f72 rfl rfl rfl Tryz.underlying46 Tryz.info3 rfl rfl rfl (by decide) rfl (by have q := hpd.length_eq; simp only [List.length_append, List.length_map, List.length_cons, List.length_nil] at *; omega) (by have q := hpd.length_eq; simp only [List.length_append, List.length_map, List.length_cons, List.length_nil] at *; omega) ?_
     intro v76 o77 w78 _ e79 f80 st81
     subst e79
     refine v_assign (v := v76) X X<|zj<|zz<|U ?_
     refine ⟨⟨dn ++ [p49], rm50, v76, o77, o51, h74⟩, ⟨rfl, trivial⟩, ?_, ⟨(le41.trans le75), st81, ?_, ?_, ?_⟩, ?_⟩
     ·exact zR
     ·refine OSl.to f80 ?_
      rw [List.map_append]; rfl
     ·exact (hI52.up le75)
     ·exact perm_step hpd hp54
     ·show ((rm50)).length < rm.length
      have q := hp54.length_eq; simp only [List.length_cons] at q; omega
    ·
     cases c69
 ·
  simp only [hb19, if_true, if_false, Bool.false_eq_true, reduceIte] at q18
  obtain ⟨v82, rfl, f83⟩ := q18
  obtain rfl := f83
  refine v_mvT X X<|v_extract (v := (.pointer none)) X X X<|v_extract (v := (.int _ _)) X X X<|v_assign X X<|v_asI X X<|Y<|zg<|W.sr<|v_mvI X X<|v_neq X X X<|Y ?_
  refine zh rfl (fun c84 => ?_) (fun c84 => ?_)
  ·
   replace c84 := of_decide_eq_true c84
   refine W.sr<|v_mvI X X<|v_asL X X<|v_asI X X<|Y<|zk<|zd<|zH Tryz.results18 ?_
   refine ⟨h15, _, rfl, st17.done, ?_⟩
   refine ⟨_, tup2 rfl (zC ?_), Sl.to (Sl.nil _ _) ?_⟩
   all_goals simp_all [standingN]
  ·
   replace c84 := of_decide_eq_false c84
   exfalso
   simp_all
end Go.Pk

namespace Go.Pk
open Go Go.RowKit Go.Proofs
set_option maxRecDepth 4000 in
theorem c_postilref01_Great {h : Heap} {w : World} (hs : Sub h w) {t : Text} {t_v0 : Value} (t_f0 : Sl LChapter h t_v0 t.chapters) : Calls Tryz.prog 58 #[.agg #[t_v0]] w (Rets h w (fun _ _ res_ => res_ = .bool ((!smallT t)))) := by
 refine zx (n := 75) (args := [.agg #[t_v0]]) Tryz.func58 X X X ?_
 have st0 : St h w h w [] := St.start hs
 have t_f0_b := t_f0.le
 refine W.sr<|zl st0 (cs := [t_v0]) X X X ?_
 intro b1 w2 h3 le4 hc5 st6
 refine v_asB X X<|Y<|zg<|W.sr<|v_field_addr X Tryz.underlying24 X Tryz.sizeOf22 X X<|v_load_cells1 (j := 0) st6.sub hc5 X X X Tryz.isAgg22 X<|v_len (t_f0.up le4) X Tryz.underlying22 X<|v_gtr X X X<|Y ?_
 refine zh rfl (fun c7 => ?_) (fun c7 => ?_)
 ·
  replace c7 := of_decide_eq_true c7
  refine W.sr<|v_asB X X<|Y<|zk<|zd<|O Tryz.results58 ?_
  refine ⟨h3, _, rfl, st6.done, ?_⟩
  refine zn ?_
  simp [smallT]; intros; omega
 ·
  replace c7 := of_decide_eq_false c7
  refine zo<|U<|zg<|W.sr<|v_asI X X<|Y<|zr ?_
  refine zN [2, 3, 4, 5, 10, 11, 12, 13, 14, 15, 16, 17, 18, 19, 20, 21, 22, 23, 24, 25, 26, 27, 28, 29, 30, 31, 32, 33, 34, 35, 36, 37, 38, 39, 40, 41, 42, 43, 44, 45, 46, 47, 48, 49, 50, 51, 52, 53, 54, 55, 56, 57, 58, 59, 60, 61, 62, 63, 64, 65, 66, 67, 68, 69, 70, 71, 72, 73, 74] (G := Nat × Heap) (fun ⟨i, h8⟩ => [(3, .int .i64 (i : Int))]) (fun ⟨i, h8⟩ w' => Le h3 h8 ∧ St h w h8 w' [] ∧ (i ≤ t.chapters.length) ∧ ((t.chapters.take i).all smallC = true)) (fun ⟨i, h8⟩ => t.chapters.length - i) ⟨0, h3⟩ ⟨rfl, trivial⟩ ⟨Le.refl _, st6, zV, zV⟩ ?_
  rintro ⟨i, h8⟩ _ w11 ⟨le9, st10, hi, hA⟩
  refine zg<|W.sr<|v_mvI X X<|v_field_addr X Tryz.underlying24 X Tryz.sizeOf22 X X<|v_load_cells1 (j := 0) st10.sub (hc5.up le9) X X X Tryz.isAgg22 X<|v_len (t_f0.up (le4.trans le9)) X Tryz.underlying22 X<|v_lss X X X<|Y ?_
  refine zh rfl (fun c12 => ?_) (fun c12 => ?_)
  ·
   replace c12 := of_decide_eq_true c12
   refine zo<|U<|zg<|zr<|zg<|W.sr<|v_field_addr X Tryz.underlying24 X Tryz.sizeOf22 X X<|v_load_cells1 (j := 0) st10.sub (hc5.up le9) X X X Tryz.isAgg22 X<|v_mvI X X ?_
   have hc : ∃ y_, (t.chapters)[i]? = some y_ := ⟨_, List.getElem?_eq_getElem (by omega)⟩
   obtain ⟨c, hc⟩ := hc
   obtain ⟨b13, o14, _, he16, hc15, hr_c⟩ := Sl.elem (t_f0.up (le4.trans le9)) hc
   obtain ⟨v17, rfl, f18⟩ := hr_c
   have f18_b := f18.le
   refine v_index_el he16 X X (hk := X) (hu := Tryz.underlying22) (hz := Tryz.sizeOf133) X<|v_field_addr X Tryz.underlying133 X Tryz.sizeOf131 X X<|v_load_cells1 (j := 1) st10.sub hc15 X X X Tryz.isAgg131 X<|v_len f18 X Tryz.underlying131 X<|v_gtr X X X<|Y ?_
   refine zh rfl (fun c19 => ?_) (fun c19 => ?_)
   ·
    replace c19 := of_decide_eq_true c19
    refine W.sr<|v_asB X X<|Y<|zk<|zd<|zw<|zd<|zd<|zw<|zd<|O Tryz.results58 ?_
    refine ⟨h8, _, rfl, st10.done, ?_⟩
    refine zn ?_
    have q0 : smallC c = false := by simp [smallC]; intros; omega
    have q := not_all (p := smallC) hc q0
    simp [smallT, q]
   ·
    replace c19 := of_decide_eq_false c19
    refine zo<|U<|W.sr<|v_asI X X<|Y<|zr ?_
    refine zN [2, 4, 5, 25, 26, 27, 28, 29, 30, 31, 32, 33, 34, 35, 36, 37, 38, 39, 40, 41, 42, 43, 44, 45, 46, 47, 48, 49, 50, 51, 52, 53, 54, 55, 56, 57, 58, 59, 60, 61, 62, 63, 64, 65, 66, 67, 68, 69, 70, 71, 72, 73, 74] (G := Nat × Heap) (fun ⟨k, h20⟩ => [(4, .int .i64 (k : Int))]) (fun ⟨k, h20⟩ w' => Le h8 h20 ∧ St h w h20 w' [] ∧ (k ≤ c.lines.length) ∧ ((c.lines.take k).all smallL = true)) (fun ⟨k, h20⟩ => c.lines.length - k) ⟨0, h8⟩ ⟨rfl, trivial⟩ ⟨Le.refl _, st10, zV, zV⟩ ?_
    rintro ⟨k, h20⟩ _ w23 ⟨le21, st22, hk, hB⟩
    refine zg<|W.sr<|v_mvI X X<|v_field_addr X Tryz.underlying24 X Tryz.sizeOf22 X X<|v_load_cells1 (j := 0) st22.sub (hc5.up (le9.trans le21)) X X X Tryz.isAgg22 X<|v_mvI X X<|v_index_el he16 X X (hk := X) (hu := Tryz.underlying22) (hz := Tryz.sizeOf133) X<|v_field_addr X Tryz.underlying133 X Tryz.sizeOf131 X X<|v_load_cells1 (j := 1) st22.sub (hc15.up le21) X X X Tryz.isAgg131 X<|v_len (f18.up le21) X Tryz.underlying131 X<|v_lss X X X<|Y ?_
    refine zh rfl (fun c24 => ?_) (fun c24 => ?_)
    ·
     replace c24 := of_decide_eq_true c24
     refine zo<|U<|zg<|zr<|zg<|W.sr<|v_field_addr X Tryz.underlying24 X Tryz.sizeOf22 X X<|v_load_cells1 (j := 0) st22.sub (hc5.up (le9.trans le21)) X X X Tryz.isAgg22 X<|v_mvI X X<|v_index_el he16 X X (hk := X) (hu := Tryz.underlying22) (hz := Tryz.sizeOf133) X<|v_field_addr X Tryz.underlying133 X Tryz.sizeOf131 X X<|v_load_cells1 (j := 1) st22.sub (hc15.up le21) X X X Tryz.isAgg131 X<|v_mvI X X ?_
     have hln : ∃ y_, (c.lines)[k]? = some y_ := ⟨_, List.getElem?_eq_getElem (by omega)⟩
     obtain ⟨ln, hln⟩ := hln
     obtain ⟨b25, o26, _, he28, hc27, hr_ln⟩ := Sl.elem (f18.up le21) hln
     obtain ⟨v29, rfl, f30⟩ := hr_ln
     have f30_b := f30.le
     refine v_index_el he28 X X (hk := X) (hu := Tryz.underlying131) (hz := Tryz.sizeOf62) X<|v_load_cells1 (j := 0) st22.sub hc27 X X X Tryz.isAgg62 X<|v_len f30 X Tryz.underlying62 X<|v_gtr X X X<|Y ?_
     refine zh rfl (fun c31 => ?_) (fun c31 => ?_)
     ·
      replace c31 := of_decide_eq_true c31
      refine W.sr<|v_asB X X<|Y<|zk<|zd<|zw<|zd<|zd<|zw<|zw<|zd<|zd<|zw<|zd<|O Tryz.results58 ?_
      refine ⟨h20, _, rfl, st22.done, ?_⟩
      refine zn ?_
      have q1 : smallL ln = false := by simp [smallL]; intros; omega
      have q2 := not_all (p := smallL) hln q1
      have q0 : smallC c = false := by simp [smallC, q2]
      have q := not_all (p := smallC) hc q0
      simp [smallT, q]
     ·
      replace c31 := of_decide_eq_false c31
      refine zo<|U<|W.sr<|v_asI X X<|Y<|zr ?_
      refine zN [2, 5, 47, 48, 49, 50, 51, 52, 53, 54, 55, 56, 57, 58, 59, 60, 61, 62, 63, 64, 65, 66, 67, 68, 69, 70, 71, 72, 73, 74] (G := Nat × Heap) (fun ⟨m, h32⟩ => [(5, .int .i64 (m : Int))]) (fun ⟨m, h32⟩ w' => Le h20 h32 ∧ St h w h32 w' [] ∧ (m ≤ ln.length) ∧ ((ln.take m).all smallW = true)) (fun ⟨m, h32⟩ => ln.length - m) ⟨0, h20⟩ ⟨rfl, trivial⟩ ⟨Le.refl _, st22, zV, zV⟩ ?_
      rintro ⟨m, h32⟩ _ w35 ⟨le33, st34, hm, hC⟩
      refine zg<|W.sr<|v_mvI X X<|v_field_addr X Tryz.underlying24 X Tryz.sizeOf22 X X<|v_load_cells1 (j := 0) st34.sub (hc5.up ((le9.trans le21).trans le33)) X X X Tryz.isAgg22 X<|v_mvI X X<|v_index_el he16 X X (hk := X) (hu := Tryz.underlying22) (hz := Tryz.sizeOf133) X<|v_field_addr X Tryz.underlying133 X Tryz.sizeOf131 X X<|v_load_cells1 (j := 1) st34.sub (hc15.up (le21.trans le33)) X X X Tryz.isAgg131 X<|v_mvI X X<|v_index_el he28 X X (hk := X) (hu := Tryz.underlying131) (hz := Tryz.sizeOf62) X<|v_load_cells1 (j := 0) st34.sub (hc27.up le33) X X X Tryz.isAgg62 X<|v_len (f30.up le33) X Tryz.underlying62 X<|v_lss X X X<|Y ?_
      refine zh rfl (fun c36 => ?_) (fun c36 => ?_)
      ·
       replace c36 := of_decide_eq_true c36
       refine zo<|U<|zg<|zr<|W.sr<|v_field_addr X Tryz.underlying24 X Tryz.sizeOf22 X X<|v_load_cells1 (j := 0) st34.sub (hc5.up ((le9.trans le21).trans le33)) X X X Tryz.isAgg22 X<|v_mvI X X<|v_index_el he16 X X (hk := X) (hu := Tryz.underlying22) (hz := Tryz.sizeOf133) X<|v_field_addr X Tryz.underlying133 X Tryz.sizeOf131 X X<|v_load_cells1 (j := 1) st34.sub (hc15.up (le21.trans le33)) X X X Tryz.isAgg131 X<|v_mvI X X<|v_index_el he28 X X (hk := X) (hu := Tryz.underlying131) (hz := Tryz.sizeOf62) X<|v_load_cells1 (j := 0) st34.sub (hc27.up le33) X X X Tryz.isAgg62 X<|v_mvI X X ?_
       have hwd : ∃ y_, (ln)[m]? = some y_ := ⟨_, List.getElem?_eq_getElem (by omega)⟩
       obtain ⟨wd, hwd⟩ := hwd
       obtain ⟨b37, o38, _, he40, hc39, hr_wd⟩ := Sl.elem (f30.up le33) hwd
       obtain ⟨rfl, ls41⟩ := hr_wd
       simp only [big] at ls41
       refine v_index_el he40 X X (hk := X) (hu := Tryz.underlying62) (hz := Tryz.sizeOf9) X<|v_load_cells1 (j := 0) st34.sub hc39 X X X Tryz.isAgg9 X<|v_len_str X Tryz.underlying9 X<|v_gtr X X X<|Y ?_
       refine zh rfl (fun c42 => ?_) (fun c42 => ?_)
       ·
        replace c42 := of_decide_eq_true c42
        refine W.sr<|v_asB X X<|Y<|zk<|zw<|zd<|zd<|zw<|zw<|zd<|zd<|zw<|zw<|zd<|zd<|zw<|zd<|O Tryz.results58 ?_
        refine ⟨h32, _, rfl, st34.done, ?_⟩
        refine zn ?_
        have q3 := not_all (p := smallW) hwd (by simp [smallW]; omega)
        have q1 : smallL ln = false := by simp [smallL, q3]
        have q2 := not_all (p := smallL) hln q1
        have q0 : smallC c = false := by simp [smallC, q2]
        have q := not_all (p := smallC) hc q0
        simp [smallT, q]
       ·
        replace c42 := of_decide_eq_false c42
        refine zo<|zz<|U<|zm<|v_mvI X X<|v_add X X t_om X<|v_asI X X<|Y ?_
        refine ⟨⟨m + 1, h32⟩, ⟨rfl, trivial⟩, ?_, ⟨le33, st34, ?_, ?_⟩, ?_⟩
        ·exact zR
        ·first | omega | (simp; omega)
        ·exact all_take_succ hC hwd (by have q := c42; simp [smallW]; omega)
        ·show ln.length - ((m + 1)) < ln.length - m
         omega
      ·
       replace c36 := of_decide_eq_false c36
       refine zP<|zi<|zi<|zJ<|zz<|U<|zm<|v_mvI X X<|v_add X X t_om X<|v_asI X X<|Y ?_
       have HL : smallL ln = true := by
        have q := all_of_take hC (by omega)
        have q1 := c36
        simp [smallL, q]; omega
       refine ⟨⟨k + 1, h32⟩, ⟨rfl, trivial⟩, ?_, ⟨(le21.trans le33), st34, ?_, ?_⟩, ?_⟩
       ·exact zR
       ·first | omega | (simp; omega)
       ·exact all_take_succ hB hln HL
       ·show c.lines.length - ((k + 1)) < c.lines.length - k
        omega
    ·
     replace c24 := of_decide_eq_false c24
     refine zP<|zi<|zi<|zJ<|zz<|U<|zm<|v_mvI X X<|v_add X X t_om X<|v_asI X X<|Y ?_
     have HC : smallC c = true := by
      have q := all_of_take hB (by omega)
      have q1 := c24
      simp [smallC, q]; omega
     refine ⟨⟨i + 1, h20⟩, ⟨rfl, trivial⟩, ?_, ⟨(le9.trans le21), st22, ?_, ?_⟩, ?_⟩
     ·exact zR
     ·first | omega | (simp; omega)
     ·exact all_take_succ hA hc HC
     ·show t.chapters.length - ((i + 1)) < t.chapters.length - i
      omega
  ·
   replace c12 := of_decide_eq_false c12
   refine zP<|zi<|zi<|zJ<|U<|W.sr<|v_asB X X<|Y<|zk<|O Tryz.results58 ?_
   refine ⟨h8, _, rfl, st10.done, ?_⟩
   refine zn ?_
   have q := all_of_take hA (by omega)
   simp [smallT, q]; omega
set_option maxRecDepth 4000 in
theorem c_postilref04_Great {h : Heap} {w : World} (hs : Sub h w) {x : Lexicon} {x_v0 : Value} (x_f0 : Sl LRule h x_v0 x.rules) {x_v1 : Value} (x_f1 : Sl LDecision h x_v1 x.decisions) : Calls Tryz.prog 59 #[.agg #[x_v0, x_v1]] w (Rets h w (fun _ _ res_ => res_ = .bool ((!smallX x)))) := by
 refine zx (n := 64) (args := [.agg #[x_v0, x_v1]]) Tryz.func59 X X X ?_
 have st0 : St h w h w [] := St.start hs
 have x_f0_b := x_f0.le
 have x_f1_b := x_f1.le
 refine W.sr<|zl st0 (cs := [x_v0, x_v1]) X X X ?_
 intro b1 w2 h3 le4 hc5 st6
 refine v_asB X X<|Y<|zg<|W.sr<|v_field_addr X Tryz.underlying28 X Tryz.sizeOf25 X X<|v_load_cells1 (j := 0) st6.sub hc5 X X X Tryz.isAgg25 X<|v_len (x_f0.up le4) X Tryz.underlying25 X<|v_gtr X X X<|v_mvB X X ?_
 refine zp (d := 10) rfl (fun g7 => ?_) (fun g7 => ?_)
 ·
  replace g7 := of_decide_eq_true g7
  refine M X X X X X<|M X X X X X<|M X X X X X<|M X X X X X<|v_pickT (v := (.bool _)) X X X<|Y ?_
  refine zh rfl (fun c8 => ?_) (fun c8 => ?_)
  ·
   refine W.sr<|v_asB X X<|Y<|zk<|zd<|O Tryz.results59 ?_
   refine ⟨h3, _, rfl, st6.done, ?_⟩
   refine zn ?_
   first | (simp [smallX]; intros; omega) | (simp [smallX, not_all (p := smallR) hr (by simp [smallR]; intros; omega)]; done) | (simp [smallX, not_all (p := smallD) hd (by simp [smallD]; intros; omega)]; done) | (simp [smallX, all_of_take hA (by omega), all_of_take hB (by omega)]; omega)
  ·
   cases c8
 ·
  replace g7 := of_decide_eq_false g7
  refine Z X X (d := 10) X<|v_field_addr X Tryz.underlying28 X Tryz.sizeOf26 X X<|Z X X (d := 10) X<|v_load_cells1 (j := 1) st6.sub hc5 X X X Tryz.isAgg26 X<|Z X X (d := 10) X<|v_len (x_f1.up le4) X Tryz.underlying26 X<|Z X X (d := 10) X<|v_gtr X X X<|v_pickF (v := (.bool _)) X X X<|Y ?_
  refine zh rfl (fun c9 => ?_) (fun c9 => ?_)
  ·
   replace c9 := of_decide_eq_true c9
   refine W.sr<|v_asB X X<|Y<|zk<|zd<|O Tryz.results59 ?_
   refine ⟨h3, _, rfl, st6.done, ?_⟩
   refine zn ?_
   first | (simp [smallX]; intros; omega) | (simp [smallX, not_all (p := smallR) hr (by simp [smallR]; intros; omega)]; done) | (simp [smallX, not_all (p := smallD) hd (by simp [smallD]; intros; omega)]; done) | (simp [smallX, all_of_take hA (by omega), all_of_take hB (by omega)]; omega)
  ·
   replace c9 := of_decide_eq_false c9
   refine zo<|U<|zg<|W.sr<|v_asI X X<|Y<|zr ?_
   refine zN [2, 3, 16, 17, 18, 19, 20, 21, 22, 23, 24, 25, 26, 27, 28, 29, 30, 31, 32, 33, 34, 35, 36, 37, 38, 39, 40] (G := Nat × Heap) (fun ⟨i, h10⟩ => [(3, .int .i64 (i : Int))]) (fun ⟨i, h10⟩ w' => Le h3 h10 ∧ St h w h10 w' [] ∧ (i ≤ x.rules.length) ∧ ((x.rules.take i).all smallR = true)) (fun ⟨i, h10⟩ => x.rules.length - i) ⟨0, h3⟩ ⟨rfl, trivial⟩ ⟨Le.refl _, st6, zV, zV⟩ ?_
   rintro ⟨i, h10⟩ _ w13 ⟨le11, st12, hi, hA⟩
   refine zg<|W.sr<|v_mvI X X<|v_field_addr X Tryz.underlying28 X Tryz.sizeOf25 X X<|v_load_cells1 (j := 0) st12.sub (hc5.up le11) X X X Tryz.isAgg25 X<|v_len (x_f0.up (le4.trans le11)) X Tryz.underlying25 X<|v_lss X X X<|Y ?_
   refine zh rfl (fun c14 => ?_) (fun c14 => ?_)
   ·
    replace c14 := of_decide_eq_true c14
    refine zo<|U<|zg<|zr<|W.sr<|v_field_addr X Tryz.underlying28 X Tryz.sizeOf25 X X<|v_load_cells1 (j := 0) st12.sub (hc5.up le11) X X X Tryz.isAgg25 X<|v_mvI X X ?_
    have hr : ∃ y_, (x.rules)[i]? = some y_ := ⟨_, List.getElem?_eq_getElem (by omega)⟩
    obtain ⟨r, hr⟩ := hr
    obtain ⟨b15, o16, _, he18, hc17, hr_r⟩ := Sl.elem (x_f0.up (le4.trans le11)) hr
    obtain ⟨rfl, ls19, ls20⟩ := hr_r
    simp only [big] at ls19
    simp only [big] at ls20
    refine v_index_el he18 X X (hk := X) (hu := Tryz.underlying25) (hz := Tryz.sizeOf70) X<|v_field_addr X Tryz.underlying70 X Tryz.sizeOf9 X X<|v_load_cells1 (j := 0) st12.sub hc17 X X X Tryz.isAgg9 X<|v_len_str X Tryz.underlying9 X<|v_gtr X X X<|v_mvB X X ?_
    refine zp (d := 31) rfl (fun g21 => ?_) (fun g21 => ?_)
    ·
     replace g21 := of_decide_eq_true g21
     refine M X X X X X<|M X X X X X<|M X X X X X<|M X X X X X<|M X X X X X<|M X X X X X<|M X X X X X<|M X X X X X<|v_pickT (v := (.bool _)) X X X<|Y ?_
     refine zh rfl (fun c22 => ?_) (fun c22 => ?_)
     ·
      refine W.sr<|v_asB X X<|Y<|zk<|zw<|zd<|zd<|zw<|zd<|O Tryz.results59 ?_
      refine ⟨h10, _, rfl, st12.done, ?_⟩
      refine zn ?_
      first | (simp [smallX]; intros; omega) | (simp [smallX, not_all (p := smallR) hr (by simp [smallR]; intros; omega)]; done) | (simp [smallX, not_all (p := smallD) hd (by simp [smallD]; intros; omega)]; done) | (simp [smallX, all_of_take hA (by omega), all_of_take hB (by omega)]; omega)
     ·
      cases c22
    ·
     replace g21 := of_decide_eq_false g21
     refine Z X X (d := 31) X<|v_field_addr X Tryz.underlying28 X Tryz.sizeOf25 X X<|Z X X (d := 31) X<|v_load_cells1 (j := 0) st12.sub (hc5.up le11) X X X Tryz.isAgg25 X<|Z X X (d := 31) X<|v_mvI X X<|Z X X (d := 31) X<|v_index_el he18 X X (hk := X) (hu := Tryz.underlying25) (hz := Tryz.sizeOf70) X<|Z X X (d := 31) X<|v_field_addr X Tryz.underlying70 X Tryz.sizeOf9 X X<|Z X X (d := 31) X<|v_load_cells1 (j := 1) st12.sub hc17 X X X Tryz.isAgg9 X<|Z X X (d := 31) X<|v_len_str X Tryz.underlying9 X<|Z X X (d := 31) X<|v_gtr X X X<|v_pickF (v := (.bool _)) X X X<|Y ?_
     refine zh rfl (fun c23 => ?_) (fun c23 => ?_)
     ·
      replace c23 := of_decide_eq_true c23
      refine W.sr<|v_asB X X<|Y<|zk<|zw<|zd<|zd<|zw<|zd<|O Tryz.results59 ?_
      refine ⟨h10, _, rfl, st12.done, ?_⟩
      refine zn ?_
      first | (simp [smallX]; intros; omega) | (simp [smallX, not_all (p := smallR) hr (by simp [smallR]; intros; omega)]; done) | (simp [smallX, not_all (p := smallD) hd (by simp [smallD]; intros; omega)]; done) | (simp [smallX, all_of_take hA (by omega), all_of_take hB (by omega)]; omega)
     ·
      replace c23 := of_decide_eq_false c23
      refine zo<|zz<|U<|zm<|v_mvI X X<|v_add X X t_om X<|v_asI X X<|Y ?_
      refine ⟨⟨i + 1, h10⟩, ⟨rfl, trivial⟩, ?_, ⟨le11, st12, ?_, ?_⟩, ?_⟩
      ·exact zR
      ·first | omega | (simp; omega)
      ·exact all_take_succ hA hr (by have q := g21; have q2 := c23; simp [smallR]; omega)
      ·show x.rules.length - ((i + 1)) < x.rules.length - i
       omega
   ·
    replace c14 := of_decide_eq_false c14
    refine zP<|zi<|zi<|zJ<|U<|zg<|W.sr<|v_asI X X<|Y<|zr ?_
    refine zN [2, 4, 5, 41, 42, 43, 44, 45, 46, 47, 48, 49, 50, 51, 52, 53, 54, 55, 56, 57, 58, 59, 60, 61, 62, 63] (G := Nat × Heap) (fun ⟨k, h24⟩ => [(4, .int .i64 (k : Int))]) (fun ⟨k, h24⟩ w' => Le h10 h24 ∧ St h w h24 w' [] ∧ (k ≤ x.decisions.length) ∧ ((x.decisions.take k).all smallD = true)) (fun ⟨k, h24⟩ => x.decisions.length - k) ⟨0, h10⟩ ⟨rfl, trivial⟩ ⟨Le.refl _, st12, zV, zV⟩ ?_
    rintro ⟨k, h24⟩ _ w27 ⟨le25, st26, hk, hB⟩
    refine zg<|W.sr<|v_mvI X X<|v_field_addr X Tryz.underlying28 X Tryz.sizeOf26 X X<|v_load_cells1 (j := 1) st26.sub (hc5.up (le11.trans le25)) X X X Tryz.isAgg26 X<|v_len (x_f1.up ((le4.trans le11).trans le25)) X Tryz.underlying26 X<|v_lss X X X<|Y ?_
    refine zh rfl (fun c28 => ?_) (fun c28 => ?_)
    ·
     replace c28 := of_decide_eq_true c28
     refine zo<|U<|zg<|zr<|W.sr<|v_field_addr X Tryz.underlying28 X Tryz.sizeOf26 X X<|v_load_cells1 (j := 1) st26.sub (hc5.up (le11.trans le25)) X X X Tryz.isAgg26 X<|v_mvI X X ?_
     have hd : ∃ y_, (x.decisions)[k]? = some y_ := ⟨_, List.getElem?_eq_getElem (by omega)⟩
     obtain ⟨d, hd⟩ := hd
     obtain ⟨b29, o30, _, he32, hc31, hr_d⟩ := Sl.elem (x_f1.up ((le4.trans le11).trans le25)) hd
     obtain ⟨rfl, lu33, ls34, ls35, lu36⟩ := hr_d
     simp only [big] at ls34
     simp only [big] at ls35
     refine v_index_el he32 X X (hk := X) (hu := Tryz.underlying26) (hz := Tryz.sizeOf34) X<|v_load_call st26.sub hc31 X Tryz.isAgg34 Tryz.sizeOf34 X X<|zy st26 Tryz.zeroValue34 X X ?_
     intro b37 w38 st39
     refine zq st39 (k := 0) X X X (E X (E X (E X (E X (E X (E X (E X (E X (E X zI))))))))) Tryz.sizeOf34 X X X ?_
     intro w40 st41
     obtain ⟨h42, le43, hb44, st46⟩ := st41.freeze (k := 0) rfl
     have hc45 := Cells.of hb44
     refine Y<|W.sr<|v_field_addr X Tryz.underlying34 X Tryz.sizeOf9 X X<|v_load_cells1 (j := 2) st46.sub hc45 X X X Tryz.isAgg9 X<|v_len_str X Tryz.underlying9 X<|v_gtr X X X<|v_mvB X X ?_
     refine zp (d := 57) rfl (fun g47 => ?_) (fun g47 => ?_)
     ·
      replace g47 := of_decide_eq_true g47
      refine M X X X X X<|M X X X X X<|M X X X X X<|M X X X X X<|M X X X X X<|v_pickT (v := (.bool _)) X X X<|Y ?_
      refine zh rfl (fun c48 => ?_) (fun c48 => ?_)
      ·
       refine W.sr<|v_asB X X<|Y<|zk<|zw<|zd<|zd<|zw<|zd<|O Tryz.results59 ?_
       refine ⟨h42, _, rfl, st46.done, ?_⟩
       refine zn ?_
       first | (simp [smallX]; intros; omega) | (simp [smallX, not_all (p := smallR) hr (by simp [smallR]; intros; omega)]; done) | (simp [smallX, not_all (p := smallD) hd (by simp [smallD]; intros; omega)]; done) | (simp [smallX, all_of_take hA (by omega), all_of_take hB (by omega)]; omega)
      ·
       cases c48
     ·
      replace g47 := of_decide_eq_false g47
      refine Z X X (d := 57) X<|v_field_addr X Tryz.underlying34 X Tryz.sizeOf32 X X<|Z X X (d := 57) X<|v_field_addr X Tryz.underlying32 X Tryz.sizeOf9 X X<|Z X X (d := 57) X<|v_load_cells1 (j := 6) st46.sub hc45 X X X Tryz.isAgg9 X<|Z X X (d := 57) X<|v_len_str X Tryz.underlying9 X<|Z X X (d := 57) X<|v_gtr X X X<|v_pickF (v := (.bool _)) X X X<|Y ?_
      refine zh rfl (fun c49 => ?_) (fun c49 => ?_)
      ·
       replace c49 := of_decide_eq_true c49
       refine W.sr<|v_asB X X<|Y<|zk<|zw<|zd<|zd<|zw<|zd<|O Tryz.results59 ?_
       refine ⟨h42, _, rfl, st46.done, ?_⟩
       refine zn ?_
       first | (simp [smallX]; intros; omega) | (simp [smallX, not_all (p := smallR) hr (by simp [smallR]; intros; omega)]; done) | (simp [smallX, not_all (p := smallD) hd (by simp [smallD]; intros; omega)]; done) | (simp [smallX, all_of_take hA (by omega), all_of_take hB (by omega)]; omega)
      ·
       replace c49 := of_decide_eq_false c49
       refine zo<|zz<|U<|zm<|v_mvI X X<|v_add X X t_om X<|v_asI X X<|Y ?_
       refine ⟨⟨k + 1, h42⟩, ⟨rfl, trivial⟩, ?_, ⟨(le25.trans le43), st46.take 0, ?_, ?_⟩, ?_⟩
       ·exact zR
       ·first | omega | (simp; omega)
       ·exact all_take_succ hB hd (by have q := g47; have q2 := c49; simp [smallD]; omega)
       ·show x.decisions.length - ((k + 1)) < x.decisions.length - k
        omega
    ·
     replace c28 := of_decide_eq_false c28
     refine zP<|zi<|zi<|zJ<|U<|W.sr<|v_asB X X<|Y<|zk<|O Tryz.results59 ?_
     refine ⟨h24, _, rfl, st26.done, ?_⟩
     refine zn ?_
     first | (simp [smallX]; intros; omega) | (simp [smallX, not_all (p := smallR) hr (by simp [smallR]; intros; omega)]; done) | (simp [smallX, not_all (p := smallD) hd (by simp [smallD]; intros; omega)]; done) | (simp [smallX, all_of_take hA (by omega), all_of_take hB (by omega)]; omega)
end Go.Pk

namespace Go.Pk
open Go Go.RowKit Go.Proofs
end Go.Pk

namespace Go.Pk
open Go Go.RowKit Go.Proofs
set_option maxRecDepth 4000 in
theorem c_cmp_isNaN_int {h : Heap} {w : World} (hs : Sub h w) (x : Int) : Calls Tryz.prog 204 #[.int .i64 x] w (Rets h w (fun _ _ res_ => res_ = .bool (false))) := by
 refine zx (n := 6) (args := [.int .i64 x]) Tryz.func204 X X X ?_
 have st0 : St h w h w [] := St.start hs
 refine W.sr<|v_asB X X<|Y<|W.sr<|v_mvI X X<|v_mvI X X<|v_neq X X X<|v_asB X X<|Y<|zk<|O Tryz.results204 ?_
 refine ⟨h, _, rfl, st0.done, ?_⟩
 refine zn ?_
 simp
set_option maxRecDepth 4000 in
theorem c_cmp_Compare_int {h : Heap} {w : World} (hs : Sub h w) (a : Int) (b : Int) : Calls Tryz.prog 216 #[.int .i64 a, .int .i64 b] w (Rets h w (fun _ _ res_ => res_ = .int .i64 (cmpI a b))) := by
 refine zx (n := 20) (args := [.int .i64 a, .int .i64 b]) Tryz.func216 X X X ?_
 have st0 : St h w h w [] := St.start hs
 refine W.sr<|v_asI X X<|Y<|W.sr<|v_mvI X X<|za st0 X X X Tryz.call204 X (c_cmp_isNaN_int st0.sub _) ?_
 intro r1 w2 h3 le4 st5 q6
 obtain rfl := q6
 refine v_asB X X<|Y<|W.sr<|v_mvI X X<|za st5 X X X Tryz.call204 X (c_cmp_isNaN_int st5.sub _) ?_
 intro r7 w8 h9 le10 st11 q12
 obtain rfl := q12
 refine v_asB X X<|Y<|zg<|W.sr<|v_mvB X X<|Y ?_
 refine zh rfl (fun c13 => ?_) (fun c13 => ?_)
 ·
  refine zg<|W.sr<|v_mvB X X<|Y ?_
  refine zh rfl (fun c14 => ?_) (fun c14 => ?_)
  ·
   refine W.sr<|v_asI X X<|Y<|zk<|zd<|zd<|O Tryz.results216 ?_
   refine ⟨h9, _, rfl, st11.done, ?_⟩
   refine zC ?_
   all_goals (unfold cmpI; repeat' split)
   all_goals (first | omega | simp_all | rfl)
  ·
   refine zo<|U<|W.sr<|v_asI X X<|Y<|zk<|zd<|O Tryz.results216 ?_
   refine ⟨h9, _, rfl, st11.done, ?_⟩
   refine zC ?_
   all_goals (unfold cmpI; repeat' split)
   all_goals (first | omega | simp_all | rfl)
 ·
  refine zo<|U<|zg<|W.sr<|v_mvB X X<|Y ?_
  refine zh rfl (fun c15 => ?_) (fun c15 => ?_)
  ·
   refine W.sr<|v_asI X X<|Y<|zk<|zd<|O Tryz.results216 ?_
   refine ⟨h9, _, rfl, st11.done, ?_⟩
   refine zC ?_
   all_goals (unfold cmpI; repeat' split)
   all_goals (first | omega | simp_all | rfl)
  ·
   refine zo<|U<|zg<|W.sr<|v_mvI X X<|v_mvI X X<|v_lss X X X<|Y ?_
   refine zh rfl (fun c16 => ?_) (fun c16 => ?_)
   ·
    replace c16 := of_decide_eq_true c16
    refine W.sr<|v_asI X X<|Y<|zk<|zd<|O Tryz.results216 ?_
    refine ⟨h9, _, rfl, st11.done, ?_⟩
    refine zC ?_
    all_goals (unfold cmpI; repeat' split)
    all_goals (first | omega | simp_all | rfl)
   ·
    replace c16 := of_decide_eq_false c16
    refine zo<|U<|zg<|W.sr<|v_mvI X X<|v_mvI X X<|v_gtr X X X<|Y ?_
    refine zh rfl (fun c17 => ?_) (fun c17 => ?_)
    ·
     replace c17 := of_decide_eq_true c17
     refine W.sr<|v_asI X X<|Y<|zk<|zd<|O Tryz.results216 ?_
     refine ⟨h9, _, rfl, st11.done, ?_⟩
     refine zC ?_
     all_goals (unfold cmpI; repeat' split)
     all_goals (first | omega | simp_all | rfl)
    ·
     replace c17 := of_decide_eq_false c17
     refine zo<|U<|W.sr<|v_asI X X<|Y<|zk<|O Tryz.results216 ?_
     refine ⟨h9, _, rfl, st11.done, ?_⟩
     refine zC ?_
     all_goals (unfold cmpI; repeat' split)
     all_goals (first | omega | simp_all | rfl)
set_option maxRecDepth 4000 in
theorem c_slices_Compare_Lint_int {h : Heap} {w : World} (hs : Sub h w) {a_v : Value} {a : (List Int)} (a_f : Sl LInt h a_v a) {b_v : Value} {b : (List Int)} (b_f : Sl LInt h b_v b) : Calls Tryz.prog 219 #[a_v, b_v] w (Rets h w (fun _ _ res_ => res_ = .int .i64 (cmpL a b))) := by
 refine zx (n := 36) (args := [a_v, b_v]) Tryz.func219 X X X ?_
 have st0 : St h w h w [] := St.start hs
 have a_f_b := a_f.le
 have b_f_b := b_f.le
 refine W.sr<|v_asI X X<|Y<|zg<|W.sr<|v_move (v := a_v) X X<|v_len a_f X Tryz.underlying46 X<|v_mvI X X<|Y<|zr ?_
 refine zN [4, 5, 6, 7, 8, 11, 12, 13, 14, 15, 16, 17, 18, 19, 20, 21, 22, 23, 24, 25, 26, 27, 28, 29, 30] (G := Nat × Heap) (fun ⟨k, h1⟩ => [(11, .int .i64 (k : Int))]) (fun ⟨k, h1⟩ w' => Le h h1 ∧ St h w h1 w' [] ∧ (k ≤ a.length) ∧ (k ≤ b.length) ∧ (cmpL a b = cmpL (a.drop k) (b.drop k))) (fun ⟨k, h1⟩ => a.length - k) ⟨0, h⟩ ⟨rfl, trivial⟩ ⟨Le.refl _, st0, zV, zV, (by rfl)⟩ ?_
 rintro ⟨k, h1⟩ _ w4 ⟨le2, st3, hk, hkb, he⟩
 refine W.sr<|v_lss X X X<|Y<|zg ?_
 refine zh rfl (fun c5 => ?_) (fun c5 => ?_)
 ·
  replace c5 := of_decide_eq_true c5
  refine zo<|U<|zg<|zr<|W.sr<|v_mvI X X ?_
  have hx : ∃ y_, (a)[k]? = some y_ := ⟨_, List.getElem?_eq_getElem (by omega)⟩
  obtain ⟨x, hx⟩ := hx
  obtain ⟨b6, o7, _, he9, hc8, hr_x⟩ := Sl.elem (a_f.up le2) hx
  obtain rfl := hr_x
  refine v_index_el he9 X X (hk := X) (hu := Tryz.underlying46) (hz := Tryz.sizeOf3) X<|v_load_cells1 (j := 0) st3.sub hc8 X X X Tryz.isAgg3 X<|v_asI X X<|v_asI X X<|Y<|zg<|W.sr<|v_mvI X X<|v_move (v := b_v) X X<|v_len (b_f.up le2) X Tryz.underlying46 X<|v_geq X X X<|Y ?_
  refine zh rfl (fun c10 => ?_) (fun c10 => ?_)
  ·
   replace c10 := of_decide_eq_true c10
   refine W.sr<|v_asI X X<|Y<|zk<|zd<|zw<|zd<|zd<|zw<|zd<|O Tryz.results219 ?_
   refine ⟨h1, _, rfl, st3.done, ?_⟩
   refine zC ?_
   rw [he, cmpL_cons_nil (List.drop_eq_nil_of_le (by omega)) (by intro q; have := List.drop_eq_nil_iff.1 q; omega)]
  ·
   replace c10 := of_decide_eq_false c10
   refine zo<|U<|W.sr<|v_move (v := b_v) X X<|v_mvI X X ?_
   have hy : ∃ y_, (b)[k]? = some y_ := ⟨_, List.getElem?_eq_getElem (by omega)⟩
   obtain ⟨y, hy⟩ := hy
   obtain ⟨b11, o12, _, he14, hc13, hr_y⟩ := Sl.elem (b_f.up le2) hy
   obtain rfl := hr_y
   refine v_index_el he14 X X (hk := X) (hu := Tryz.underlying46) (hz := Tryz.sizeOf3) X<|v_load_cells1 (j := 0) st3.sub hc13 X X X Tryz.isAgg3 X<|v_asI X X<|Y<|W.sr<|v_mvI X X<|v_mvI X X<|za st3 X X X Tryz.call216 X (c_cmp_Compare_int st3.sub _ _) ?_
   intro r15 w16 h17 le18 st19 q20
   obtain rfl := q20
   refine v_asI X X<|Y<|W.sr<|v_mvI X X<|v_neq X X X<|Y ?_
   refine zh rfl (fun c21 => ?_) (fun c21 => ?_)
   ·
    replace c21 := of_decide_eq_true c21
    refine W.sr<|v_mvI X X<|v_asI X X<|Y<|zk<|zw<|zd<|zd<|zw<|zd<|O Tryz.results219 ?_
    refine ⟨h17, _, rfl, st19.done, ?_⟩
    refine zC ?_
    rw [he, cmpL_step hx hy, if_pos (by simpa using c21)]
   ·
    replace c21 := of_decide_eq_false c21
    refine zo<|zz<|U<|zm<|v_add X X t_om X<|v_mvI X X<|Y ?_
    refine ⟨⟨k + 1, h17⟩, ⟨rfl, trivial⟩, ?_, ⟨(le2.trans le18), st19, ?_, ?_, ?_⟩, ?_⟩
    ·exact zR
    ·first | omega | (simp; omega)
    ·have := (List.getElem?_eq_some_iff.1 hy).1; omega
    ·rw [he, cmpL_step hx hy, if_neg (by simpa using c21)]
    ·show a.length - ((k + 1)) < a.length - k
     omega
 ·
  replace c5 := of_decide_eq_false c5
  refine zP<|zi<|zi<|zJ<|U<|zg<|W.sr<|v_move (v := a_v) X X<|v_len (a_f.up le2) X Tryz.underlying46 X<|v_move (v := b_v) X X<|v_len (b_f.up le2) X Tryz.underlying46 X<|v_lss X X X<|Y ?_
  refine zh rfl (fun c22 => ?_) (fun c22 => ?_)
  ·
   replace c22 := of_decide_eq_true c22
   refine W.sr<|v_asI X X<|Y<|zk<|zd<|O Tryz.results219 ?_
   refine ⟨h1, _, rfl, st3.done, ?_⟩
   refine zC ?_
   rw [he, cmpL_nil_cons (List.drop_eq_nil_of_le (by omega)) (by intro q; have := List.drop_eq_nil_iff.1 q; omega)]
  ·
   replace c22 := of_decide_eq_false c22
   refine zo<|U<|W.sr<|v_asI X X<|Y<|zk<|O Tryz.results219 ?_
   refine ⟨h1, _, rfl, st3.done, ?_⟩
   refine zC ?_
   rw [he, List.drop_eq_nil_of_le (by omega), List.drop_eq_nil_of_le (by omega)]; rfl
set_option maxRecDepth 4000 in
theorem c_stem_order {h : Heap} {w : World} (hs : Sub h w) {a : Place} {b : Place} : Calls Tryz.prog 195 #[.agg #[.int .i64 a.chapter, .int .i64 a.line, .int .i64 a.word], .agg #[.int .i64 b.chapter, .int .i64 b.line, .int .i64 b.word]] w (Rets h w (fun _ _ res_ => res_ = .int .i64 (ordI a b))) := by
 refine zx (n := 24) (args := [.agg #[.int .i64 a.chapter, .int .i64 a.line, .int .i64 a.word], .agg #[.int .i64 b.chapter, .int .i64 b.line, .int .i64 b.word]]) Tryz.func195 X X X ?_
 have st0 : St h w h w [] := St.start hs
 refine W.sr<|zl st0 (cs := [.int .i64 (a.chapter), .int .i64 (a.line), .int .i64 (a.word)]) X X X ?_
 intro b1 w2 h3 le4 hc5 st6
 refine zl st6 (cs := [.int .i64 (b.chapter), .int .i64 (b.line), .int .i64 (b.word)]) X X X ?_
 intro b7 w8 h9 le10 hc11 st12
 refine v_asI X X<|Y<|zg<|zZ (er := ([], [], [], [], 0)) (dsts := [7, 8, 9, 10, 11, 12, 13, 14, 15, 16, 17, 18, 19, 20, 5, 6]) st12 Tryz.mixed<|zc 0 [] X t_kr t_kr X X (fun hD wD τD hL hS hO  => (zA X Tryz.underlying30 X Tryz.sizeOf3 X))<|zc 1 [0] X t_kr t_kr X X (fun hD wD τD hL hS hO _ _ => (zf (j := 0) (hL.sub hS) (hc5.up le10) X X X Tryz.isAgg3))<|zc 2 [] X t_kr t_kr X X (fun hD wD τD hL hS hO  => (zA X Tryz.underlying30 X Tryz.sizeOf3 X))<|zc 3 [0] X t_kr t_kr X X (fun hD wD τD hL hS hO _ _ => (zf (j := 1) (hL.sub hS) (hc5.up le10) X X X Tryz.isAgg3))<|zc 4 [] X t_kr t_kr X X (fun hD wD τD hL hS hO  => (zA X Tryz.underlying30 X Tryz.sizeOf3 X))<|zc 5 [0] X t_kr t_kr X X (fun hD wD τD hL hS hO _ _ => (zf (j := 2) (hL.sub hS) (hc5.up le10) X X X Tryz.isAgg3))<|zc 6 [4, 2, 0] X t_kr t_kr X X (fun hD wD τD hL hS hO _ _ _ _ _ _ => (zY (cs := [.int .i64 (a.chapter), .int .i64 (a.line), .int .i64 (a.word)]) t_kr))<|zc 7 [] X t_kr t_kr X X (fun hD wD τD hL hS hO  => (zA X Tryz.underlying30 X Tryz.sizeOf3 X))<|zc 8 [0] X t_kr t_kr X X (fun hD wD τD hL hS hO _ _ => (zf (j := 0) (hL.sub hS) hc11 X X X Tryz.isAgg3))<|zc 9 [] X t_kr t_kr X X (fun hD wD τD hL hS hO  => (zA X Tryz.underlying30 X Tryz.sizeOf3 X))<|zc 10 [0] X t_kr t_kr X X (fun hD wD τD hL hS hO _ _ => (zf (j := 1) (hL.sub hS) hc11 X X X Tryz.isAgg3))<|zc 11 [] X t_kr t_kr X X (fun hD wD τD hL hS hO  => (zA X Tryz.underlying30 X Tryz.sizeOf3 X))<|zc 12 [0] X t_kr t_kr X X (fun hD wD τD hL hS hO _ _ => (zf (j := 2) (hL.sub hS) hc11 X X X Tryz.isAgg3))<|zc 13 [4, 2, 0] X t_kr t_kr X X (fun hD wD τD hL hS hO _ _ _ _ _ _ => (zY (cs := [.int .i64 (b.chapter), .int .i64 (b.line), .int .i64 (b.word)]) t_kr))<|Drw.al Tryz.zeroValue275 X<|Drw.al Tryz.zeroValue275 X<|Drw.ch<|Drw.ch<|Drw.nil X X X X X X ⟨t_kr, X, t_kr, X, t_kr, X, X, t_kr, (zaf X (zaf X cx_nil))⟩ ?_
 intro b13
 intro b14
 intro hE16 w17 _ le18 st19 _ _ _ _ _ _ _ _ _ _ _ _ _ _
 refine zq st19 (k := 0) X X X (E X (E X (E X zI))) Tryz.sizeOf275 X X X ?_
 intro w20 st21
 obtain ⟨h22, le23, hb24, st26⟩ := st21.freeze (k := 0) rfl
 have hc25 := Cells.of hb24
 refine zj ⟨undef, rfl, _, _, le23, st26, ?_⟩
 intro hE28 w29 _ le30 st31 _ _ _ _ _ _ _ _ _ _ _ _ _ _ _ _ _ _ _ _ _ _ _ _ _ _ _ _
 refine zq st31 (k := 1) X X X (E X (E X (E X zI))) Tryz.sizeOf275 X X X ?_
 intro w32 st33
 obtain ⟨h34, le35, hb36, st38⟩ := st33.freeze (k := 1) rfl
 have hc37 := Cells.of hb36
 refine zj ⟨undef, rfl, _, _, le35, st38, ?_⟩
 intro hE39 w40 _ le41 st42 _ _ _ _ _ _ _ _ _ _ _ _ _ _ _ _ _ _ _ _ _ _ _ _ _ _ _ _
 refine AllDeps.fin X<|U<|zg<|W.regionQ Tryz.mixed t_kr (Cls hE39 _) (Cls.drew st42) ?_
 have fa45 := Sl.ofCells (L := LInt) (xs := [(a.chapter), (a.line), (a.word)]) hc25 (Enc.cons (L := LInt) (vs := [.int .i64 (a.chapter)]) (x := (a.chapter)) (h := h22) (rfl) (Enc.cons (L := LInt) (vs := [.int .i64 (a.line)]) (x := (a.line)) (h := h22) (rfl) (Enc.cons (L := LInt) (vs := [.int .i64 (a.word)]) (x := (a.word)) (h := h22) (rfl) Enc.nil))) (by simp [big])
 refine zt X X (fun _ _ => (r_slice_arr X Tryz.underlying275 Tryz.sizeOf3)) ?_
 have fa47 := Sl.ofCells (L := LInt) (xs := [(b.chapter), (b.line), (b.word)]) hc37 (Enc.cons (L := LInt) (vs := [.int .i64 (b.chapter)]) (x := (b.chapter)) (h := h34) (rfl) (Enc.cons (L := LInt) (vs := [.int .i64 (b.line)]) (x := (b.line)) (h := h34) (rfl) (Enc.cons (L := LInt) (vs := [.int .i64 (b.word)]) (x := (b.word)) (h := h34) (rfl) Enc.nil))) (by simp [big])
 refine zt X X (fun _ _ => (r_slice_arr X Tryz.underlying275 Tryz.sizeOf3))<|OpsQ.calls X X (fun _ => zS X Tryz.call219 X) (fun _ hC => Rets.quiet hC (c_slices_Compare_Lint_int hC.sub (fa45.up ((le30.trans le35).trans le41)) (fa47.up le41)))<|u_asI X X<|OpsQ.nil ?_
 rintro w48 ⟨h49, s50⟩
 have st51 := st42.call0 s50
 refine U<|zk<|O Tryz.results195 ?_
 refine ⟨h49, _, rfl, st51.done, ?_⟩
 refine zC ?_
 rfl
set_option maxRecDepth 4000 in
theorem c_stem_first {h : Heap} {w : World} (hs : Sub h w) {a : Decision} (a_l2 : 0 ≤ a.kind ∧ a.kind ≤ 255) (a_l3 : a.form.length ≤ 281474976710656) (a_l7 : a.to.stem.length ≤ 281474976710656) (a_l8 : 0 ≤ a.to.mark ∧ a.to.mark ≤ 255) {b : Decision} (b_l2 : 0 ≤ b.kind ∧ b.kind ≤ 255) (b_l3 : b.form.length ≤ 281474976710656) (b_l7 : b.to.stem.length ≤ 281474976710656) (b_l8 : 0 ≤ b.to.mark ∧ b.to.mark ≤ 255) (ha : 0 ≤ a.number ∧ a.number ≤ 999) (hb : 0 ≤ b.number ∧ b.number ≤ 999) : Calls Tryz.prog 139 #[.agg #[.int .i64 a.number, .int .u8 a.kind, strV a.form, .int .i64 a.at_.chapter, .int .i64 a.at_.line, .int .i64 a.at_.word, strV a.to.stem, .int .u8 a.to.mark, .int .i64 a.of_], .agg #[.int .i64 b.number, .int .u8 b.kind, strV b.form, .int .i64 b.at_.chapter, .int .i64 b.at_.line, .int .i64 b.at_.word, strV b.to.stem, .int .u8 b.to.mark, .int .i64 b.of_]] w (Rets h w (fun _ _ res_ => res_ = .int .i64 (firstI a b))) := by
 refine zx (n := 39) (args := [.agg #[.int .i64 a.number, .int .u8 a.kind, strV a.form, .int .i64 a.at_.chapter, .int .i64 a.at_.line, .int .i64 a.at_.word, strV a.to.stem, .int .u8 a.to.mark, .int .i64 a.of_], .agg #[.int .i64 b.number, .int .u8 b.kind, strV b.form, .int .i64 b.at_.chapter, .int .i64 b.at_.line, .int .i64 b.at_.word, strV b.to.stem, .int .u8 b.to.mark, .int .i64 b.of_]]) Tryz.func139 X X X ?_
 have st0 : St h w h w [] := St.start hs
 refine W.sr<|zl st0 (cs := [.int .i64 (a.number), .int .u8 (a.kind), strV (a.form), .int .i64 (a.at_.chapter), .int .i64 (a.at_.line), .int .i64 (a.at_.word), strV (a.to.stem), .int .u8 (a.to.mark), .int .i64 (a.of_)]) X X X ?_
 intro b1 w2 h3 le4 hc5 st6
 refine zl st6 (cs := [.int .i64 (b.number), .int .u8 (b.kind), strV (b.form), .int .i64 (b.at_.chapter), .int .i64 (b.at_.line), .int .i64 (b.at_.word), strV (b.to.stem), .int .u8 (b.to.mark), .int .i64 (b.of_)]) X X X ?_
 intro b7 w8 h9 le10 hc11 st12
 refine v_asI X X<|Y<|zg<|zr<|W.sr<|v_field_addr X Tryz.underlying34 X Tryz.sizeOf5 X X<|v_load_cells1 (j := 1) st12.sub (hc5.up le10) X X X Tryz.isAgg5 X<|v_field_addr X Tryz.underlying34 X Tryz.sizeOf5 X X<|v_load_cells1 (j := 1) st12.sub hc11 X X X Tryz.isAgg5 X<|v_neq X X X<|v_asB X X<|Y ?_
 refine zh rfl (fun c13 => ?_) (fun c13 => ?_)
 ·
  replace c13 := of_decide_eq_true c13
  refine W.sr<|v_field_addr X Tryz.underlying34 X Tryz.sizeOf5 X X<|v_load_cells1 (j := 1) st12.sub (hc5.up le10) X X X Tryz.isAgg5 X ?_
  refine ze rfl rfl (r_conv_int rfl rfl Tryz.underlying3 (IntWalk.i64_in _ (by omega))) ?_
  refine v_field_addr X Tryz.underlying34 X Tryz.sizeOf5 X X<|v_load_cells1 (j := 1) st12.sub hc11 X X X Tryz.isAgg5 X ?_
  refine ze rfl rfl (r_conv_int rfl rfl Tryz.underlying3 (IntWalk.i64_in _ (by omega))) ?_
  refine v_sub X X t_om X<|v_asI X X<|Y<|zk<|zw<|zd<|O Tryz.results139 ?_
  refine ⟨h9, _, rfl, st12.done, ?_⟩
  refine zC ?_
  simp_all [firstI]
 ·
  replace c13 := of_decide_eq_false c13
  refine W.sr<|v_field_addr X Tryz.underlying34 X Tryz.sizeOf5 X X<|v_load_cells1 (j := 1) st12.sub (hc5.up le10) X X X Tryz.isAgg5 X<|v_eql X X X<|v_mvB X X ?_
  refine zp (d := 22) rfl (fun g14 => ?_) (fun g14 => ?_)
  ·
   replace g14 := of_decide_eq_true g14
   refine Z X X (d := 22) X<|v_field_addr X Tryz.underlying34 X Tryz.sizeOf30 X X<|Z X X (d := 22) X<|v_load_cellsN (j := 3) st12.sub (hc5.up le10) (us := [.int .i64 (a.at_.chapter), .int .i64 (a.at_.line), .int .i64 (a.at_.word)]) X X Tryz.isAgg30 Tryz.sizeOf30 X X X<|Z X X (d := 22) X<|v_field_addr X Tryz.underlying34 X Tryz.sizeOf30 X X<|Z X X (d := 22) X<|v_load_cellsN (j := 3) st12.sub hc11 (us := [.int .i64 (b.at_.chapter), .int .i64 (b.at_.line), .int .i64 (b.at_.word)]) X X Tryz.isAgg30 Tryz.sizeOf30 X X X<|Z X X (d := 22) X<|ze X X (r_stneq X X Tryz.eqGuardType30 (Tryz.eq_Place a.at_ b.at_))<|v_pickT (v := (.bool _)) X X X<|v_asB X X<|Y ?_
   refine zh rfl (fun c15 => ?_) (fun c15 => ?_)
   ·
    replace c15 := of_decide_eq_true c15
    refine W.sr<|v_field_addr X Tryz.underlying34 X Tryz.sizeOf30 X X<|v_load_cellsN (j := 3) st12.sub (hc5.up le10) (us := [.int .i64 (a.at_.chapter), .int .i64 (a.at_.line), .int .i64 (a.at_.word)]) X X Tryz.isAgg30 Tryz.sizeOf30 X X X<|v_field_addr X Tryz.underlying34 X Tryz.sizeOf30 X X<|v_load_cellsN (j := 3) st12.sub hc11 (us := [.int .i64 (b.at_.chapter), .int .i64 (b.at_.line), .int .i64 (b.at_.word)]) X X Tryz.isAgg30 Tryz.sizeOf30 X X X<|za st12 X X X Tryz.call195 X (c_stem_order st12.sub (a := a.at_) (b := b.at_)) ?_
    intro r16 w17 h18 le19 st20 q21
    obtain rfl := q21
    refine v_asI X X<|Y<|zk<|zw<|zd<|O Tryz.results139 ?_
    refine ⟨h18, _, rfl, st20.done, ?_⟩
    refine zC ?_
    simp_all [firstI]
   ·
    replace c15 := of_decide_eq_false c15
    refine zo<|zz<|U<|W.sr<|v_field_addr X Tryz.underlying34 X Tryz.sizeOf3 X X<|v_load_cells1 (j := 0) st12.sub (hc5.up le10) X X X Tryz.isAgg3 X<|v_field_addr X Tryz.underlying34 X Tryz.sizeOf3 X X<|v_load_cells1 (j := 0) st12.sub hc11 X X X Tryz.isAgg3 X<|v_sub X X t_om X<|v_asI X X<|Y<|zk<|O Tryz.results139 ?_
    refine ⟨h9, _, rfl, st12.done, ?_⟩
    refine zC ?_
    simp_all [firstI]
  ·
   replace g14 := of_decide_eq_false g14
   refine M X X X X X<|M X X X X X<|M X X X X X<|M X X X X X<|M X X X X X<|v_pickF (v := (.bool _)) X X X<|v_asB X X<|Y ?_
   refine zh rfl (fun c22 => ?_) (fun c22 => ?_)
   ·
    cases c22
   ·
    refine zo<|zz<|U<|W.sr<|v_field_addr X Tryz.underlying34 X Tryz.sizeOf3 X X<|v_load_cells1 (j := 0) st12.sub (hc5.up le10) X X X Tryz.isAgg3 X<|v_field_addr X Tryz.underlying34 X Tryz.sizeOf3 X X<|v_load_cells1 (j := 0) st12.sub hc11 X X X Tryz.isAgg3 X<|v_sub X X t_om X<|v_asI X X<|Y<|zk<|O Tryz.results139 ?_
    refine ⟨h9, _, rfl, st12.done, ?_⟩
    refine zC ?_
    simp_all [firstI]
set_option maxRecDepth 4000 in
theorem c_stem_kinds_1 {h : Heap} {w : World} (hs : Sub h w) {d : Decision} (d_l2 : 0 ≤ d.kind ∧ d.kind ≤ 255) (d_l3 : d.form.length ≤ 281474976710656) (d_l7 : d.to.stem.length ≤ 281474976710656) (d_l8 : 0 ≤ d.to.mark ∧ d.to.mark ≤ 255) {p : Place} (wd : Str) (wd_le : wd.length ≤ 281474976710656) : Calls Tryz.prog 254 #[.agg #[.int .i64 d.number, .int .u8 d.kind, strV d.form, .int .i64 d.at_.chapter, .int .i64 d.at_.line, .int .i64 d.at_.word, strV d.to.stem, .int .u8 d.to.mark, .int .i64 d.of_], .agg #[.int .i64 p.chapter, .int .i64 p.line, .int .i64 p.word], strV wd] w (Rets h w (fun _ _ res_ => res_ = .bool (decide (d.form = wd)))) := by
 refine zx (n := 11) (args := [.agg #[.int .i64 d.number, .int .u8 d.kind, strV d.form, .int .i64 d.at_.chapter, .int .i64 d.at_.line, .int .i64 d.at_.word, strV d.to.stem, .int .u8 d.to.mark, .int .i64 d.of_], .agg #[.int .i64 p.chapter, .int .i64 p.line, .int .i64 p.word], strV wd]) Tryz.func254 X X X ?_
 have st0 : St h w h w [] := St.start hs
 refine W.sr<|zl st0 (cs := [.int .i64 (d.number), .int .u8 (d.kind), strV (d.form), .int .i64 (d.at_.chapter), .int .i64 (d.at_.line), .int .i64 (d.at_.word), strV (d.to.stem), .int .u8 (d.to.mark), .int .i64 (d.of_)]) X X X ?_
 intro b1 w2 h3 le4 hc5 st6
 refine zl st6 (cs := [.int .i64 (p.chapter), .int .i64 (p.line), .int .i64 (p.word)]) X X X ?_
 intro b7 w8 h9 le10 hc11 st12
 refine v_asB X X<|Y<|W.sr<|v_field_addr X Tryz.underlying34 X Tryz.sizeOf9 X X<|v_load_cells1 (j := 2) st12.sub (hc5.up le10) X X X Tryz.isAgg9 X<|v_mvS X X<|v_seql X X X<|v_asB X X<|Y<|zk<|O Tryz.results254 ?_
 refine ⟨h9, _, rfl, st12.done, ?_⟩
 refine zn ?_
 rfl
set_option maxRecDepth 4000 in
theorem c_stem_kinds_2 {h : Heap} {w : World} (hs : Sub h w) {d : Decision} (d_l2 : 0 ≤ d.kind ∧ d.kind ≤ 255) (d_l3 : d.form.length ≤ 281474976710656) (d_l7 : d.to.stem.length ≤ 281474976710656) (d_l8 : 0 ≤ d.to.mark ∧ d.to.mark ≤ 255) {p : Place} (wd : Str) (wd_le : wd.length ≤ 281474976710656) : Calls Tryz.prog 255 #[.agg #[.int .i64 d.number, .int .u8 d.kind, strV d.form, .int .i64 d.at_.chapter, .int .i64 d.at_.line, .int .i64 d.at_.word, strV d.to.stem, .int .u8 d.to.mark, .int .i64 d.of_], .agg #[.int .i64 p.chapter, .int .i64 p.line, .int .i64 p.word], strV wd] w (Rets h w (fun _ _ res_ => res_ = .bool ((decide (d.form = wd) && decide (ordI d.at_ p ≤ 0))))) := by
 refine zx (n := 18) (args := [.agg #[.int .i64 d.number, .int .u8 d.kind, strV d.form, .int .i64 d.at_.chapter, .int .i64 d.at_.line, .int .i64 d.at_.word, strV d.to.stem, .int .u8 d.to.mark, .int .i64 d.of_], .agg #[.int .i64 p.chapter, .int .i64 p.line, .int .i64 p.word], strV wd]) Tryz.func255 X X X ?_
 have st0 : St h w h w [] := St.start hs
 refine W.sr<|zl st0 (cs := [.int .i64 (d.number), .int .u8 (d.kind), strV (d.form), .int .i64 (d.at_.chapter), .int .i64 (d.at_.line), .int .i64 (d.at_.word), strV (d.to.stem), .int .u8 (d.to.mark), .int .i64 (d.of_)]) X X X ?_
 intro b1 w2 h3 le4 hc5 st6
 refine zl st6 (cs := [.int .i64 (p.chapter), .int .i64 (p.line), .int .i64 (p.word)]) X X X ?_
 intro b7 w8 h9 le10 hc11 st12
 refine v_asB X X<|Y<|W.sr<|v_field_addr X Tryz.underlying34 X Tryz.sizeOf9 X X<|v_load_cells1 (j := 2) st12.sub (hc5.up le10) X X X Tryz.isAgg9 X<|v_mvS X X<|v_seql X X X<|v_mvB X X ?_
 refine zp (d := 11) rfl (fun g13 => ?_) (fun g13 => ?_)
 ·
  replace g13 := of_decide_eq_true g13
  refine Z X X (d := 11) X<|v_field_addr X Tryz.underlying34 X Tryz.sizeOf30 X X<|Z X X (d := 11) X<|v_load_cellsN (j := 3) st12.sub (hc5.up le10) (us := [.int .i64 (d.at_.chapter), .int .i64 (d.at_.line), .int .i64 (d.at_.word)]) X X Tryz.isAgg30 Tryz.sizeOf30 X X X<|Z X X (d := 11) X<|v_load_call st12.sub hc11 X Tryz.isAgg30 Tryz.sizeOf30 X X<|Z X X (d := 11) X<|za st12 X X X Tryz.call195 X (c_stem_order st12.sub (a := d.at_) (b := p)) ?_
  intro r14 w15 h16 le17 st18 q19
  obtain rfl := q19
  refine Z X X (d := 11) X<|ze X X (r_leq X X)<|v_pickT (v := (.bool _)) X X X<|v_asB X X<|Y<|zk<|O Tryz.results255 ?_
  refine ⟨h16, _, rfl, st18.done, ?_⟩
  refine zn ?_
  simp_all
 ·
  replace g13 := of_decide_eq_false g13
  refine M X X X X X<|M X X X X X<|M X X X X X<|M X X X X X<|M X X X X X<|v_pickF (v := (.bool _)) X X X<|v_asB X X<|Y<|zk<|O Tryz.results255 ?_
  refine ⟨h9, _, rfl, st12.done, ?_⟩
  refine zn ?_
  simp_all
set_option maxRecDepth 4000 in
theorem c_stem_kinds_3 {h : Heap} {w : World} (hs : Sub h w) {d : Decision} (d_l2 : 0 ≤ d.kind ∧ d.kind ≤ 255) (d_l3 : d.form.length ≤ 281474976710656) (d_l7 : d.to.stem.length ≤ 281474976710656) (d_l8 : 0 ≤ d.to.mark ∧ d.to.mark ≤ 255) {p : Place} (wd : Str) (wd_le : wd.length ≤ 281474976710656) : Calls Tryz.prog 256 #[.agg #[.int .i64 d.number, .int .u8 d.kind, strV d.form, .int .i64 d.at_.chapter, .int .i64 d.at_.line, .int .i64 d.at_.word, strV d.to.stem, .int .u8 d.to.mark, .int .i64 d.of_], .agg #[.int .i64 p.chapter, .int .i64 p.line, .int .i64 p.word], strV wd] w (Rets h w (fun _ _ res_ => res_ = .bool (decide (d.at_ = p)))) := by
 refine zx (n := 11) (args := [.agg #[.int .i64 d.number, .int .u8 d.kind, strV d.form, .int .i64 d.at_.chapter, .int .i64 d.at_.line, .int .i64 d.at_.word, strV d.to.stem, .int .u8 d.to.mark, .int .i64 d.of_], .agg #[.int .i64 p.chapter, .int .i64 p.line, .int .i64 p.word], strV wd]) Tryz.func256 X X X ?_
 have st0 : St h w h w [] := St.start hs
 refine W.sr<|zl st0 (cs := [.int .i64 (d.number), .int .u8 (d.kind), strV (d.form), .int .i64 (d.at_.chapter), .int .i64 (d.at_.line), .int .i64 (d.at_.word), strV (d.to.stem), .int .u8 (d.to.mark), .int .i64 (d.of_)]) X X X ?_
 intro b1 w2 h3 le4 hc5 st6
 refine zl st6 (cs := [.int .i64 (p.chapter), .int .i64 (p.line), .int .i64 (p.word)]) X X X ?_
 intro b7 w8 h9 le10 hc11 st12
 refine v_asB X X<|Y<|W.sr<|v_field_addr X Tryz.underlying34 X Tryz.sizeOf30 X X<|v_load_cellsN (j := 3) st12.sub (hc5.up le10) (us := [.int .i64 (d.at_.chapter), .int .i64 (d.at_.line), .int .i64 (d.at_.word)]) X X Tryz.isAgg30 Tryz.sizeOf30 X X X<|v_load_call st12.sub hc11 X Tryz.isAgg30 Tryz.sizeOf30 X X<|ze X X (r_steql X X Tryz.eqGuardType30 (Tryz.eq_Place d.at_ p))<|v_asB X X<|Y<|zk<|O Tryz.results256 ?_
 refine ⟨h9, _, rfl, st12.done, ?_⟩
 refine zn ?_
 rfl
set_option maxRecDepth 4000 in
theorem c_stem_kinds_4 {h : Heap} {w : World} (hs : Sub h w) {d : Decision} (d_l2 : 0 ≤ d.kind ∧ d.kind ≤ 255) (d_l3 : d.form.length ≤ 281474976710656) (d_l7 : d.to.stem.length ≤ 281474976710656) (d_l8 : 0 ≤ d.to.mark ∧ d.to.mark ≤ 255) {p : Place} (wd : Str) (wd_le : wd.length ≤ 281474976710656) : Calls Tryz.prog 257 #[.agg #[.int .i64 d.number, .int .u8 d.kind, strV d.form, .int .i64 d.at_.chapter, .int .i64 d.at_.line, .int .i64 d.at_.word, strV d.to.stem, .int .u8 d.to.mark, .int .i64 d.of_], .agg #[.int .i64 p.chapter, .int .i64 p.line, .int .i64 p.word], strV wd] w (Rets h w (fun _ _ res_ => res_ = .bool (false))) := by
 refine zx (n := 7) (args := [.agg #[.int .i64 d.number, .int .u8 d.kind, strV d.form, .int .i64 d.at_.chapter, .int .i64 d.at_.line, .int .i64 d.at_.word, strV d.to.stem, .int .u8 d.to.mark, .int .i64 d.of_], .agg #[.int .i64 p.chapter, .int .i64 p.line, .int .i64 p.word], strV wd]) Tryz.func257 X X X ?_
 have st0 : St h w h w [] := St.start hs
 refine W.sr<|zl st0 (cs := [.int .i64 (d.number), .int .u8 (d.kind), strV (d.form), .int .i64 (d.at_.chapter), .int .i64 (d.at_.line), .int .i64 (d.at_.word), strV (d.to.stem), .int .u8 (d.to.mark), .int .i64 (d.of_)]) X X X ?_
 intro b1 w2 h3 le4 hc5 st6
 refine zl st6 (cs := [.int .i64 (p.chapter), .int .i64 (p.line), .int .i64 (p.word)]) X X X ?_
 intro b7 w8 h9 le10 hc11 st12
 refine v_asB X X<|Y<|W.sr<|v_asB X X<|Y<|zk<|O Tryz.results257 ?_
 refine ⟨h9, _, rfl, st12.done, ?_⟩
 refine zn ?_
 rfl
set_option maxRecDepth 4000 in
theorem c_stem_Add_1 {h : Heap} {w : World} (hs : Sub h w) {a : Decision} (a_l2 : 0 ≤ a.kind ∧ a.kind ≤ 255) (a_l3 : a.form.length ≤ 281474976710656) (a_l7 : a.to.stem.length ≤ 281474976710656) (a_l8 : 0 ≤ a.to.mark ∧ a.to.mark ≤ 255) {b : Decision} (b_l2 : 0 ≤ b.kind ∧ b.kind ≤ 255) (b_l3 : b.form.length ≤ 281474976710656) (b_l7 : b.to.stem.length ≤ 281474976710656) (b_l8 : 0 ≤ b.to.mark ∧ b.to.mark ≤ 255) (ha : 1 ≤ a.number ∧ a.number ≤ 999) (hb : 1 ≤ b.number ∧ b.number ≤ 999) : Calls Tryz.prog 66 #[.agg #[.int .i64 a.number, .int .u8 a.kind, strV a.form, .int .i64 a.at_.chapter, .int .i64 a.at_.line, .int .i64 a.at_.word, strV a.to.stem, .int .u8 a.to.mark, .int .i64 a.of_], .agg #[.int .i64 b.number, .int .u8 b.kind, strV b.form, .int .i64 b.at_.chapter, .int .i64 b.at_.line, .int .i64 b.at_.word, strV b.to.stem, .int .u8 b.to.mark, .int .i64 b.of_]] w (Rets h w (fun _ _ res_ => res_ = .int .i64 (a.number - b.number))) := by
 refine zx (n := 10) (args := [.agg #[.int .i64 a.number, .int .u8 a.kind, strV a.form, .int .i64 a.at_.chapter, .int .i64 a.at_.line, .int .i64 a.at_.word, strV a.to.stem, .int .u8 a.to.mark, .int .i64 a.of_], .agg #[.int .i64 b.number, .int .u8 b.kind, strV b.form, .int .i64 b.at_.chapter, .int .i64 b.at_.line, .int .i64 b.at_.word, strV b.to.stem, .int .u8 b.to.mark, .int .i64 b.of_]]) Tryz.func66 X X X ?_
 have st0 : St h w h w [] := St.start hs
 refine W.sr<|zl st0 (cs := [.int .i64 (a.number), .int .u8 (a.kind), strV (a.form), .int .i64 (a.at_.chapter), .int .i64 (a.at_.line), .int .i64 (a.at_.word), strV (a.to.stem), .int .u8 (a.to.mark), .int .i64 (a.of_)]) X X X ?_
 intro b1 w2 h3 le4 hc5 st6
 refine zl st6 (cs := [.int .i64 (b.number), .int .u8 (b.kind), strV (b.form), .int .i64 (b.at_.chapter), .int .i64 (b.at_.line), .int .i64 (b.at_.word), strV (b.to.stem), .int .u8 (b.to.mark), .int .i64 (b.of_)]) X X X ?_
 intro b7 w8 h9 le10 hc11 st12
 refine v_asI X X<|Y<|W.sr<|v_field_addr X Tryz.underlying34 X Tryz.sizeOf3 X X<|v_load_cells1 (j := 0) st12.sub (hc5.up le10) X X X Tryz.isAgg3 X<|v_field_addr X Tryz.underlying34 X Tryz.sizeOf3 X X<|v_load_cells1 (j := 0) st12.sub hc11 X X X Tryz.isAgg3 X<|v_sub X X t_om X<|v_asI X X<|Y<|zk<|O Tryz.results66 ?_
 refine ⟨h9, _, rfl, st12.done, ?_⟩
 refine zC ?_
 rfl
set_option maxRecDepth 4000 in
theorem c_stem_under_1 {h : Heap} {w : World} (hs : Sub h w) {y : Entry} (y_l4 : y.word.length ≤ 281474976710656) (y_l5 : y.head.stem.length ≤ 281474976710656) (y_l6 : 0 ≤ y.head.mark ∧ y.head.mark ≤ 255) {hd_b : Nat} {hd : Head} (hd_l1 : hd.stem.length ≤ 281474976710656) (hd_l2 : 0 ≤ hd.mark ∧ hd.mark ≤ 255) (hd_c : Cells h hd_b 0 [strV (hd.stem), .int .u8 (hd.mark)]) : Calls Tryz.prog 118 #[.agg #[.int .i64 y.at_.chapter, .int .i64 y.at_.line, .int .i64 y.at_.word, strV y.word, strV y.head.stem, .int .u8 y.head.mark], .pointer (some ⟨hd_b, 0, none⟩)] w (Rets h w (fun _ _ res_ => res_ = .bool (decide (y.head ≠ hd)))) := by
 refine zx (n := 8) (args := [.agg #[.int .i64 y.at_.chapter, .int .i64 y.at_.line, .int .i64 y.at_.word, strV y.word, strV y.head.stem, .int .u8 y.head.mark], .pointer (some ⟨hd_b, 0, none⟩)]) Tryz.func118 X X X ?_
 have st0 : St h w h w [] := St.start hs
 refine W.sr<|zl st0 (cs := [.int .i64 (y.at_.chapter), .int .i64 (y.at_.line), .int .i64 (y.at_.word), strV (y.word), strV (y.head.stem), .int .u8 (y.head.mark)]) X X X ?_
 intro b1 w2 h3 le4 hc5 st6
 refine v_asB X X<|Y<|W.sr<|v_field_addr X Tryz.underlying120 X Tryz.sizeOf32 X X<|v_load_cellsN (j := 4) st6.sub hc5 (us := [strV (y.head.stem), .int .u8 (y.head.mark)]) X X Tryz.isAgg32 Tryz.sizeOf32 X X X<|v_load_call st6.sub (hd_c.up le4) X Tryz.isAgg32 Tryz.sizeOf32 X X<|ze X X (r_stneq X X Tryz.eqGuardType32 (Tryz.eq_Head y.head hd))<|v_asB X X<|Y<|zk<|O Tryz.results118 ?_
 refine ⟨h3, _, rfl, st6.done, ?_⟩
 refine zn ?_
 rfl
end Go.Pk

namespace Go.Pk
open Go Go.RowKit Go.Proofs
set_option maxRecDepth 4000 in
theorem c_postilref04_Less {h : Heap} {w : World} (hs : Sub h w) {a : Head} (a_l1 : a.stem.length ≤ 281474976710656) (a_l2 : 0 ≤ a.mark ∧ a.mark ≤ 255) {b : Head} (b_l1 : b.stem.length ≤ 281474976710656) (b_l2 : 0 ≤ b.mark ∧ b.mark ≤ 255) : Calls Tryz.prog 52 #[.agg #[strV a.stem, .int .u8 a.mark], .agg #[strV b.stem, .int .u8 b.mark]] w (Rets h w (fun _ _ res_ => res_ = .bool (headLt a b))) := by
 refine zx (n := 24) (args := [.agg #[strV a.stem, .int .u8 a.mark], .agg #[strV b.stem, .int .u8 b.mark]]) Tryz.func52 X X X ?_
 have st0 : St h w h w [] := St.start hs
 refine W.sr<|zl st0 (cs := [strV (a.stem), .int .u8 (a.mark)]) X X X ?_
 intro b1 w2 h3 le4 hc5 st6
 refine zl st6 (cs := [strV (b.stem), .int .u8 (b.mark)]) X X X ?_
 intro b7 w8 h9 le10 hc11 st12
 refine v_asB X X<|Y<|W.sr<|v_field_addr X Tryz.underlying32 X Tryz.sizeOf9 X X<|v_load_cells1 (j := 0) st12.sub (hc5.up le10) X X X Tryz.isAgg9 X<|v_field_addr X Tryz.underlying32 X Tryz.sizeOf9 X X<|v_load_cells1 (j := 0) st12.sub hc11 X X X Tryz.isAgg9 X<|ze X X (r_slss X X)<|v_mvB X X ?_
 refine zp (d := 10) rfl (fun g13 => ?_) (fun g13 => ?_)
 ·
  refine M X X X X X<|M X X X X X<|M X X X X X<|M X X X X X<|M X X X X X<|M X X X X X<|zb X X (d := 16) X X<|zb X X (d := 16) X X<|zb X X (d := 16) X X<|zb X X (d := 16) X X<|zb X X (d := 16) X X<|M X X X X X<|v_pickT (v := (.bool _)) X X X<|v_asB X X<|Y<|zk<|O Tryz.results52 ?_
  refine ⟨h9, _, rfl, st12.done, ?_⟩
  refine zn ?_
  simp_all [headLt, sLt]
 ·
  refine Z X X (d := 10) X<|v_field_addr X Tryz.underlying32 X Tryz.sizeOf9 X X<|Z X X (d := 10) X<|v_load_cells1 (j := 0) st12.sub (hc5.up le10) X X X Tryz.isAgg9 X<|Z X X (d := 10) X<|v_field_addr X Tryz.underlying32 X Tryz.sizeOf9 X X<|Z X X (d := 10) X<|v_load_cells1 (j := 0) st12.sub hc11 X X X Tryz.isAgg9 X<|Z X X (d := 10) X<|v_seql X X X<|Z X X (d := 10) X<|v_mvB X X ?_
  refine zp (d := 16) rfl (fun g14 => ?_) (fun g14 => ?_)
  ·
   replace g14 := of_decide_eq_true g14
   refine Z X X (d := 16) X<|v_field_addr X Tryz.underlying32 X Tryz.sizeOf5 X X<|Z X X (d := 16) X<|v_load_cells1 (j := 1) st12.sub (hc5.up le10) X X X Tryz.isAgg5 X<|Z X X (d := 16) X<|v_field_addr X Tryz.underlying32 X Tryz.sizeOf5 X X<|Z X X (d := 16) X<|v_load_cells1 (j := 1) st12.sub hc11 X X X Tryz.isAgg5 X<|Z X X (d := 16) X<|v_lss X X X<|Z X X (d := 10) X<|v_pickT (v := (.bool _)) X X X<|v_pickF (v := (.bool _)) X X X<|v_asB X X<|Y<|zk<|O Tryz.results52 ?_
   refine ⟨h9, _, rfl, st12.done, ?_⟩
   refine zn ?_
   simp_all [headLt, sLt]
  ·
   replace g14 := of_decide_eq_false g14
   refine M X X X X X<|M X X X X X<|M X X X X X<|M X X X X X<|M X X X X X<|Z X X (d := 10) X<|v_pickF (v := (.bool _)) X X X<|v_pickF (v := (.bool _)) X X X<|v_asB X X<|Y<|zk<|O Tryz.results52 ?_
   refine ⟨h9, _, rfl, st12.done, ?_⟩
   refine zn ?_
   simp_all [headLt, sLt]
set_option maxRecDepth 4000 in
theorem c_postilref01_SamePlaces {h : Heap} {w : World} (hs : Sub h w) {a_v : Value} {a : (List Place)} (a_f : Sl LPlace h a_v a) {b_v : Value} {b : (List Place)} (b_f : Sl LPlace h b_v b) : Calls Tryz.prog 57 #[a_v, b_v] w (Rets h w (fun _ _ res_ => res_ = .bool (decide (a = b)))) := by
 refine zx (n := 26) (args := [a_v, b_v]) Tryz.func57 X X X ?_
 have st0 : St h w h w [] := St.start hs
 have a_f_b := a_f.le
 have b_f_b := b_f.le
 refine W.sr<|v_asB X X<|Y<|zg<|W.sr<|v_move (v := a_v) X X<|v_len a_f X Tryz.underlying37 X<|v_move (v := b_v) X X<|v_len b_f X Tryz.underlying37 X<|v_neq X X X<|Y ?_
 refine zh rfl (fun c1 => ?_) (fun c1 => ?_)
 ·
  replace c1 := of_decide_eq_true c1
  refine W.sr<|v_asB X X<|Y<|zk<|zd<|O Tryz.results57 ?_
  refine ⟨h, _, rfl, st0.done, ?_⟩
  refine zn ?_
  have q : a ≠ b := by
   rintro rfl
   simp_all
  simp [q]
 ·
  replace c1 := of_decide_eq_false c1
  refine zo<|U<|zg<|W.sr<|v_asI X X<|Y<|zr ?_
  refine zN [4, 5, 11, 12, 13, 14, 15, 16, 17, 18, 19, 20, 21, 22, 23, 24, 25] (G := Nat × Heap) (fun ⟨k, h2⟩ => [(5, .int .i64 (k : Int))]) (fun ⟨k, h2⟩ w' => Le h h2 ∧ St h w h2 w' [] ∧ (k ≤ a.length) ∧ (a.take k = b.take k)) (fun ⟨k, h2⟩ => a.length - k) ⟨0, h⟩ ⟨rfl, trivial⟩ ⟨Le.refl _, st0, zV, zV⟩ ?_
  rintro ⟨k, h2⟩ _ w5 ⟨le3, st4, hk, he⟩
  refine zg<|W.sr<|v_mvI X X<|v_move (v := a_v) X X<|v_len (a_f.up le3) X Tryz.underlying37 X<|v_lss X X X<|Y ?_
  refine zh rfl (fun c6 => ?_) (fun c6 => ?_)
  ·
   replace c6 := of_decide_eq_true c6
   refine zo<|U<|zg<|zr<|zg<|W.regionQ Tryz.mixed t_kr (Cls h2 _) (Cls.drew st4)<|u_move (v := a_v) X X<|u_mvI X X ?_
   have hx : ∃ y_, (a)[k]? = some y_ := ⟨_, List.getElem?_eq_getElem (by omega)⟩
   obtain ⟨x, hx⟩ := hx
   obtain ⟨b7, o8, _, he10, hc9, hr_x⟩ := Sl.elem (a_f.up le3) hx
   obtain rfl := hr_x
   refine u_index_el he10 X X (hk := X) (hu := Tryz.underlying37) (hz := Tryz.sizeOf30) X<|zt X X (fun _ hC => (zB hC.sub hc9 X Tryz.isAgg30 Tryz.sizeOf30 X))<|u_move (v := b_v) X X<|u_mvI X X ?_
   have hy : ∃ y_, (b)[k]? = some y_ := ⟨_, List.getElem?_eq_getElem (by omega)⟩
   obtain ⟨y, hy⟩ := hy
   obtain ⟨b11, o12, _, he14, hc13, hr_y⟩ := Sl.elem (b_f.up le3) hy
   obtain rfl := hr_y
   refine u_index_el he14 X X (hk := X) (hu := Tryz.underlying37) (hz := Tryz.sizeOf30) X<|zt X X (fun _ hC => (zB hC.sub hc13 X Tryz.isAgg30 Tryz.sizeOf30 X))<|zt X X (fun _ _ => (r_stneq X X Tryz.eqGuardType30 (Tryz.eq_Place x y)))<|OpsQ.nil ?_
   rintro w15 ⟨h16, s17⟩
   have st18 := st4.call0 s17
   refine U ?_
   refine zh rfl (fun c19 => ?_) (fun c19 => ?_)
   ·
    replace c19 := of_decide_eq_true c19
    refine W.sr<|v_asB X X<|Y<|zk<|zw<|zd<|zd<|zw<|zd<|O Tryz.results57 ?_
    refine ⟨h16, _, rfl, st18.done, ?_⟩
    refine zn ?_
    have q := ne_of_get hx hy (by simpa using c19)
    simp [q]
   ·
    replace c19 := of_decide_eq_false c19
    refine zo<|zz<|U<|zm<|v_mvI X X<|v_add X X t_om X<|v_asI X X<|Y ?_
    refine ⟨⟨k + 1, h16⟩, ⟨rfl, trivial⟩, ?_, ⟨(le3.trans s17.le), st18, ?_, ?_⟩, ?_⟩
    ·exact zR
    ·first | omega | (simp; omega)
    ·exact eq_take_succ he hx hy (by simpa using c19)
    ·show a.length - ((k + 1)) < a.length - k
     omega
  ·
   replace c6 := of_decide_eq_false c6
   refine zP<|zi<|zi<|zJ<|U<|W.sr<|v_asB X X<|Y<|zk<|O Tryz.results57 ?_
   refine ⟨h2, _, rfl, st4.done, ?_⟩
   refine zn ?_
   have q := eq_of_take he (by omega) (by omega)
   simp [q]
end Go.Pk

namespace Go.Pk
open Go Go.RowKit Go.Proofs
set_option maxRecDepth 4000 in
theorem c_stem_office_concerning_1 {h0 h : Heap} {w0 w : World} {rest : Own} {l : Nat} {o_b : Nat} {o : Office} {o_v0 : Value} (o_f0 : Sl LRule h o_v0 o.lex.rules) {o_v1 : Value} (o_f1 : Sl LDecision h o_v1 o.lex.decisions) {o_v2 : Value} (o_f2 : Sl LChapter h o_v2 o.text.chapters) {o_v3 : Value} (o_f3 : FML (fun n : Int => .int .i64 n) (fun x : Decision => [.int .i64 x.number, .int .u8 x.kind, strV x.form, .int .i64 x.at_.chapter, .int .i64 x.at_.line, .int .i64 x.at_.word, strV x.to.stem, .int .u8 x.to.mark, .int .i64 x.of_]) LDecision h o.stands o_v3) (o_c : Cells h o_b 0 [o_v0, o_v1, o_v2, o_v3]) {o_bb : Nat} (o_cc : Cells h o_bb 0 [.pointer (some ⟨o_b, 0, none⟩)]) {p_b : Nat} {p : Place} (p_c : Cells h p_b 0 [.int .i64 (p.chapter), .int .i64 (p.line), .int .i64 (p.word)]) {word_b : Nat} {word : Str} (word_le : word.length ≤ 281474976710656) (word_c : Cells h word_b 0 [strV word]) {J Jx : List Decision → Heap → Own → Prop} (hJm : ∀ xs h1 h2 o, J xs h1 o → Le h1 h2 → J xs h2 o) (hJxm : ∀ xs h1 h2 o, Jx xs h1 o → Le h1 h2 → Jx xs h2 o) (hJ0 : J [] h rest) (hY : ∀ (pre : List Decision) (x : Decision) h1 w1 B rest u, Le h h1 → J pre h1 rest → St h0 w0 h1 w1 (B ++ rest) → (∃ vs, u = .agg vs.toArray ∧ LDecision.R h1 vs x) ∧ x ∈ o.stands.map (·.2) → Yields Tryz.prog l #[u] w1 fun v w2 => ∃ h2 rest2, Le h1 h2 ∧ St h0 w0 h2 w2 (B ++ rest2) ∧ ((v = .bool true ∧ J (pre ++ [x]) h2 rest2) ∨ (v = .bool false ∧ Jx (pre ++ [x]) h2 rest2))) (K0 : Cells h 0 0 Tryz.glob0) (hk4 : ∀ q ∈ o.stands, 1 ≤ q.2.kind ∧ q.2.kind ≤ 4) (st0 : St h0 w0 h w rest) : Calls Tryz.prog 194 #[.func (.yield l) #[] #[], .pointer (some ⟨o_bb, 0, none⟩), .pointer (some ⟨p_b, 0, none⟩), .pointer (some ⟨word_b, 0, none⟩)] w (fun e_ w' => ∃ h' rest' v_, e_ = .returned v_ ∧ Le h h' ∧ St h0 w0 h' w' rest' ∧ ((∃ xs, (∃ dn : List (Int × Decision), dn.Perm o.stands ∧ xs = (dn.map (·.2)).filter fun d => concB d p word) ∧ J xs h' rest') ∨ (∃ pre, Jx pre h' rest'))) := by
 refine zx (n := 31) (args := [.func (.yield l) #[] #[], .pointer (some ⟨o_bb, 0, none⟩), .pointer (some ⟨p_b, 0, none⟩), .pointer (some ⟨word_b, 0, none⟩)]) Tryz.func194 X X X ?_
 have o_f0_b := o_f0.le
 have o_f1_b := o_f1.le
 have o_f2_b := o_f2.le
 refine W.sr<|v_load_cells1 (j := 0) st0.sub o_cc X X X Tryz.isAgg116 X<|ze X X (r_nil_check X)<|v_field_addr X Tryz.underlying129 X Tryz.sizeOf127 X X<|v_load_cells1 (j := 3) st0.sub o_c X X X Tryz.isAgg127 X<|OpsL.rangeM st0 o_f3.1 X Tryz.underlying127 X ?_
 intro o1 vi2 w3 hI4 st5
 have st6 := st5.perm (own' := o1 :: rest) List.perm_append_comm
 refine Y<|zr ?_
 refine zN [6, 12, 13, 14, 15, 16, 17, 18, 19, 20, 21, 22, 23, 24, 25, 26, 27, 28, 29, 30] (G := List (Int × Decision) × List (Int × Decision) × Own × List (Nat × Obj) × Heap) (fun ⟨dn, rm, rest, o_11, h7⟩ => []) (fun ⟨dn, rm, rest, o_11, h7⟩ w' => Le h h7 ∧ St h0 w0 h7 w' (o_11 :: rest) ∧ (MI (fun n : Int => .int .i64 n) (fun x => .agg ((fun x : Decision => [.int .i64 x.number, .int .u8 x.kind, strV x.form, .int .i64 x.at_.chapter, .int .i64 x.at_.line, .int .i64 x.at_.word, strV x.to.stem, .int .u8 x.to.mark, .int .i64 x.of_]) x).toArray) h7 o_v3 o_11 vi2 rm) ∧ ((dn ++ rm).Perm o.stands) ∧ (J ((dn.map (·.2)).filter fun d => concB d p word) h7 rest)) (fun ⟨dn, rm, rest, o_11, h7⟩ => rm.length) ⟨[], o.stands, rest, o1, h⟩ trivial ⟨Le.refl _, st6, hI4, (by exact List.Perm.refl _), (by exact hJm _ _ _ _ hJ0 (Le.refl _))⟩ ?_
 rintro ⟨dn, rm, rest, o_11, h7⟩ _ w10 ⟨le8, st9, hI_11, hpd, hJ⟩
 refine W.sr ?_
 refine OpsL.nextM (i := 0) st9 hI_11 rfl rfl rfl (fun e11 w12 st13 => ?_) (fun p14 rm15 o16 w21 _ e22 hp19 hI17 hC18 st20 => ?_)
 ·
  refine v_extract (v := (.bool _)) X X X<|Y<|zg ?_
  refine zh rfl (fun c23 => ?_) (fun c23 => ?_)
  ·
   cases c23
  ·
   refine zP<|zi<|zi<|zJ<|Post.end0 Tryz.results194 ?_
   exact ⟨_, _, _, rfl, le8, (st13).tl, .inl ⟨_, ⟨dn, by rw [e11, List.append_nil] at hpd; exact hpd, rfl⟩, hJm _ _ _ _ hJ (Le.refl _)⟩⟩
 ·
  subst e22
  refine v_extract (v := (.bool _)) X X X<|Y<|zg ?_
  refine zh rfl (fun c24 => ?_) (fun c24 => ?_)
  ·
   refine zo<|U<|zr<|zg ?_
   have hpm : p14 ∈ o.stands := hpd.mem_iff.1 (List.mem_append_right _ (hp19.mem_iff.2 (List.mem_cons_self ..)))
   have hpk := hk4 _ hpm
   obtain ⟨_, hp1, hp2, hp3, hp4⟩ := o_f3.2 p14 hpm
   simp only [big] at hp2 hp3
   refine zm<|ze X X (r_entry st20.sub hC18 (st20.ent (k := 0) X) X)<|v_extract (v := (.agg (List.toArray _))) X X X<|OpsL.allocSt st20 Tryz.zeroValue34 X X X (us := [.int .i64 (p14.2.number), .int .u8 (p14.2.kind), strV (p14.2.form), .int .i64 (p14.2.at_.chapter), .int .i64 (p14.2.at_.line), .int .i64 (p14.2.at_.word), strV (p14.2.to.stem), .int .u8 (p14.2.to.mark), .int .i64 (p14.2.of_)]) (fun _ => X) (E X (E X (E X (E X (E X (E X (E X (E X (E X zI))))))))) Tryz.sizeOf34 X ?_
   intro b25 w26 h27 le28 hc29 st30
   refine Y<|zg ?_
   rcases (show p14.2.kind = 1 ∨ p14.2.kind = 2 ∨ p14.2.kind = 3 ∨ p14.2.kind = 4 by omega) with hk31 | hk31 | hk31 | hk31
   ·
    rcases Bool.eq_false_or_eq_true ((decide ((p14.2).form = (word)))) with g32 | g32
    ·
     have g32_r := g32
     refine zZ (er := ([], [], [], [], 0)) (dsts := [16, 17, 18, 19, 20, 21, 22, 23, 24, 25, 26, 27, 28, 29, 30]) st30 Tryz.mixed<|zc 0 [] X t_kr t_kr X X (fun hD wD τD hL hS hO  => (zA X Tryz.underlying34 X Tryz.sizeOf5 X))<|zc 1 [0] X t_kr t_kr X X (fun hD wD τD hL hS hO _ _ => (zf (j := 1) (hL.sub hS) hc29 X X X Tryz.isAgg5)) ?_
     refine zc 2 [0] rfl t_kr t_kr rfl rfl (fun hD wD τD hL hS hO _ _ => (r_index_arr rfl rfl (show _ = ((1 : Nat) : Int) by rw [hk31]; rfl) rfl Tryz.underlying197 Tryz.sizeOf196)) ?_
     refine zc 3 [0] X t_kr t_kr X X (fun hD wD τD hL hS hO _ _ => (zA X Tryz.underlying196 X Tryz.sizeOf53 X))<|zc 4 [0] X t_kr t_kr X X (fun hD wD τD hL hS hO _ _ => (zf (j := 9) (hL.sub hS) (K0.up (le8.trans le28)) X X X Tryz.isAgg53))<|zc 5 [] X t_kr t_kr X X (fun hD wD τD hL hS hO  => (zB (hL.sub hS) hc29 X Tryz.isAgg34 Tryz.sizeOf34 X))<|zc 6 [] X t_kr t_kr X X (fun hD wD τD hL hS hO  => (zB (hL.sub hS) (p_c.up (le8.trans le28)) X Tryz.isAgg30 Tryz.sizeOf30 X))<|zc 7 [] X t_kr t_kr X X (fun hD wD τD hL hS hO  => (zf (j := 0) (hL.sub hS) (word_c.up (le8.trans le28)) X X X Tryz.isAgg9)) ?_
     refine zF 8 (.det (.bool true)) [3, 2, 1, 0] rfl t_kr t_kr ?_ ?_
     ·
      intro hD wD τD hL hS hO _ _ _ _ _ _ _ _
      have st33 := St.start hS
      refine OpsL.callFV (fs := []) (cs := []) st33 X X X X Tryz.call254 X (c_stem_kinds_1 st33.sub (d := p14.2) t_u8 zO zO t_u8 (p := p) _ zO) ?_
      intro r34 w35 h36 le37 st38 q39
      obtain rfl := q39
      exact zj ⟨_, _, rfl, st38, (), congrArg Value.bool g32_r, trivial⟩
     refine zc 9 [0] X t_kr t_kr X X (fun hD wD τD hL hS hO _ _ => (r_mvB X))<|zM 10 [0] X t_kr t_kr X X X (fun hD wD τD hL hS hO _ _ => ⟨rfl, (r_move X)⟩)<|zM 11 [1] X t_kr t_kr X X X (fun hD wD τD hL hS hO _ _ => ⟨rfl, (zB (hL.sub hS) hc29 X Tryz.isAgg34 Tryz.sizeOf34 X)⟩)<|Drw.ch<|Drw.ch<|Drw.ch<|Drw.nil X X X X X X ⟨t_kr, X, t_kr, X, t_kr, X, X, t_kr, (zaf X (zaf X (zaf X cx_nil)))⟩ ?_
     intro hE41 w42 _ le43 st44 _ _ _ _ _ _
     refine Z X X (d := 25) X ?_
     have hcb : concB p14.2 p word = true := by simp only [concB, hk31]; first | exact g32 | (have q := g32; rw [ordI_le] at q; exact q)
     have hJc := hJm _ _ _ _ hJ (le28.trans le43)
     have hAc : (∃ vs, _ = Value.agg vs.toArray ∧ LDecision.R hE41 vs p14.2) ∧ p14.2 ∈ o.stands.map (·.2) := ⟨⟨_, rfl, LDecision.up (o_f3.2 p14 hpm) ((le8.trans le28).trans le43)⟩, List.mem_map_of_mem hpm⟩
     refine OpsL.yieldsJ rfl rfl rfl rfl rfl (hY _ _ _ _ [o16] rest _ ((le8.trans le28).trans le43) hJc st44 hAc) ?_
     intro yb45 w46 h47 rest48 le49 st50 hj51 hx52
     refine zj ⟨_, rfl, _, _, le49, st50, ?_⟩
     intro hE54 w55 _ le56 st57 _ _
     refine Z X X (d := 25) X<|v_not X X ?_
     refine zj ⟨_, rfl, _, _, Le.refl _, st57, ?_⟩
     intro hE59 w60 _ le61 st62 _ _
     refine v_pickT (v := (.bool _)) X X X ?_
     refine zj ⟨_, rfl, _, _, Le.refl _, st62, ?_⟩
     intro hE63 w64 _ le65 st66 _ _ _ _ _ _ _ _ _ _ _ _ _ _ _ _ _ _ _ _ _ _ _ _
     refine AllDeps.fin X<|U ?_
     refine zh rfl (fun c68 => ?_) (fun c68 => ?_)
     ·
      refine zk<|zw<|zd<|zw<|Post.ret0 Tryz.results194 ?_
      exact ⟨_, _, _, rfl, ((((((le8.trans le28).trans le43).trans le49).trans le56).trans le61).trans le65), (st66).tl, .inr ⟨_, hJxm _ _ _ _ (hx52 (by simpa using c68)) ((le56.trans le61).trans le65)⟩⟩
     ·
      refine zo<|zz<|U ?_
      refine ⟨⟨dn ++ [p14], rm15, rest48, o16, hE63⟩, trivial, ?_, ⟨((((((le8.trans le28).trans le43).trans le49).trans le56).trans le61).trans le65), st66, ?_, ?_, ?_⟩, ?_⟩
      ·exact zR
      ·exact (hI17.up (((((le28.trans le43).trans le49).trans le56).trans le61).trans le65))
      ·exact perm_step hpd hp19
      ·rw [List.map_append, List.filter_append]; simp only [List.map_cons, List.map_nil, List.filter_cons, List.filter_nil]
       rw [if_pos hcb]; exact hJm _ _ _ _ (hj51 (by simpa using c68)) ((le56.trans le61).trans le65)
      ·show ((rm15)).length < rm.length
       have q := hp19.length_eq; simp only [List.length_cons] at q; omega
    ·
     have g32_r := g32
     refine zZ (er := ([], [], [], [], 0)) (dsts := [16, 17, 18, 19, 20, 21, 22, 23, 24, 25, 26, 27, 28, 29, 30]) st30 Tryz.mixed<|zc 0 [] X t_kr t_kr X X (fun hD wD τD hL hS hO  => (zA X Tryz.underlying34 X Tryz.sizeOf5 X))<|zc 1 [0] X t_kr t_kr X X (fun hD wD τD hL hS hO _ _ => (zf (j := 1) (hL.sub hS) hc29 X X X Tryz.isAgg5)) ?_
     refine zc 2 [0] rfl t_kr t_kr rfl rfl (fun hD wD τD hL hS hO _ _ => (r_index_arr rfl rfl (show _ = ((1 : Nat) : Int) by rw [hk31]; rfl) rfl Tryz.underlying197 Tryz.sizeOf196)) ?_
     refine zc 3 [0] X t_kr t_kr X X (fun hD wD τD hL hS hO _ _ => (zA X Tryz.underlying196 X Tryz.sizeOf53 X))<|zc 4 [0] X t_kr t_kr X X (fun hD wD τD hL hS hO _ _ => (zf (j := 9) (hL.sub hS) (K0.up (le8.trans le28)) X X X Tryz.isAgg53))<|zc 5 [] X t_kr t_kr X X (fun hD wD τD hL hS hO  => (zB (hL.sub hS) hc29 X Tryz.isAgg34 Tryz.sizeOf34 X))<|zc 6 [] X t_kr t_kr X X (fun hD wD τD hL hS hO  => (zB (hL.sub hS) (p_c.up (le8.trans le28)) X Tryz.isAgg30 Tryz.sizeOf30 X))<|zc 7 [] X t_kr t_kr X X (fun hD wD τD hL hS hO  => (zf (j := 0) (hL.sub hS) (word_c.up (le8.trans le28)) X X X Tryz.isAgg9)) ?_
     refine zF 8 (.det (.bool false)) [3, 2, 1, 0] rfl t_kr t_kr ?_ ?_
     ·
      intro hD wD τD hL hS hO _ _ _ _ _ _ _ _
      have st69 := St.start hS
      refine OpsL.callFV (fs := []) (cs := []) st69 X X X X Tryz.call254 X (c_stem_kinds_1 st69.sub (d := p14.2) t_u8 zO zO t_u8 (p := p) _ zO) ?_
      intro r70 w71 h72 le73 st74 q75
      obtain rfl := q75
      exact zj ⟨_, _, rfl, st74, (), congrArg Value.bool g32_r, trivial⟩
     refine zc 9 [0] X t_kr t_kr X X (fun hD wD τD hL hS hO _ _ => (r_mvB X))<|zX 10 [0] X t_kr t_kr X X X X (fun hD wD τD hL hS hO _ _ => X)<|zX 11 [1] X t_kr t_kr X X X X (fun hD wD τD hL hS hO _ _ => X)<|zX 12 [1, 0, 2] X t_kr t_kr X X X X (fun hD wD τD hL hS hO _ _ _ _ _ _ => X)<|zX 13 [0, 3] X t_kr t_kr X X X X (fun hD wD τD hL hS hO _ _ _ _ => X)<|zc 14 [4, 0] X t_kr t_kr X X (fun hD wD τD hL hS hO _ _ _ _ => (r_pickF (v := (.bool _)) X X))<|Drw.nil X X X X X X ⟨t_kr, X, t_kr, X, t_kr, X, X, t_kr, cx_nil⟩ ?_
     intro hE76 w77 _ le78 st79 _ _ _ _ _ _ _ _ _ _ _ _ _ _ _ _ _ _ _ _ _ _ _ _ _ _ _ _ _ _
     refine AllDeps.fin X<|U ?_
     refine zh rfl (fun c81 => ?_) (fun c81 => ?_)
     ·
      cases c81
     ·
      refine zo<|zz<|U ?_
      refine ⟨⟨dn ++ [p14], rm15, rest, o16, hE76⟩, trivial, ?_, ⟨((le8.trans le28).trans le78), st79, ?_, ?_, ?_⟩, ?_⟩
      ·exact zR
      ·exact (hI17.up (le28.trans le78))
      ·exact perm_step hpd hp19
      ·rw [List.map_append, List.filter_append]; simp only [List.map_cons, List.map_nil, List.filter_cons, List.filter_nil]
       rw [if_neg (by simp only [concB, hk31]; first | (simp; done) | (have q := g32; rw [ordI_le] at q; simpa using q) | (have q := g32; simpa using q))]; rw [List.append_nil]; exact hJm _ _ _ _ hJ (le28.trans le78)
      ·show ((rm15)).length < rm.length
       have q := hp19.length_eq; simp only [List.length_cons] at q; omega
   ·
    rcases Bool.eq_false_or_eq_true (((decide ((p14.2).form = (word)) && decide (ordI (p14.2).at_ (p) ≤ 0)))) with g82 | g82
    ·
     have g82_r := g82
     refine zZ (er := ([], [], [], [], 0)) (dsts := [16, 17, 18, 19, 20, 21, 22, 23, 24, 25, 26, 27, 28, 29, 30]) st30 Tryz.mixed<|zc 0 [] X t_kr t_kr X X (fun hD wD τD hL hS hO  => (zA X Tryz.underlying34 X Tryz.sizeOf5 X))<|zc 1 [0] X t_kr t_kr X X (fun hD wD τD hL hS hO _ _ => (zf (j := 1) (hL.sub hS) hc29 X X X Tryz.isAgg5)) ?_
     refine zc 2 [0] rfl t_kr t_kr rfl rfl (fun hD wD τD hL hS hO _ _ => (r_index_arr rfl rfl (show _ = ((2 : Nat) : Int) by rw [hk31]; rfl) rfl Tryz.underlying197 Tryz.sizeOf196)) ?_
     refine zc 3 [0] X t_kr t_kr X X (fun hD wD τD hL hS hO _ _ => (zA X Tryz.underlying196 X Tryz.sizeOf53 X))<|zc 4 [0] X t_kr t_kr X X (fun hD wD τD hL hS hO _ _ => (zf (j := 14) (hL.sub hS) (K0.up (le8.trans le28)) X X X Tryz.isAgg53))<|zc 5 [] X t_kr t_kr X X (fun hD wD τD hL hS hO  => (zB (hL.sub hS) hc29 X Tryz.isAgg34 Tryz.sizeOf34 X))<|zc 6 [] X t_kr t_kr X X (fun hD wD τD hL hS hO  => (zB (hL.sub hS) (p_c.up (le8.trans le28)) X Tryz.isAgg30 Tryz.sizeOf30 X))<|zc 7 [] X t_kr t_kr X X (fun hD wD τD hL hS hO  => (zf (j := 0) (hL.sub hS) (word_c.up (le8.trans le28)) X X X Tryz.isAgg9)) ?_
     refine zF 8 (.det (.bool true)) [3, 2, 1, 0] rfl t_kr t_kr ?_ ?_
     ·
      intro hD wD τD hL hS hO _ _ _ _ _ _ _ _
      have st83 := St.start hS
      refine OpsL.callFV (fs := []) (cs := []) st83 X X X X Tryz.call255 X (c_stem_kinds_2 st83.sub (d := p14.2) t_u8 zO zO t_u8 (p := p) _ zO) ?_
      intro r84 w85 h86 le87 st88 q89
      obtain rfl := q89
      exact zj ⟨_, _, rfl, st88, (), congrArg Value.bool g82_r, trivial⟩
     refine zc 9 [0] X t_kr t_kr X X (fun hD wD τD hL hS hO _ _ => (r_mvB X))<|zM 10 [0] X t_kr t_kr X X X (fun hD wD τD hL hS hO _ _ => ⟨rfl, (r_move X)⟩)<|zM 11 [1] X t_kr t_kr X X X (fun hD wD τD hL hS hO _ _ => ⟨rfl, (zB (hL.sub hS) hc29 X Tryz.isAgg34 Tryz.sizeOf34 X)⟩)<|Drw.ch<|Drw.ch<|Drw.ch<|Drw.nil X X X X X X ⟨t_kr, X, t_kr, X, t_kr, X, X, t_kr, (zaf X (zaf X (zaf X cx_nil)))⟩ ?_
     intro hE91 w92 _ le93 st94 _ _ _ _ _ _
     refine Z X X (d := 25) X ?_
     have hcb : concB p14.2 p word = true := by simp only [concB, hk31]; first | exact g82 | (have q := g82; rw [ordI_le] at q; exact q)
     have hJc := hJm _ _ _ _ hJ (le28.trans le93)
     have hAc : (∃ vs, _ = Value.agg vs.toArray ∧ LDecision.R hE91 vs p14.2) ∧ p14.2 ∈ o.stands.map (·.2) := ⟨⟨_, rfl, LDecision.up (o_f3.2 p14 hpm) ((le8.trans le28).trans le93)⟩, List.mem_map_of_mem hpm⟩
     refine OpsL.yieldsJ rfl rfl rfl rfl rfl (hY _ _ _ _ [o16] rest _ ((le8.trans le28).trans le93) hJc st94 hAc) ?_
     intro yb95 w96 h97 rest98 le99 st100 hj101 hx102
     refine zj ⟨_, rfl, _, _, le99, st100, ?_⟩
     intro hE104 w105 _ le106 st107 _ _
     refine Z X X (d := 25) X<|v_not X X ?_
     refine zj ⟨_, rfl, _, _, Le.refl _, st107, ?_⟩
     intro hE109 w110 _ le111 st112 _ _
     refine v_pickT (v := (.bool _)) X X X ?_
     refine zj ⟨_, rfl, _, _, Le.refl _, st112, ?_⟩
     intro hE113 w114 _ le115 st116 _ _ _ _ _ _ _ _ _ _ _ _ _ _ _ _ _ _ _ _ _ _ _ _
     refine AllDeps.fin X<|U ?_
     refine zh rfl (fun c118 => ?_) (fun c118 => ?_)
     ·
      refine zk<|zw<|zd<|zw<|Post.ret0 Tryz.results194 ?_
      exact ⟨_, _, _, rfl, ((((((le8.trans le28).trans le93).trans le99).trans le106).trans le111).trans le115), (st116).tl, .inr ⟨_, hJxm _ _ _ _ (hx102 (by simpa using c118)) ((le106.trans le111).trans le115)⟩⟩
     ·
      refine zo<|zz<|U ?_
      refine ⟨⟨dn ++ [p14], rm15, rest98, o16, hE113⟩, trivial, ?_, ⟨((((((le8.trans le28).trans le93).trans le99).trans le106).trans le111).trans le115), st116, ?_, ?_, ?_⟩, ?_⟩
      ·exact zR
      ·exact (hI17.up (((((le28.trans le93).trans le99).trans le106).trans le111).trans le115))
      ·exact perm_step hpd hp19
      ·rw [List.map_append, List.filter_append]; simp only [List.map_cons, List.map_nil, List.filter_cons, List.filter_nil]
       rw [if_pos hcb]; exact hJm _ _ _ _ (hj101 (by simpa using c118)) ((le106.trans le111).trans le115)
      ·show ((rm15)).length < rm.length
       have q := hp19.length_eq; simp only [List.length_cons] at q; omega
    ·
     have g82_r := g82
     refine zZ (er := ([], [], [], [], 0)) (dsts := [16, 17, 18, 19, 20, 21, 22, 23, 24, 25, 26, 27, 28, 29, 30]) st30 Tryz.mixed<|zc 0 [] X t_kr t_kr X X (fun hD wD τD hL hS hO  => (zA X Tryz.underlying34 X Tryz.sizeOf5 X))<|zc 1 [0] X t_kr t_kr X X (fun hD wD τD hL hS hO _ _ => (zf (j := 1) (hL.sub hS) hc29 X X X Tryz.isAgg5)) ?_
     refine zc 2 [0] rfl t_kr t_kr rfl rfl (fun hD wD τD hL hS hO _ _ => (r_index_arr rfl rfl (show _ = ((2 : Nat) : Int) by rw [hk31]; rfl) rfl Tryz.underlying197 Tryz.sizeOf196)) ?_
     refine zc 3 [0] X t_kr t_kr X X (fun hD wD τD hL hS hO _ _ => (zA X Tryz.underlying196 X Tryz.sizeOf53 X))<|zc 4 [0] X t_kr t_kr X X (fun hD wD τD hL hS hO _ _ => (zf (j := 14) (hL.sub hS) (K0.up (le8.trans le28)) X X X Tryz.isAgg53))<|zc 5 [] X t_kr t_kr X X (fun hD wD τD hL hS hO  => (zB (hL.sub hS) hc29 X Tryz.isAgg34 Tryz.sizeOf34 X))<|zc 6 [] X t_kr t_kr X X (fun hD wD τD hL hS hO  => (zB (hL.sub hS) (p_c.up (le8.trans le28)) X Tryz.isAgg30 Tryz.sizeOf30 X))<|zc 7 [] X t_kr t_kr X X (fun hD wD τD hL hS hO  => (zf (j := 0) (hL.sub hS) (word_c.up (le8.trans le28)) X X X Tryz.isAgg9)) ?_
     refine zF 8 (.det (.bool false)) [3, 2, 1, 0] rfl t_kr t_kr ?_ ?_
     ·
      intro hD wD τD hL hS hO _ _ _ _ _ _ _ _
      have st119 := St.start hS
      refine OpsL.callFV (fs := []) (cs := []) st119 X X X X Tryz.call255 X (c_stem_kinds_2 st119.sub (d := p14.2) t_u8 zO zO t_u8 (p := p) _ zO) ?_
      intro r120 w121 h122 le123 st124 q125
      obtain rfl := q125
      exact zj ⟨_, _, rfl, st124, (), congrArg Value.bool g82_r, trivial⟩
     refine zc 9 [0] X t_kr t_kr X X (fun hD wD τD hL hS hO _ _ => (r_mvB X))<|zX 10 [0] X t_kr t_kr X X X X (fun hD wD τD hL hS hO _ _ => X)<|zX 11 [1] X t_kr t_kr X X X X (fun hD wD τD hL hS hO _ _ => X)<|zX 12 [1, 0, 2] X t_kr t_kr X X X X (fun hD wD τD hL hS hO _ _ _ _ _ _ => X)<|zX 13 [0, 3] X t_kr t_kr X X X X (fun hD wD τD hL hS hO _ _ _ _ => X)<|zc 14 [4, 0] X t_kr t_kr X X (fun hD wD τD hL hS hO _ _ _ _ => (r_pickF (v := (.bool _)) X X))<|Drw.nil X X X X X X ⟨t_kr, X, t_kr, X, t_kr, X, X, t_kr, cx_nil⟩ ?_
     intro hE126 w127 _ le128 st129 _ _ _ _ _ _ _ _ _ _ _ _ _ _ _ _ _ _ _ _ _ _ _ _ _ _ _ _ _ _
     refine AllDeps.fin X<|U ?_
     refine zh rfl (fun c131 => ?_) (fun c131 => ?_)
     ·
      cases c131
     ·
      refine zo<|zz<|U ?_
      refine ⟨⟨dn ++ [p14], rm15, rest, o16, hE126⟩, trivial, ?_, ⟨((le8.trans le28).trans le128), st129, ?_, ?_, ?_⟩, ?_⟩
      ·exact zR
      ·exact (hI17.up (le28.trans le128))
      ·exact perm_step hpd hp19
      ·rw [List.map_append, List.filter_append]; simp only [List.map_cons, List.map_nil, List.filter_cons, List.filter_nil]
       rw [if_neg (by simp only [concB, hk31]; first | (simp; done) | (have q := g82; rw [ordI_le] at q; simpa using q) | (have q := g82; simpa using q))]; rw [List.append_nil]; exact hJm _ _ _ _ hJ (le28.trans le128)
      ·show ((rm15)).length < rm.length
       have q := hp19.length_eq; simp only [List.length_cons] at q; omega
   ·
    rcases Bool.eq_false_or_eq_true ((decide ((p14.2).at_ = (p)))) with g132 | g132
    ·
     have g132_r := g132
     refine zZ (er := ([], [], [], [], 0)) (dsts := [16, 17, 18, 19, 20, 21, 22, 23, 24, 25, 26, 27, 28, 29, 30]) st30 Tryz.mixed<|zc 0 [] X t_kr t_kr X X (fun hD wD τD hL hS hO  => (zA X Tryz.underlying34 X Tryz.sizeOf5 X))<|zc 1 [0] X t_kr t_kr X X (fun hD wD τD hL hS hO _ _ => (zf (j := 1) (hL.sub hS) hc29 X X X Tryz.isAgg5)) ?_
     refine zc 2 [0] rfl t_kr t_kr rfl rfl (fun hD wD τD hL hS hO _ _ => (r_index_arr rfl rfl (show _ = ((3 : Nat) : Int) by rw [hk31]; rfl) rfl Tryz.underlying197 Tryz.sizeOf196)) ?_
     refine zc 3 [0] X t_kr t_kr X X (fun hD wD τD hL hS hO _ _ => (zA X Tryz.underlying196 X Tryz.sizeOf53 X))<|zc 4 [0] X t_kr t_kr X X (fun hD wD τD hL hS hO _ _ => (zf (j := 19) (hL.sub hS) (K0.up (le8.trans le28)) X X X Tryz.isAgg53))<|zc 5 [] X t_kr t_kr X X (fun hD wD τD hL hS hO  => (zB (hL.sub hS) hc29 X Tryz.isAgg34 Tryz.sizeOf34 X))<|zc 6 [] X t_kr t_kr X X (fun hD wD τD hL hS hO  => (zB (hL.sub hS) (p_c.up (le8.trans le28)) X Tryz.isAgg30 Tryz.sizeOf30 X))<|zc 7 [] X t_kr t_kr X X (fun hD wD τD hL hS hO  => (zf (j := 0) (hL.sub hS) (word_c.up (le8.trans le28)) X X X Tryz.isAgg9)) ?_
     refine zF 8 (.det (.bool true)) [3, 2, 1, 0] rfl t_kr t_kr ?_ ?_
     ·
      intro hD wD τD hL hS hO _ _ _ _ _ _ _ _
      have st133 := St.start hS
      refine OpsL.callFV (fs := []) (cs := []) st133 X X X X Tryz.call256 X (c_stem_kinds_3 st133.sub (d := p14.2) t_u8 zO zO t_u8 (p := p) _ zO) ?_
      intro r134 w135 h136 le137 st138 q139
      obtain rfl := q139
      exact zj ⟨_, _, rfl, st138, (), congrArg Value.bool g132_r, trivial⟩
     refine zc 9 [0] X t_kr t_kr X X (fun hD wD τD hL hS hO _ _ => (r_mvB X))<|zM 10 [0] X t_kr t_kr X X X (fun hD wD τD hL hS hO _ _ => ⟨rfl, (r_move X)⟩)<|zM 11 [1] X t_kr t_kr X X X (fun hD wD τD hL hS hO _ _ => ⟨rfl, (zB (hL.sub hS) hc29 X Tryz.isAgg34 Tryz.sizeOf34 X)⟩)<|Drw.ch<|Drw.ch<|Drw.ch<|Drw.nil X X X X X X ⟨t_kr, X, t_kr, X, t_kr, X, X, t_kr, (zaf X (zaf X (zaf X cx_nil)))⟩ ?_
     intro hE141 w142 _ le143 st144 _ _ _ _ _ _
     refine Z X X (d := 25) X ?_
     have hcb : concB p14.2 p word = true := by simp only [concB, hk31]; first | exact g132 | (have q := g132; rw [ordI_le] at q; exact q)
     have hJc := hJm _ _ _ _ hJ (le28.trans le143)
     have hAc : (∃ vs, _ = Value.agg vs.toArray ∧ LDecision.R hE141 vs p14.2) ∧ p14.2 ∈ o.stands.map (·.2) := ⟨⟨_, rfl, LDecision.up (o_f3.2 p14 hpm) ((le8.trans le28).trans le143)⟩, List.mem_map_of_mem hpm⟩
     refine OpsL.yieldsJ rfl rfl rfl rfl rfl (hY _ _ _ _ [o16] rest _ ((le8.trans le28).trans le143) hJc st144 hAc) ?_
     intro yb145 w146 h147 rest148 le149 st150 hj151 hx152
     refine zj ⟨_, rfl, _, _, le149, st150, ?_⟩
     intro hE154 w155 _ le156 st157 _ _
     refine Z X X (d := 25) X<|v_not X X ?_
     refine zj ⟨_, rfl, _, _, Le.refl _, st157, ?_⟩
     intro hE159 w160 _ le161 st162 _ _
     refine v_pickT (v := (.bool _)) X X X ?_
     refine zj ⟨_, rfl, _, _, Le.refl _, st162, ?_⟩
     intro hE163 w164 _ le165 st166 _ _ _ _ _ _ _ _ _ _ _ _ _ _ _ _ _ _ _ _ _ _ _ _
     refine AllDeps.fin X<|U ?_
     refine zh rfl (fun c168 => ?_) (fun c168 => ?_)
     ·
      refine zk<|zw<|zd<|zw<|Post.ret0 Tryz.results194 ?_
      exact ⟨_, _, _, rfl, ((((((le8.trans le28).trans le143).trans le149).trans le156).trans le161).trans le165), (st166).tl, .inr ⟨_, hJxm _ _ _ _ (hx152 (by simpa using c168)) ((le156.trans le161).trans le165)⟩⟩
     ·
      refine zo<|zz<|U ?_
      refine ⟨⟨dn ++ [p14], rm15, rest148, o16, hE163⟩, trivial, ?_, ⟨((((((le8.trans le28).trans le143).trans le149).trans le156).trans le161).trans le165), st166, ?_, ?_, ?_⟩, ?_⟩
      ·exact zR
      ·exact (hI17.up (((((le28.trans le143).trans le149).trans le156).trans le161).trans le165))
      ·exact perm_step hpd hp19
      ·rw [List.map_append, List.filter_append]; simp only [List.map_cons, List.map_nil, List.filter_cons, List.filter_nil]
       rw [if_pos hcb]; exact hJm _ _ _ _ (hj151 (by simpa using c168)) ((le156.trans le161).trans le165)
      ·show ((rm15)).length < rm.length
       have q := hp19.length_eq; simp only [List.length_cons] at q; omega
    ·
     have g132_r := g132
     refine zZ (er := ([], [], [], [], 0)) (dsts := [16, 17, 18, 19, 20, 21, 22, 23, 24, 25, 26, 27, 28, 29, 30]) st30 Tryz.mixed<|zc 0 [] X t_kr t_kr X X (fun hD wD τD hL hS hO  => (zA X Tryz.underlying34 X Tryz.sizeOf5 X))<|zc 1 [0] X t_kr t_kr X X (fun hD wD τD hL hS hO _ _ => (zf (j := 1) (hL.sub hS) hc29 X X X Tryz.isAgg5)) ?_
     refine zc 2 [0] rfl t_kr t_kr rfl rfl (fun hD wD τD hL hS hO _ _ => (r_index_arr rfl rfl (show _ = ((3 : Nat) : Int) by rw [hk31]; rfl) rfl Tryz.underlying197 Tryz.sizeOf196)) ?_
     refine zc 3 [0] X t_kr t_kr X X (fun hD wD τD hL hS hO _ _ => (zA X Tryz.underlying196 X Tryz.sizeOf53 X))<|zc 4 [0] X t_kr t_kr X X (fun hD wD τD hL hS hO _ _ => (zf (j := 19) (hL.sub hS) (K0.up (le8.trans le28)) X X X Tryz.isAgg53))<|zc 5 [] X t_kr t_kr X X (fun hD wD τD hL hS hO  => (zB (hL.sub hS) hc29 X Tryz.isAgg34 Tryz.sizeOf34 X))<|zc 6 [] X t_kr t_kr X X (fun hD wD τD hL hS hO  => (zB (hL.sub hS) (p_c.up (le8.trans le28)) X Tryz.isAgg30 Tryz.sizeOf30 X))<|zc 7 [] X t_kr t_kr X X (fun hD wD τD hL hS hO  => (zf (j := 0) (hL.sub hS) (word_c.up (le8.trans le28)) X X X Tryz.isAgg9)) ?_
     refine zF 8 (.det (.bool false)) [3, 2, 1, 0] rfl t_kr t_kr ?_ ?_
     ·
      intro hD wD τD hL hS hO _ _ _ _ _ _ _ _
      have st169 := St.start hS
      refine OpsL.callFV (fs := []) (cs := []) st169 X X X X Tryz.call256 X (c_stem_kinds_3 st169.sub (d := p14.2) t_u8 zO zO t_u8 (p := p) _ zO) ?_
      intro r170 w171 h172 le173 st174 q175
      obtain rfl := q175
      exact zj ⟨_, _, rfl, st174, (), congrArg Value.bool g132_r, trivial⟩
     refine zc 9 [0] X t_kr t_kr X X (fun hD wD τD hL hS hO _ _ => (r_mvB X))<|zX 10 [0] X t_kr t_kr X X X X (fun hD wD τD hL hS hO _ _ => X)<|zX 11 [1] X t_kr t_kr X X X X (fun hD wD τD hL hS hO _ _ => X)<|zX 12 [1, 0, 2] X t_kr t_kr X X X X (fun hD wD τD hL hS hO _ _ _ _ _ _ => X)<|zX 13 [0, 3] X t_kr t_kr X X X X (fun hD wD τD hL hS hO _ _ _ _ => X)<|zc 14 [4, 0] X t_kr t_kr X X (fun hD wD τD hL hS hO _ _ _ _ => (r_pickF (v := (.bool _)) X X))<|Drw.nil X X X X X X ⟨t_kr, X, t_kr, X, t_kr, X, X, t_kr, cx_nil⟩ ?_
     intro hE176 w177 _ le178 st179 _ _ _ _ _ _ _ _ _ _ _ _ _ _ _ _ _ _ _ _ _ _ _ _ _ _ _ _ _ _
     refine AllDeps.fin X<|U ?_
     refine zh rfl (fun c181 => ?_) (fun c181 => ?_)
     ·
      cases c181
     ·
      refine zo<|zz<|U ?_
      refine ⟨⟨dn ++ [p14], rm15, rest, o16, hE176⟩, trivial, ?_, ⟨((le8.trans le28).trans le178), st179, ?_, ?_, ?_⟩, ?_⟩
      ·exact zR
      ·exact (hI17.up (le28.trans le178))
      ·exact perm_step hpd hp19
      ·rw [List.map_append, List.filter_append]; simp only [List.map_cons, List.map_nil, List.filter_cons, List.filter_nil]
       rw [if_neg (by simp only [concB, hk31]; first | (simp; done) | (have q := g132; rw [ordI_le] at q; simpa using q) | (have q := g132; simpa using q))]; rw [List.append_nil]; exact hJm _ _ _ _ hJ (le28.trans le178)
      ·show ((rm15)).length < rm.length
       have q := hp19.length_eq; simp only [List.length_cons] at q; omega
   ·
    rcases Bool.eq_false_or_eq_true ((false)) with g182 | g182
    ·
     have g182_r := g182
     refine zZ (er := ([], [], [], [], 0)) (dsts := [16, 17, 18, 19, 20, 21, 22, 23, 24, 25, 26, 27, 28, 29, 30]) st30 Tryz.mixed<|zc 0 [] X t_kr t_kr X X (fun hD wD τD hL hS hO  => (zA X Tryz.underlying34 X Tryz.sizeOf5 X))<|zc 1 [0] X t_kr t_kr X X (fun hD wD τD hL hS hO _ _ => (zf (j := 1) (hL.sub hS) hc29 X X X Tryz.isAgg5)) ?_
     refine zc 2 [0] rfl t_kr t_kr rfl rfl (fun hD wD τD hL hS hO _ _ => (r_index_arr rfl rfl (show _ = ((4 : Nat) : Int) by rw [hk31]; rfl) rfl Tryz.underlying197 Tryz.sizeOf196)) ?_
     refine zc 3 [0] X t_kr t_kr X X (fun hD wD τD hL hS hO _ _ => (zA X Tryz.underlying196 X Tryz.sizeOf53 X))<|zc 4 [0] X t_kr t_kr X X (fun hD wD τD hL hS hO _ _ => (zf (j := 24) (hL.sub hS) (K0.up (le8.trans le28)) X X X Tryz.isAgg53))<|zc 5 [] X t_kr t_kr X X (fun hD wD τD hL hS hO  => (zB (hL.sub hS) hc29 X Tryz.isAgg34 Tryz.sizeOf34 X))<|zc 6 [] X t_kr t_kr X X (fun hD wD τD hL hS hO  => (zB (hL.sub hS) (p_c.up (le8.trans le28)) X Tryz.isAgg30 Tryz.sizeOf30 X))<|zc 7 [] X t_kr t_kr X X (fun hD wD τD hL hS hO  => (zf (j := 0) (hL.sub hS) (word_c.up (le8.trans le28)) X X X Tryz.isAgg9)) ?_
     refine zF 8 (.det (.bool true)) [3, 2, 1, 0] rfl t_kr t_kr ?_ ?_
     ·
      intro hD wD τD hL hS hO _ _ _ _ _ _ _ _
      have st183 := St.start hS
      refine OpsL.callFV (fs := []) (cs := []) st183 X X X X Tryz.call257 X (c_stem_kinds_4 st183.sub (d := p14.2) t_u8 zO zO t_u8 (p := p) _ zO) ?_
      intro r184 w185 h186 le187 st188 q189
      obtain rfl := q189
      exact zj ⟨_, _, rfl, st188, (), congrArg Value.bool g182_r, trivial⟩
     refine zc 9 [0] X t_kr t_kr X X (fun hD wD τD hL hS hO _ _ => (r_mvB X))<|zM 10 [0] X t_kr t_kr X X X (fun hD wD τD hL hS hO _ _ => ⟨rfl, (r_move X)⟩)<|zM 11 [1] X t_kr t_kr X X X (fun hD wD τD hL hS hO _ _ => ⟨rfl, (zB (hL.sub hS) hc29 X Tryz.isAgg34 Tryz.sizeOf34 X)⟩)<|Drw.ch<|Drw.ch<|Drw.ch<|Drw.nil X X X X X X ⟨t_kr, X, t_kr, X, t_kr, X, X, t_kr, (zaf X (zaf X (zaf X cx_nil)))⟩ ?_
     intro hE191 w192 _ le193 st194 _ _ _ _ _ _
     refine Z X X (d := 25) X ?_
     have hcb : concB p14.2 p word = true := by simp only [concB, hk31]; first | exact g182 | (have q := g182; rw [ordI_le] at q; exact q)
     have hJc := hJm _ _ _ _ hJ (le28.trans le193)
     have hAc : (∃ vs, _ = Value.agg vs.toArray ∧ LDecision.R hE191 vs p14.2) ∧ p14.2 ∈ o.stands.map (·.2) := ⟨⟨_, rfl, LDecision.up (o_f3.2 p14 hpm) ((le8.trans le28).trans le193)⟩, List.mem_map_of_mem hpm⟩
     refine OpsL.yieldsJ rfl rfl rfl rfl rfl (hY _ _ _ _ [o16] rest _ ((le8.trans le28).trans le193) hJc st194 hAc) ?_
     intro yb195 w196 h197 rest198 le199 st200 hj201 hx202
     refine zj ⟨_, rfl, _, _, le199, st200, ?_⟩
     intro hE204 w205 _ le206 st207 _ _
     refine Z X X (d := 25) X<|v_not X X ?_
     refine zj ⟨_, rfl, _, _, Le.refl _, st207, ?_⟩
     intro hE209 w210 _ le211 st212 _ _
     refine v_pickT (v := (.bool _)) X X X ?_
     refine zj ⟨_, rfl, _, _, Le.refl _, st212, ?_⟩
     intro hE213 w214 _ le215 st216 _ _ _ _ _ _ _ _ _ _ _ _ _ _ _ _ _ _ _ _ _ _ _ _
     refine AllDeps.fin X<|U ?_
     refine zh rfl (fun c218 => ?_) (fun c218 => ?_)
     ·
      refine zk<|zw<|zd<|zw<|Post.ret0 Tryz.results194 ?_
      exact ⟨_, _, _, rfl, ((((((le8.trans le28).trans le193).trans le199).trans le206).trans le211).trans le215), (st216).tl, .inr ⟨_, hJxm _ _ _ _ (hx202 (by simpa using c218)) ((le206.trans le211).trans le215)⟩⟩
     ·
      refine zo<|zz<|U ?_
      refine ⟨⟨dn ++ [p14], rm15, rest198, o16, hE213⟩, trivial, ?_, ⟨((((((le8.trans le28).trans le193).trans le199).trans le206).trans le211).trans le215), st216, ?_, ?_, ?_⟩, ?_⟩
      ·exact zR
      ·exact (hI17.up (((((le28.trans le193).trans le199).trans le206).trans le211).trans le215))
      ·exact perm_step hpd hp19
      ·rw [List.map_append, List.filter_append]; simp only [List.map_cons, List.map_nil, List.filter_cons, List.filter_nil]
       rw [if_pos hcb]; exact hJm _ _ _ _ (hj201 (by simpa using c218)) ((le206.trans le211).trans le215)
      ·show ((rm15)).length < rm.length
       have q := hp19.length_eq; simp only [List.length_cons] at q; omega
    ·
     have g182_r := g182
     refine zZ (er := ([], [], [], [], 0)) (dsts := [16, 17, 18, 19, 20, 21, 22, 23, 24, 25, 26, 27, 28, 29, 30]) st30 Tryz.mixed<|zc 0 [] X t_kr t_kr X X (fun hD wD τD hL hS hO  => (zA X Tryz.underlying34 X Tryz.sizeOf5 X))<|zc 1 [0] X t_kr t_kr X X (fun hD wD τD hL hS hO _ _ => (zf (j := 1) (hL.sub hS) hc29 X X X Tryz.isAgg5)) ?_
     refine zc 2 [0] rfl t_kr t_kr rfl rfl (fun hD wD τD hL hS hO _ _ => (r_index_arr rfl rfl (show _ = ((4 : Nat) : Int) by rw [hk31]; rfl) rfl Tryz.underlying197 Tryz.sizeOf196)) ?_
     refine zc 3 [0] X t_kr t_kr X X (fun hD wD τD hL hS hO _ _ => (zA X Tryz.underlying196 X Tryz.sizeOf53 X))<|zc 4 [0] X t_kr t_kr X X (fun hD wD τD hL hS hO _ _ => (zf (j := 24) (hL.sub hS) (K0.up (le8.trans le28)) X X X Tryz.isAgg53))<|zc 5 [] X t_kr t_kr X X (fun hD wD τD hL hS hO  => (zB (hL.sub hS) hc29 X Tryz.isAgg34 Tryz.sizeOf34 X))<|zc 6 [] X t_kr t_kr X X (fun hD wD τD hL hS hO  => (zB (hL.sub hS) (p_c.up (le8.trans le28)) X Tryz.isAgg30 Tryz.sizeOf30 X))<|zc 7 [] X t_kr t_kr X X (fun hD wD τD hL hS hO  => (zf (j := 0) (hL.sub hS) (word_c.up (le8.trans le28)) X X X Tryz.isAgg9)) ?_
     refine zF 8 (.det (.bool false)) [3, 2, 1, 0] rfl t_kr t_kr ?_ ?_
     ·
      intro hD wD τD hL hS hO _ _ _ _ _ _ _ _
      have st219 := St.start hS
      refine OpsL.callFV (fs := []) (cs := []) st219 X X X X Tryz.call257 X (c_stem_kinds_4 st219.sub (d := p14.2) t_u8 zO zO t_u8 (p := p) _ zO) ?_
      intro r220 w221 h222 le223 st224 q225
      obtain rfl := q225
      exact zj ⟨_, _, rfl, st224, (), congrArg Value.bool g182_r, trivial⟩
     refine zc 9 [0] X t_kr t_kr X X (fun hD wD τD hL hS hO _ _ => (r_mvB X))<|zX 10 [0] X t_kr t_kr X X X X (fun hD wD τD hL hS hO _ _ => X)<|zX 11 [1] X t_kr t_kr X X X X (fun hD wD τD hL hS hO _ _ => X)<|zX 12 [1, 0, 2] X t_kr t_kr X X X X (fun hD wD τD hL hS hO _ _ _ _ _ _ => X)<|zX 13 [0, 3] X t_kr t_kr X X X X (fun hD wD τD hL hS hO _ _ _ _ => X)<|zc 14 [4, 0] X t_kr t_kr X X (fun hD wD τD hL hS hO _ _ _ _ => (r_pickF (v := (.bool _)) X X))<|Drw.nil X X X X X X ⟨t_kr, X, t_kr, X, t_kr, X, X, t_kr, cx_nil⟩ ?_
     intro hE226 w227 _ le228 st229 _ _ _ _ _ _ _ _ _ _ _ _ _ _ _ _ _ _ _ _ _ _ _ _ _ _ _ _ _ _
     refine AllDeps.fin X<|U ?_
     refine zh rfl (fun c231 => ?_) (fun c231 => ?_)
     ·
      cases c231
     ·
      refine zo<|zz<|U ?_
      refine ⟨⟨dn ++ [p14], rm15, rest, o16, hE226⟩, trivial, ?_, ⟨((le8.trans le28).trans le228), st229, ?_, ?_, ?_⟩, ?_⟩
      ·exact zR
      ·exact (hI17.up (le28.trans le228))
      ·exact perm_step hpd hp19
      ·rw [List.map_append, List.filter_append]; simp only [List.map_cons, List.map_nil, List.filter_cons, List.filter_nil]
       rw [if_neg (by simp only [concB, hk31]; first | (simp; done) | (have q := g182; rw [ordI_le] at q; simpa using q) | (have q := g182; simpa using q))]; rw [List.append_nil]; exact hJm _ _ _ _ hJ (le28.trans le228)
      ·show ((rm15)).length < rm.length
       have q := hp19.length_eq; simp only [List.length_cons] at q; omega
  ·
   cases c24
end Go.Pk

namespace Go.Pk
open Go Go.RowKit Go.Proofs
set_option maxRecDepth 4000 in
theorem c_stem_office_concerning {h : Heap} {w : World} (hs : Sub h w) {o_b : Nat} {o : Office} {o_v0 : Value} (o_f0 : Sl LRule h o_v0 o.lex.rules) {o_v1 : Value} (o_f1 : Sl LDecision h o_v1 o.lex.decisions) {o_v2 : Value} (o_f2 : Sl LChapter h o_v2 o.text.chapters) {o_v3 : Value} (o_f3 : FML (fun n : Int => .int .i64 n) (fun x : Decision => [.int .i64 x.number, .int .u8 x.kind, strV x.form, .int .i64 x.at_.chapter, .int .i64 x.at_.line, .int .i64 x.at_.word, strV x.to.stem, .int .u8 x.to.mark, .int .i64 x.of_]) LDecision h o.stands o_v3) (o_c : Cells h o_b 0 [o_v0, o_v1, o_v2, o_v3]) {p : Place} (word : Str) (word_le : word.length ≤ 281474976710656) : Calls Tryz.prog 138 #[.pointer (some ⟨o_b, 0, none⟩), .agg #[.int .i64 p.chapter, .int .i64 p.line, .int .i64 p.word], strV word] w (fun e_ w' => ∃ h' bo bp bw, e_ = .returned (.func (.func 194) #[] #[.pointer (some ⟨bo, 0, none⟩), .pointer (some ⟨bp, 0, none⟩), .pointer (some ⟨bw, 0, none⟩)]) ∧ Le h h' ∧ St h w h' w' [] ∧ Cells h' bo 0 [.pointer (some ⟨o_b, 0, none⟩)] ∧ Cells h' bp 0 [.int .i64 p.chapter, .int .i64 p.line, .int .i64 p.word] ∧ Cells h' bw 0 [strV word]) := by
 refine zx (n := 8) (args := [.pointer (some ⟨o_b, 0, none⟩), .agg #[.int .i64 p.chapter, .int .i64 p.line, .int .i64 p.word], strV word]) Tryz.func138 X X X ?_
 have st0 : St h w h w [] := St.start hs
 have o_f0_b := o_f0.le
 have o_f1_b := o_f1.le
 have o_f2_b := o_f2.le
 refine W.sr<|zl st0 (cs := [.pointer (some ⟨o_b, 0, none⟩)]) X X X ?_
 intro b1 w2 h3 le4 hc5 st6
 refine zl st6 (cs := [.int .i64 (p.chapter), .int .i64 (p.line), .int .i64 (p.word)]) X X X ?_
 intro b7 w8 h9 le10 hc11 st12
 refine zl st12 (cs := [strV word]) X X X ?_
 intro b13 w14 h15 le16 hc17 st18
 refine v_assign X X<|Y<|W.sr<|v_make_func X X X<|ze X X (r_asF X)<|Y<|zk<|O Tryz.results138 ?_
 exact ⟨h15, _, _, _, rfl, ((le4.trans le10).trans le16), st18, (hc5.up (le10.trans le16)), (hc11.up le16), hc17⟩
set_option maxRecDepth 4000 in
theorem c_stem_office_wins {h : Heap} {w : World} (hs : Sub h w) {o_b : Nat} {o : Office} {o_v0 : Value} (o_f0 : Sl LRule h o_v0 o.lex.rules) {o_v1 : Value} (o_f1 : Sl LDecision h o_v1 o.lex.decisions) {o_v2 : Value} (o_f2 : Sl LChapter h o_v2 o.text.chapters) {o_v3 : Value} (o_f3 : FML (fun n : Int => .int .i64 n) (fun x : Decision => [.int .i64 x.number, .int .u8 x.kind, strV x.form, .int .i64 x.at_.chapter, .int .i64 x.at_.line, .int .i64 x.at_.word, strV x.to.stem, .int .u8 x.to.mark, .int .i64 x.of_]) LDecision h o.stands o_v3) (o_c : Cells h o_b 0 [o_v0, o_v1, o_v2, o_v3]) {p : Place} (K0 : Cells h 0 0 Tryz.glob0) (ho : OkO o) (hp : placeB o.text p = true) : Calls Tryz.prog 104 #[.pointer (some ⟨o_b, 0, none⟩), .agg #[.int .i64 p.chapter, .int .i64 p.line, .int .i64 p.word]] w (Rets h w (fun _ _ res_ => res_ = .agg #[.int .i64 ((winD o.lex p (wordD o.text p))).number, .int .u8 ((winD o.lex p (wordD o.text p))).kind, strV ((winD o.lex p (wordD o.text p))).form, .int .i64 ((winD o.lex p (wordD o.text p))).at_.chapter, .int .i64 ((winD o.lex p (wordD o.text p))).at_.line, .int .i64 ((winD o.lex p (wordD o.text p))).at_.word, strV ((winD o.lex p (wordD o.text p))).to.stem, .int .u8 ((winD o.lex p (wordD o.text p))).to.mark, .int .i64 ((winD o.lex p (wordD o.text p))).of_])) := by
 refine V.calls (n := 57) (args := [.pointer (some ⟨o_b, 0, none⟩), .agg #[.int .i64 p.chapter, .int .i64 p.line, .int .i64 p.word]]) Tryz.func104 X X X ?_
 have st0 : St h w h w [] := St.start hs
 have o_f0_b := o_f0.le
 have o_f1_b := o_f1.le
 have o_f2_b := o_f2.le
 obtain ⟨c, ln, wd, hpc, hc, hpl, hln, hpw, hwd, hwe⟩ := place_at hp
 have hw12 := wordD_len (check_text ho.1) hp
 rw [hwe] at hw12
 have hk4 : ∀ q ∈ o.stands, 1 ≤ q.2.kind ∧ q.2.kind ≤ 4 := fun q hq => (standM_ok ho.1 (ho.2 ▸ hq)).2.2.2
 have hDO : ∀ d ∈ o.stands.map (·.2), (0 ≤ d.number ∧ d.number ≤ 999) ∧ (0 ≤ d.kind ∧ d.kind ≤ 255) ∧ d.form.length ≤ 281474976710656 ∧ d.to.stem.length ≤ 281474976710656 ∧ (0 ≤ d.to.mark ∧ d.to.mark ≤ 255) := by
  intro d hd
  obtain ⟨q, hq, rfl⟩ := List.mem_map.1 hd
  have q1 := standM_ok ho.1 (ho.2 ▸ hq)
  obtain ⟨_, q2, q3, q4, q5⟩ := o_f3.2 q hq
  exact ⟨⟨by omega, by omega⟩, q2, q3, q4, q5⟩
 refine V.seq<|zW X<|zl st0 (cs := [.int .i64 (p.chapter), .int .i64 (p.line), .int .i64 (p.word)]) X X X ?_
 intro b1 w2 h3 le4 hc5 st6
 refine zy st6 Tryz.zeroValue34 X X ?_
 intro b7 w8 st9
 refine zj<|zK<|V.seq<|V.ofW<|W.regionQ Tryz.mixed t_kr (Cls h3 _) (Cls.drew st9)<|u_mvP X X<|zt X X (fun _ _ => (r_nil_check X))<|u_field_addr X Tryz.underlying129 X Tryz.sizeOf24 X X<|u_field_addr X Tryz.underlying24 X Tryz.sizeOf22 X X<|zt X X (fun _ hC => (zf (j := 2) hC.sub (o_c.up le4) X X X Tryz.isAgg22))<|u_field_addr X Tryz.underlying30 X Tryz.sizeOf3 X X<|zt X X (fun _ hC => (zf (j := 0) hC.sub hc5 X X X Tryz.isAgg3)) ?_
 obtain ⟨b10, o11, _, he13, hc12, hr_c⟩ := Sl.elem (o_f2.up le4) hc
 obtain ⟨v14, rfl, f15⟩ := hr_c
 have f15_b := f15.le
 refine zt rfl rfl (fun _ _ => (zQ he13 rfl rfl (hk := (show _ = ((p.chapter.toNat : Nat) : Int) by omega)) (hu := Tryz.underlying22) (hz := Tryz.sizeOf133))) ?_
 refine u_field_addr X Tryz.underlying133 X Tryz.sizeOf131 X X<|zt X X (fun _ hC => (zf (j := 1) hC.sub hc12 X X X Tryz.isAgg131))<|u_field_addr X Tryz.underlying30 X Tryz.sizeOf3 X X<|zt X X (fun _ hC => (zf (j := 1) hC.sub hc5 X X X Tryz.isAgg3)) ?_
 obtain ⟨b16, o17, _, he19, hc18, hr_ln⟩ := Sl.elem f15 hln
 obtain ⟨v20, rfl, f21⟩ := hr_ln
 have f21_b := f21.le
 refine zt rfl rfl (fun _ _ => (zQ he19 rfl rfl (hk := (show _ = ((p.line.toNat : Nat) : Int) by omega)) (hu := Tryz.underlying131) (hz := Tryz.sizeOf62))) ?_
 refine zt X X (fun _ hC => (zf (j := 0) hC.sub hc18 X X X Tryz.isAgg62))<|u_field_addr X Tryz.underlying30 X Tryz.sizeOf3 X X<|zt X X (fun _ hC => (zf (j := 2) hC.sub hc5 X X X Tryz.isAgg3)) ?_
 obtain ⟨b22, o23, _, he25, hc24, hr_wd⟩ := Sl.elem f21 hwd
 obtain ⟨rfl, ls26⟩ := hr_wd
 simp only [big] at ls26
 refine zt rfl rfl (fun _ _ => (zQ he25 rfl rfl (hk := (show _ = ((p.word.toNat : Nat) : Int) by omega)) (hu := Tryz.underlying62) (hz := Tryz.sizeOf9))) ?_
 refine zt X X (fun _ hC => (zf (j := 0) hC.sub hc24 X X X Tryz.isAgg9))<|u_asS X X<|OpsQ.nil ?_
 rintro w27 ⟨h28, s29⟩
 have st30 := st9.call0 s29
 refine zK<|V.seq<|zW X<|zy st30 Tryz.zeroValue34 X X ?_
 intro b31 w32 st33
 refine zj<|zK<|V.seq<|V.seq<|zW X<|v_mvP X X<|v_load_call st33.sub (hc5.up s29.le) X Tryz.isAgg30 Tryz.sizeOf30 X X<|v_mvS X X ?_
 refine zD rfl rfl (zS rfl Tryz.call138 rfl) ((c_stem_office_concerning st33.sub (o := o) (o_f0.up (le4.trans s29.le)) (o_f1.up (le4.trans s29.le)) (o_f2.up (le4.trans s29.le)) (o_f3.up (le4.trans s29.le)) (o_c.up (le4.trans s29.le)) (p := p) _ zO).mono ?_)
 rintro _ w34 ⟨h35, bo36, bp37, bw38, rfl, le39, s40, hc41, hc42, hc43⟩
 refine ⟨_, rfl, ?_⟩
 have st44 := st33.call s40
 have st45 : St h w h35 w34 [[(b7, .cells (List.toArray [.int .i64 0, .int .u8 0, strV [], .int .i64 0, .int .i64 0, .int .i64 0, strV [], .int .u8 0, .int .i64 0]) 34)], [(b31, .cells (List.toArray [.int .i64 0, .int .u8 0, strV [], .int .i64 0, .int .i64 0, .int .i64 0, strV [], .int .u8 0, .int .i64 0]) 34)]] := by rw [List.append_nil] at st44; exact st44
 refine zj<|zK<|V.block ?_
 have seq46 : Gives Tryz.prog 194 [.pointer (some ⟨bo36, 0, none⟩), .pointer (some ⟨bp37, 0, none⟩), .pointer (some ⟨bw38, 0, none⟩)] (fun h_ u_ x_ => (∃ vs, u_ = .agg vs.toArray ∧ LDecision.R h_ vs x_) ∧ x_ ∈ o.stands.map (·.2)) (fun xs_ => ∃ dn : List (Int × Decision), dn.Perm o.stands ∧ xs_ = (dn.map (·.2)).filter fun d => concB d p wd) h w h35 := by
  intro l_ J_ Jx_ hm_ hxm_ hY_ h1_ w1_ rest_ le_ hJ_ st_
  exact c_stem_office_concerning_1 (o := o) ((o_f0.up ((le4.trans s29.le).trans le39)).up le_) ((o_f1.up ((le4.trans s29.le).trans le39)).up le_) ((o_f2.up ((le4.trans s29.le).trans le39)).up le_) ((o_f3.up ((le4.trans s29.le).trans le39)).up le_) ((o_c.up ((le4.trans s29.le).trans le39)).up le_) (hc41.up le_) (p := p) (hc42.up le_) (word := wd) (by assumption) (hc43.up le_) hm_ hxm_ hJ_ (fun _ _ _ _ _ _ _ l2_ a_ b_ c_ => hY_ _ _ _ _ _ _ _ (le_.trans l2_) a_ b_ c_) ((K0.up ((le4.trans s29.le).trans le39)).up le_) (by exact hk4) st_
 refine V.rangeFunc (I := fun xs _ own_ => own_ = [[(b7, .cells (List.toArray [.int .i64 0, .int .u8 0, strV [], .int .i64 0, .int .i64 0, .int .i64 0, strV [], .int .u8 0, .int .i64 0]) 34)], [(b31, .cells (List.toArray [.int .i64 ((bestOf xs).number), .int .u8 ((bestOf xs).kind), strV ((bestOf xs).form), .int .i64 ((bestOf xs).at_.chapter), .int .i64 ((bestOf xs).at_.line), .int .i64 ((bestOf xs).at_.word), strV ((bestOf xs).to.stem), .int .u8 ((bestOf xs).to.mark), .int .i64 ((bestOf xs).of_)]) 34)]] ∧ ∀ y ∈ xs, y ∈ o.stands.map (·.2)) (Ix := fun _ _ _ _ => False) st45 rfl Tryz.call194 rfl seq46 (by rintro _ _ _ _ h_ _; exact h_) (by intro _ _ _ _ _ h_ _; exact h_) ⟨rfl, by simp⟩ ?_ ?_ ?_
 ·rintro l_ pre x h47 w48 _ tail u49 le50 ⟨rfl, hi52⟩ st51 hA53
  obtain ⟨⟨_, rfl, hR_⟩, hxm⟩ := hA53
  obtain ⟨rfl, lu54, ls55, ls56, lu57⟩ := hR_
  simp only [big] at ls55
  simp only [big] at ls56
  have hDx := hDO _ hxm
  have hDb : (0 ≤ (bestOf pre).number ∧ (bestOf pre).number ≤ 999) ∧ (0 ≤ (bestOf pre).kind ∧ (bestOf pre).kind ≤ 255) ∧ (bestOf pre).form.length ≤ 281474976710656 ∧ (bestOf pre).to.stem.length ≤ 281474976710656 ∧ (0 ≤ (bestOf pre).to.mark ∧ (bestOf pre).to.mark ≤ 255) := best_ok (p := fun d => (0 ≤ d.number ∧ d.number ≤ 999) ∧ (0 ≤ d.kind ∧ d.kind ≤ 255) ∧ d.form.length ≤ 281474976710656 ∧ d.to.stem.length ≤ 281474976710656 ∧ (0 ≤ d.to.mark ∧ d.to.mark ≤ 255)) (by decide) (fun y hy => hDO y (hi52 y hy))
  obtain ⟨hDb1, hDb2, hDb3, hDb4, hDb5⟩ := id hDb
  refine zW X<|OpsL.allocSt st51 Tryz.zeroValue34 X X X (us := [.int .i64 (x.number), .int .u8 (x.kind), strV (x.form), .int .i64 (x.at_.chapter), .int .i64 (x.at_.line), .int .i64 (x.at_.word), strV (x.to.stem), .int .u8 (x.to.mark), .int .i64 (x.of_)]) (fun _ => X) (E X (E X (E X (E X (E X (E X (E X (E X (E X zI))))))))) Tryz.sizeOf34 X ?_
  intro b58 w59 h60 le61 hc62 st63
  refine zj ?_
  refine APost.mk (own2 := [[(b7, .cells (List.toArray [.int .i64 0, .int .u8 0, strV [], .int .i64 0, .int .i64 0, .int .i64 0, strV [], .int .u8 0, .int .i64 0]) 34)], [(b31, .cells (List.toArray [.int .i64 ((bestOf pre).number), .int .u8 ((bestOf pre).kind), strV ((bestOf pre).form), .int .i64 ((bestOf pre).at_.chapter), .int .i64 ((bestOf pre).at_.line), .int .i64 ((bestOf pre).at_.word), strV ((bestOf pre).to.stem), .int .u8 ((bestOf pre).to.mark), .int .i64 ((bestOf pre).of_)]) 34)]]) le61 st63 ?_
  intro tail66 w65 st64
  refine V.block<|V.seq<|zW X<|v_field_addr X Tryz.underlying34 X Tryz.sizeOf3 X X<|v_load_b1 (st64.get (k := 1) X) X X Tryz.isAgg3 X<|v_eql X X X<|v_mvB X X ?_
  refine zp (d := 35) rfl (fun g67 => ?_) (fun g67 => ?_)
  ·
   replace g67 := of_decide_eq_true g67
   refine M X X X X X<|M X X X X X<|M X X X X X<|M X X X X X<|v_pickT (v := (.bool _)) X X X<|zj<|zK ?_
   refine V.cond rfl (fun c68 => ?_) (fun c68 => ?_)
   ·
    refine zW X<|v_load_call st64.sub hc62 X Tryz.isAgg34 Tryz.sizeOf34 X X<|zq st64 (k := 1) X X X (E X (E X (E X (E X (E X (E X (E X (E X (E X zI))))))))) Tryz.sizeOf34 X X X ?_
    intro w69 st70
    refine zj<|BlkV.norm ?_
    refine RPost.norm (own3 := [[(b7, .cells (List.toArray [.int .i64 0, .int .u8 0, strV [], .int .i64 0, .int .i64 0, .int .i64 0, strV [], .int .u8 0, .int .i64 0]) 34)], [(b31, .cells (List.toArray [.int .i64 (x.number), .int .u8 (x.kind), strV (x.form), .int .i64 (x.at_.chapter), .int .i64 (x.at_.line), .int .i64 (x.at_.word), strV (x.to.stem), .int .u8 (x.to.mark), .int .i64 (x.of_)]) 34)]]) (Le.refl _) st70 ⟨?_, ?_⟩
    ·rw [bestOf_snoc, bestStep, if_pos (.inl g67)]
    ·intro y hy; rcases List.mem_append.1 hy with q | q; exact hi52 y q; (simp at q; rw [q]; exact hxm)
   ·
    cases c68
  ·
   replace g67 := of_decide_eq_false g67
   refine Z X X (d := 35) X<|v_load_call st64.sub hc62 X Tryz.isAgg34 Tryz.sizeOf34 X X<|Z X X (d := 35) X<|v_load_ball (st64.get (k := 1) X) X Tryz.isAgg34 Tryz.sizeOf34 X X<|Z X X (d := 35) X ?_
   refine za st64 rfl rfl rfl Tryz.call139 rfl (c_stem_first st64.sub (a := x) t_u8 zO zO t_u8 (b := (bestOf pre)) t_u8 zO zO t_u8 (by exact hDx.1) (by exact hDb.1)) ?_
   intro r71 w72 h73 le74 st75 q76
   obtain rfl := q76
   refine Z X X (d := 35) X<|v_gtr X X X<|v_pickF (v := (.bool _)) X X X<|zj<|zK ?_
   refine V.cond rfl (fun c77 => ?_) (fun c77 => ?_)
   ·
    replace c77 := of_decide_eq_true c77
    refine zW X<|v_load_call st75.sub (hc62.up le74) X Tryz.isAgg34 Tryz.sizeOf34 X X<|zq st75 (k := 1) X X X (E X (E X (E X (E X (E X (E X (E X (E X (E X zI))))))))) Tryz.sizeOf34 X X X ?_
    intro w78 st79
    refine zj<|BlkV.norm ?_
    refine RPost.norm (own3 := [[(b7, .cells (List.toArray [.int .i64 0, .int .u8 0, strV [], .int .i64 0, .int .i64 0, .int .i64 0, strV [], .int .u8 0, .int .i64 0]) 34)], [(b31, .cells (List.toArray [.int .i64 (x.number), .int .u8 (x.kind), strV (x.form), .int .i64 (x.at_.chapter), .int .i64 (x.at_.line), .int .i64 (x.at_.word), strV (x.to.stem), .int .u8 (x.to.mark), .int .i64 (x.of_)]) 34)]]) le74 st79 ⟨?_, ?_⟩
    ·rw [bestOf_snoc, bestStep, if_pos (.inr c77)]
    ·intro y hy; rcases List.mem_append.1 hy with q | q; exact hi52 y q; (simp at q; rw [q]; exact hxm)
   ·
    replace c77 := of_decide_eq_false c77
    refine V.skip<|BlkV.norm ?_
    refine RPost.norm (own3 := [[(b7, .cells (List.toArray [.int .i64 0, .int .u8 0, strV [], .int .i64 0, .int .i64 0, .int .i64 0, strV [], .int .u8 0, .int .i64 0]) 34)], [(b31, .cells (List.toArray [.int .i64 ((bestOf pre).number), .int .u8 ((bestOf pre).kind), strV ((bestOf pre).form), .int .i64 ((bestOf pre).at_.chapter), .int .i64 ((bestOf pre).at_.line), .int .i64 ((bestOf pre).at_.word), strV ((bestOf pre).to.stem), .int .u8 ((bestOf pre).to.mark), .int .i64 ((bestOf pre).of_)]) 34)]]) le74 st75 ⟨?_, ?_⟩
    ·rw [bestOf_snoc, bestStep, if_neg (by intro q; rcases q with q | q; exact g67 q; exact c77 q)]
    ·intro y hy; rcases List.mem_append.1 hy with q | q; exact hi52 y q; (simp at q; rw [q]; exact hxm)
 ·rintro D80 xs h81 w82 _ le83 hS84 ⟨rfl, hi85⟩ st86
  have hbe : bestOf xs = bestOf (conD o.lex p wd) := by
   obtain ⟨dn, q1, q2⟩ := hS84
   rw [q2]; exact conD_perm (okO_d ho) (ho.2 ▸ q1)
  have hDb := best_ok (p := fun d => (0 ≤ d.number ∧ d.number ≤ 999) ∧ (0 ≤ d.kind ∧ d.kind ≤ 255) ∧ d.form.length ≤ 281474976710656 ∧ d.to.stem.length ≤ 281474976710656 ∧ (0 ≤ d.to.mark ∧ d.to.mark ≤ 255)) (by decide) (fun y hy => hDO y (hi85 y hy))
  obtain ⟨hDb1, hDb2, hDb3, hDb4, hDb5⟩ := hDb
  have hzz : (bestOf xs).number = 0 → bestOf xs = zDecision := bestOf_zero (fun y hy => by have := hi85 y hy; obtain ⟨q, hq, rfl⟩ := List.mem_map.1 this; exact (standM_ok ho.1 (ho.2 ▸ hq)).2.1)
  refine BlkV.norm<|zK<|V.seq<|V.seq<|zW X<|v_field_addr X Tryz.underlying34 X Tryz.sizeOf3 X X<|v_load_b1 (st86.get (k := 1) X) X X Tryz.isAgg3 X<|v_eql X X X<|zj<|zK ?_
  refine V.cond rfl (fun c87 => ?_) (fun c87 => ?_)
  ·
   replace c87 := of_decide_eq_true c87
   refine V.seq<|zW X<|v_mvP X X<|v_mvS X X ?_
   refine za st86 rfl rfl rfl Tryz.call78 rfl (c_stem_office_steps st86.sub (o := o) (o_f0.up (((le4.trans s29.le).trans le39).trans le83)) (o_f1.up (((le4.trans s29.le).trans le39).trans le83)) (o_f2.up (((le4.trans s29.le).trans le39).trans le83)) (o_f3.up (((le4.trans s29.le).trans le39).trans le83)) (o_c.up (((le4.trans s29.le).trans le39).trans le83)) _ zO (by exact hw12)) ?_
   intro r88 w89 h90 le91 st92 q93
   obtain ⟨v94, e96, f95⟩ := q93
   rw [← e96] at f95
   have f95_b := f95.le
   refine v_assign (v := r88) X X<|zj<|zK<|zW X<|v_move (v := r88) X X<|v_move (v := r88) X X<|v_len f95 X Tryz.underlying62 X ?_
   refine ze rfl rfl (r_sub rfl rfl (by have := List.length_pos_iff.2 (stepsN_ne o.lex.rules 4 wd); omega)) ?_
   have hlst : ∃ y_, (stepsN (o).lex.rules 4 (wd))[(stepsN o.lex.rules 4 wd).length - 1]? = some y_ := ⟨_, List.getElem?_eq_getElem (by have := List.length_pos_iff.2 (stepsN_ne o.lex.rules 4 wd); omega)⟩
   obtain ⟨lst, hlst⟩ := hlst
   obtain ⟨b97, o98, _, he100, hc99, hr_lst⟩ := Sl.elem f95 hlst
   obtain ⟨rfl, ls101⟩ := hr_lst
   simp only [big] at ls101
   refine ze rfl rfl (zQ he100 rfl rfl (hk := (show _ = (((stepsN o.lex.rules 4 wd).length - 1 : Nat) : Int) by have := List.length_pos_iff.2 (stepsN_ne o.lex.rules 4 wd); omega)) (hu := Tryz.underlying62) (hz := Tryz.sizeOf9)) ?_
   refine v_load_cells1 (j := 0) st92.sub hc99 X X X Tryz.isAgg9 X<|v_field_addr X Tryz.underlying34 X Tryz.sizeOf32 X X<|v_field_addr X Tryz.underlying32 X Tryz.sizeOf9 X X<|OpsL.store1 st92 (k := 1) X X X X Tryz.sizeOf9 X X X ?_
   intro w102 st103
   refine zj<|zK<|V.seq<|zW X<|v_load_ball (st103.get (k := 1) X) X Tryz.isAgg34 Tryz.sizeOf34 X X<|zq st103 (k := 0) X X X (E X (E X (E X (E X (E X (E X (E X (E X (E X zI))))))))) Tryz.sizeOf34 X X X ?_
   intro w104 st105
   obtain ⟨h106, le107, hb108, st110⟩ := st105.freeze (k := 0) rfl
   have hc109 := Cells.of hb108
   refine zj<|zK<|V.ret<|PostV.one (own := [[], [(b31, .cells (List.toArray [.int .i64 ((bestOf xs).number), .int .u8 ((bestOf xs).kind), strV ((bestOf xs).form), .int .i64 ((bestOf xs).at_.chapter), .int .i64 ((bestOf xs).at_.line), .int .i64 ((bestOf xs).at_.word), strV lst, .int .u8 ((bestOf xs).to.mark), .int .i64 ((bestOf xs).of_)]) 34)]]) st110 ?_
   intro w112 st111
   refine Post.retcellF Tryz.results104 X Tryz.isAgg34 Tryz.sizeOf34 X st111.sub hc109 ?_
   refine ⟨h106, _, rfl, st111.done, ?_⟩
   refine ?_
   rw [hwe, winD, ← hbe]
   first | (rw [if_pos (by simpa using c87), hzz (by simpa using c87), List.getLast?_eq_getElem?, hlst] <;> rfl) | (rw [if_neg (by simpa using c87)] <;> rfl)
  ·
   replace c87 := of_decide_eq_false c87
   refine V.skip<|zK<|V.seq<|zW X<|v_load_ball (st86.get (k := 1) X) X Tryz.isAgg34 Tryz.sizeOf34 X X<|zq st86 (k := 0) X X X (E X (E X (E X (E X (E X (E X (E X (E X (E X zI))))))))) Tryz.sizeOf34 X X X ?_
   intro w113 st114
   obtain ⟨h115, le116, hb117, st119⟩ := st114.freeze (k := 0) rfl
   have hc118 := Cells.of hb117
   refine zj<|zK<|V.ret<|PostV.one (own := [[], [(b31, .cells (List.toArray [.int .i64 ((bestOf xs).number), .int .u8 ((bestOf xs).kind), strV ((bestOf xs).form), .int .i64 ((bestOf xs).at_.chapter), .int .i64 ((bestOf xs).at_.line), .int .i64 ((bestOf xs).at_.word), strV ((bestOf xs).to.stem), .int .u8 ((bestOf xs).to.mark), .int .i64 ((bestOf xs).of_)]) 34)]]) st119 ?_
   intro w121 st120
   refine Post.retcellF Tryz.results104 X Tryz.isAgg34 Tryz.sizeOf34 X st120.sub hc118 ?_
   refine ⟨h115, _, rfl, st120.done, ?_⟩
   refine ?_
   rw [hwe, winD, ← hbe]
   first | (rw [if_pos (by simpa using c87), hzz (by simpa using c87), List.getLast?_eq_getElem?, hlst] <;> rfl) | (rw [if_neg (by simpa using c87)] <;> rfl)
 ·intro _ _ _ _ _ _ _ hf_; exact hf_.elim
end Go.Pk

namespace Go.Pk
open Go Go.RowKit Go.Proofs
end Go.Pk

namespace Go.Pk
open Go Go.RowKit Go.Proofs
end Go.Pk

namespace Go.Pk
open Go Go.RowKit Go.Proofs
end Go.Pk

namespace Go.Pk
open Go Go.RowKit Go.Proofs
set_option maxRecDepth 4000 in
theorem c_stem_asked {h : Heap} {w : World} (hs : Sub h w) {t : Text} {t_v0 : Value} (t_f0 : Sl LChapter h t_v0 t.chapters) {x : Lexicon} {x_v0 : Value} (x_f0 : Sl LRule h x_v0 x.rules) {x_v1 : Value} (x_f1 : Sl LDecision h x_v1 x.decisions) {p : Place} (K0 : Cells h 0 0 Tryz.glob0) : Calls Tryz.prog 71 #[.agg #[t_v0], .agg #[x_v0, x_v1], .agg #[.int .i64 p.chapter, .int .i64 p.line, .int .i64 p.word]] w (Rets h w (fun _ _ res_ => res_ = .tuple #[.agg #[.int .i64 ((askR t x p)).number, .int .u8 ((askR t x p)).kind, strV ((askR t x p)).form, .int .i64 ((askR t x p)).at_.chapter, .int .i64 ((askR t x p)).at_.line, .int .i64 ((askR t x p)).at_.word, strV ((askR t x p)).to.stem, .int .u8 ((askR t x p)).to.mark, .int .i64 ((askR t x p)).of_], .int .i64 (askE t x p)])) := by
 refine zx (n := 35) (args := [.agg #[t_v0], .agg #[x_v0, x_v1], .agg #[.int .i64 p.chapter, .int .i64 p.line, .int .i64 p.word]]) Tryz.func71 X X X ?_
 have st0 : St h w h w [] := St.start hs
 have t_f0_b := t_f0.le
 have x_f0_b := x_f0.le
 have x_f1_b := x_f1.le
 refine W.sr<|zl st0 (cs := [t_v0]) X X X ?_
 intro b1 w2 h3 le4 hc5 st6
 refine zl st6 (cs := [x_v0, x_v1]) X X X ?_
 intro b7 w8 h9 le10 hc11 st12
 refine zl st12 (cs := [.int .i64 (p.chapter), .int .i64 (p.line), .int .i64 (p.word)]) X X X ?_
 intro b13 w14 h15 le16 hc17 st18
 refine zy st18 Tryz.zeroValue34 X X ?_
 intro b19 w20 st21
 refine v_asI X X<|Y<|W.sr<|v_load_call st21.sub (hc5.up (le10.trans le16)) X Tryz.isAgg24 Tryz.sizeOf24 X X<|v_load_call st21.sub (hc11.up le16) X Tryz.isAgg28 Tryz.sizeOf28 X X<|za st21 X X X Tryz.call67 X (c_stem_open st21.sub (t := t) (t_f0.up ((le4.trans le10).trans le16)) (x := x) (x_f0.up ((le4.trans le10).trans le16)) (x_f1.up ((le4.trans le10).trans le16)) (K0.up ((le4.trans le10).trans le16))) ?_
 intro r22 w23 h24 le25 st26 q27
 rcases Bool.eq_false_or_eq_true (decide (checkN (t) (x) = 0)) with hb28 | hb28
 ·
  simp only [hb28, if_true, if_false, Bool.false_eq_true, reduceIte] at q27
  obtain ⟨v29, rfl, f30⟩ := q27
  obtain ⟨b31, vs32, rfl, hc33, hr34⟩ := f30
  obtain ⟨v35, v37, v39, v41, rfl, f36, f38, f40, lm42⟩ := hr34
  have f36_b := f36.le
  have f38_b := f38.le
  have f40_b := f40.le
  refine v_mvT X X<|v_extract (v := (.pointer (some _))) X X X<|v_extract (v := (.int _ _)) X X X<|v_asP X X<|v_asI X X<|Y<|zg<|W.sr<|v_mvI X X<|v_neq X X X<|Y ?_
  refine zh rfl (fun c43 => ?_) (fun c43 => ?_)
  ·
   replace c43 := of_decide_eq_true c43
   refine W.sr<|ze X X (zY (cs := [.int .i64 0, .int .u8 0, strV [], .int .i64 0, .int .i64 0, .int .i64 0, strV [], .int .u8 0, .int .i64 0]) t_kr)<|v_mvI X X<|zq st26 (k := 0) X X X (E X (E X (E X (E X (E X (E X (E X (E X (E X zI))))))))) Tryz.sizeOf34 X X X ?_
   intro w44 st45
   refine v_asI X X<|Y<|zk<|zd<|Post.retcell2 Tryz.results71 X Tryz.isAgg34 Tryz.sizeOf34 X (st45.get (k := 0) X) ?_
   refine ⟨h24, _, rfl, st45.done, ?_⟩
   refine tup2 ?_ (zC ?_)
   ·rw [show askR t x p = zDecision from by simp_all [askR]]; rfl
   ·simp_all [askE]
  ·
   replace c43 := of_decide_eq_false c43
   refine zo<|U<|zg<|W.sr<|v_load_call st26.sub (hc5.up ((le10.trans le16).trans le25)) X Tryz.isAgg24 Tryz.sizeOf24 X X<|v_load_call st26.sub (hc17.up le25) X Tryz.isAgg30 Tryz.sizeOf30 X X<|za st26 X X X Tryz.call20 X (c_leaf_At st26.sub (t := t) (t_f0.up (((le4.trans le10).trans le16).trans le25)) (p := p)) ?_
   intro r46 w47 h48 le49 st50 q51
   obtain rfl := q51
   refine v_mvT X X<|v_extract (v := (strV _)) X X X<|v_extract (v := (.int _ _)) X X X<|v_asS X X<|v_asI X X<|Y<|W.sr<|v_mvI X X<|v_neq X X X<|Y ?_
   refine zh rfl (fun c52 => ?_) (fun c52 => ?_)
   ·
    replace c52 := of_decide_eq_true c52
    refine W.sr<|ze X X (zY (cs := [.int .i64 0, .int .u8 0, strV [], .int .i64 0, .int .i64 0, .int .i64 0, strV [], .int .u8 0, .int .i64 0]) t_kr)<|v_mvI X X<|zq st50 (k := 0) X X X (E X (E X (E X (E X (E X (E X (E X (E X (E X zI))))))))) Tryz.sizeOf34 X X X ?_
    intro w53 st54
    refine v_asI X X<|Y<|zk<|zd<|Post.retcell2 Tryz.results71 X Tryz.isAgg34 Tryz.sizeOf34 X (st54.get (k := 0) X) ?_
    have hx0 : checkN t x = 0 := by simpa using c43
    have hp0 : ¬ placeB t p = true := by
     intro e
     have q1 := c52
     simp [check_text hx0, e] at q1
    refine ⟨h48, _, rfl, st54.done, ?_⟩
    refine tup2 ?_ (zC ?_)
    ·rw [show askR t x p = zDecision from by simp [askR, hp0]]; rfl
    ·simp [askE, hx0, hp0, check_text hx0]
   ·
    replace c52 := of_decide_eq_false c52
    refine zo<|U<|zg ?_
    have hx0 : checkN t x = 0 := by simpa using c43
    have hp0 : placeB t p = true := by
     have q := c52
     rw [check_text hx0] at q
     cases e : placeB t p with
     | true => rfl
     | false => rw [e] at q; simp at q
    refine zm<|v_mvP X X<|v_load_call st50.sub (hc17.up (le25.trans le49)) X Tryz.isAgg30 Tryz.sizeOf30 X X ?_
    refine za st50 rfl rfl rfl Tryz.call104 rfl (c_stem_office_wins st50.sub (o := (Office.mk (x) (t) (standM (x)))) (f36.up le49) (f38.up le49) (f40.up le49) (lm42.up le49) (hc33.up le49) (p := p) (K0.up ((((le4.trans le10).trans le16).trans le25).trans le49)) (by exact ⟨by simpa using c43, rfl⟩) (by exact hp0)) ?_
    intro r55 w56 h57 le58 st59 q60
    obtain rfl := q60
    refine zq st59 (k := 0) X X X (E X (E X (E X (E X (E X (E X (E X (E X (E X zI))))))))) Tryz.sizeOf34 X X X ?_
    intro w61 st62
    refine v_asI X X<|Y<|zk<|Post.retcell2 Tryz.results71 X Tryz.isAgg34 Tryz.sizeOf34 X (st62.get (k := 0) X) ?_
    refine ⟨h57, _, rfl, st62.done, ?_⟩
    refine tup2 ?_ (zC ?_)
    ·rw [show askR t x p = winD x p (wordD t p) from by simp [askR, hx0, hp0]]; rfl
    ·simp [askE, hx0, hp0]
 ·
  simp only [hb28, if_true, if_false, Bool.false_eq_true, reduceIte] at q27
  obtain ⟨v63, rfl, f64⟩ := q27
  obtain rfl := f64
  refine v_mvT X X<|v_extract (v := (.pointer none)) X X X<|v_extract (v := (.int _ _)) X X X<|v_assign X X<|v_asI X X<|Y<|zg<|W.sr<|v_mvI X X<|v_neq X X X<|Y ?_
  refine zh rfl (fun c65 => ?_) (fun c65 => ?_)
  ·
   replace c65 := of_decide_eq_true c65
   refine W.sr<|ze X X (zY (cs := [.int .i64 0, .int .u8 0, strV [], .int .i64 0, .int .i64 0, .int .i64 0, strV [], .int .u8 0, .int .i64 0]) t_kr)<|v_mvI X X<|zq st26 (k := 0) X X X (E X (E X (E X (E X (E X (E X (E X (E X (E X zI))))))))) Tryz.sizeOf34 X X X ?_
   intro w66 st67
   refine v_asI X X<|Y<|zk<|zd<|Post.retcell2 Tryz.results71 X Tryz.isAgg34 Tryz.sizeOf34 X (st67.get (k := 0) X) ?_
   refine ⟨h24, _, rfl, st67.done, ?_⟩
   refine tup2 ?_ (zC ?_)
   ·rw [show askR t x p = zDecision from by simp_all [askR]]; rfl
   ·simp_all [askE]
  ·
   replace c65 := of_decide_eq_false c65
   exfalso
   simp_all
set_option maxRecDepth 4000 in
theorem c_stem_HeadOf {h : Heap} {w : World} (hs : Sub h w) {t : Text} {t_v0 : Value} (t_f0 : Sl LChapter h t_v0 t.chapters) {x : Lexicon} {x_v0 : Value} (x_f0 : Sl LRule h x_v0 x.rules) {x_v1 : Value} (x_f1 : Sl LDecision h x_v1 x.decisions) {p : Place} (K0 : Cells h 0 0 Tryz.glob0) : Calls Tryz.prog 33 #[.agg #[t_v0], .agg #[x_v0, x_v1], .agg #[.int .i64 p.chapter, .int .i64 p.line, .int .i64 p.word]] w (Rets h w (fun _ _ res_ => res_ = .tuple #[.agg #[strV ((askR t x p).to).stem, .int .u8 ((askR t x p).to).mark], .int .i64 (askE t x p)])) := by
 refine zx (n := 20) (args := [.agg #[t_v0], .agg #[x_v0, x_v1], .agg #[.int .i64 p.chapter, .int .i64 p.line, .int .i64 p.word]]) Tryz.func33 X X X ?_
 have st0 : St h w h w [] := St.start hs
 have t_f0_b := t_f0.le
 have x_f0_b := x_f0.le
 have x_f1_b := x_f1.le
 refine W.sr<|zl st0 (cs := [t_v0]) X X X ?_
 intro b1 w2 h3 le4 hc5 st6
 refine zl st6 (cs := [x_v0, x_v1]) X X X ?_
 intro b7 w8 h9 le10 hc11 st12
 refine zl st12 (cs := [.int .i64 (p.chapter), .int .i64 (p.line), .int .i64 (p.word)]) X X X ?_
 intro b13 w14 h15 le16 hc17 st18
 refine zy st18 Tryz.zeroValue32 X X ?_
 intro b19 w20 st21
 refine v_asI X X<|Y<|W.sr<|v_load_call st21.sub (hc5.up (le10.trans le16)) X Tryz.isAgg24 Tryz.sizeOf24 X X<|v_load_call st21.sub (hc11.up le16) X Tryz.isAgg28 Tryz.sizeOf28 X X<|v_load_call st21.sub hc17 X Tryz.isAgg30 Tryz.sizeOf30 X X<|za st21 X X X Tryz.call71 X (c_stem_asked st21.sub (t := t) (t_f0.up ((le4.trans le10).trans le16)) (x := x) (x_f0.up ((le4.trans le10).trans le16)) (x_f1.up ((le4.trans le10).trans le16)) (p := p) (K0.up ((le4.trans le10).trans le16))) ?_
 intro r22 w23 h24 le25 st26 q27
 obtain rfl := q27
 refine v_mvT X X<|v_extract (v := (.agg (List.toArray _))) X X X<|v_extract (v := (.int _ _)) X X X<|zy st26 Tryz.zeroValue34 X X ?_
 intro b28 w29 st30
 refine zq st30 (k := 1) X X X (E X (E X (E X (E X (E X (E X (E X (E X (E X zI))))))))) Tryz.sizeOf34 X X X ?_
 intro w31 st32
 obtain ⟨h33, le34, hb35, st37⟩ := st32.freeze (k := 1) rfl
 have hc36 := Cells.of hb35
 refine v_asI X X<|Y<|W.sr<|v_field_addr X Tryz.underlying34 X Tryz.sizeOf32 X X<|v_load_cellsN (j := 6) st37.sub hc36 (us := [strV ((askR (t) (x) (p)).to.stem), .int .u8 ((askR (t) (x) (p)).to.mark)]) X X Tryz.isAgg32 Tryz.sizeOf32 X X X<|v_mvI X X<|zq st37 (k := 0) X X X (E X (E X zI)) Tryz.sizeOf32 X X X ?_
 intro w38 st39
 obtain ⟨h40, le41, hb42, st44⟩ := st39.freeze (k := 0) rfl
 have hc43 := Cells.of hb42
 refine v_asI X X<|Y<|zk<|Post.retcell2F Tryz.results33 X Tryz.isAgg32 Tryz.sizeOf32 X st44.sub hc43 ?_
 refine ⟨h40, _, rfl, st44.done, ?_⟩
 refine tup2 ?_ (zC ?_)
 all_goals rfl
set_option maxRecDepth 4000 in
theorem c_stem_By {h : Heap} {w : World} (hs : Sub h w) {t : Text} {t_v0 : Value} (t_f0 : Sl LChapter h t_v0 t.chapters) {x : Lexicon} {x_v0 : Value} (x_f0 : Sl LRule h x_v0 x.rules) {x_v1 : Value} (x_f1 : Sl LDecision h x_v1 x.decisions) {p : Place} (K0 : Cells h 0 0 Tryz.glob0) : Calls Tryz.prog 22 #[.agg #[t_v0], .agg #[x_v0, x_v1], .agg #[.int .i64 p.chapter, .int .i64 p.line, .int .i64 p.word]] w (Rets h w (fun _ _ res_ => res_ = .tuple #[.int .i64 ((askR t x p).number), .int .i64 (askE t x p)])) := by
 refine zx (n := 20) (args := [.agg #[t_v0], .agg #[x_v0, x_v1], .agg #[.int .i64 p.chapter, .int .i64 p.line, .int .i64 p.word]]) Tryz.func22 X X X ?_
 have st0 : St h w h w [] := St.start hs
 have t_f0_b := t_f0.le
 have x_f0_b := x_f0.le
 have x_f1_b := x_f1.le
 refine W.sr<|zl st0 (cs := [t_v0]) X X X ?_
 intro b1 w2 h3 le4 hc5 st6
 refine zl st6 (cs := [x_v0, x_v1]) X X X ?_
 intro b7 w8 h9 le10 hc11 st12
 refine zl st12 (cs := [.int .i64 (p.chapter), .int .i64 (p.line), .int .i64 (p.word)]) X X X ?_
 intro b13 w14 h15 le16 hc17 st18
 refine v_asI X X<|v_asI X X<|Y<|W.sr<|v_load_call st18.sub (hc5.up (le10.trans le16)) X Tryz.isAgg24 Tryz.sizeOf24 X X<|v_load_call st18.sub (hc11.up le16) X Tryz.isAgg28 Tryz.sizeOf28 X X<|v_load_call st18.sub hc17 X Tryz.isAgg30 Tryz.sizeOf30 X X<|za st18 X X X Tryz.call71 X (c_stem_asked st18.sub (t := t) (t_f0.up ((le4.trans le10).trans le16)) (x := x) (x_f0.up ((le4.trans le10).trans le16)) (x_f1.up ((le4.trans le10).trans le16)) (p := p) (K0.up ((le4.trans le10).trans le16))) ?_
 intro r19 w20 h21 le22 st23 q24
 obtain rfl := q24
 refine v_mvT X X<|v_extract (v := (.agg (List.toArray _))) X X X<|v_extract (v := (.int _ _)) X X X<|zy st23 Tryz.zeroValue34 X X ?_
 intro b25 w26 st27
 refine zq st27 (k := 0) X X X (E X (E X (E X (E X (E X (E X (E X (E X (E X zI))))))))) Tryz.sizeOf34 X X X ?_
 intro w28 st29
 obtain ⟨h30, le31, hb32, st34⟩ := st29.freeze (k := 0) rfl
 have hc33 := Cells.of hb32
 refine v_asI X X<|Y<|W.sr<|v_field_addr X Tryz.underlying34 X Tryz.sizeOf3 X X<|v_load_cells1 (j := 0) st34.sub hc33 X X X Tryz.isAgg3 X<|v_mvI X X<|v_asI X X<|v_asI X X<|Y<|zk<|zH Tryz.results22 ?_
 refine ⟨h30, _, rfl, st34.done, ?_⟩
 refine tup2 (zC ?_) (zC ?_)
 all_goals rfl
end Go.Pk
