/- A PART OF THE PROOF: contracts of functions, each walked once (much of it printed by a program of the author's own). -/
import Derived.Test.YtfgkfdglomngiaaGreatDoorT9
import Derived.Test.YtfgkfdglomngiaaGreatDoorT8
import Derived.Test.YtfgkfdglomngiaaGreatDoorT3
import Derived.Test.YtfgkfdglomngiaaGreatDoorT6
import Derived.Test.YtfgkfdglomngiaaGreatDoorT4
import Derived.Test.YtfgkfdglomngiaaGreatDoorT5
import Derived.Test.YtfgkfdglomngiaaGreatDoorT7
set_option linter.unusedSimpArgs false
set_option linter.unusedVariables false
namespace Go.Pk
open Go Go.RowKit Go.Proofs
set_option maxRecDepth 4000 in
theorem c_stem_Homographs {h : Heap} {w : World} (hs : Sub h w) {t : Text} {t_v0 : Value} (t_f0 : Sl LChapter h t_v0 t.chapters) {x : Lexicon} {x_v0 : Value} (x_f0 : Sl LRule h x_v0 x.rules) {x_v1 : Value} (x_f1 : Sl LDecision h x_v1 x.decisions) (K0 : Cells h 0 0 Tryz.glob0) : Calls Tryz.prog 28 #[.agg #[t_v0], .agg #[x_v0, x_v1]] w (Rets h w (fun h' _ res_ => ∃ u0, res_ = .tuple #[u0, .int .i64 (checkN t x)] ∧ Sl LStr h' u0 ((homR t x)))) := by
 refine zx (n := 60) (args := [.agg #[t_v0], .agg #[x_v0, x_v1]]) Tryz.func28 X X X ?_
 have st0 : St h w h w [] := St.start hs
 have t_f0_b := t_f0.le
 have x_f0_b := x_f0.le
 have x_f1_b := x_f1.le
 refine W.sr<|zl st0 (cs := [t_v0]) X X X ?_
 intro b1 w2 h3 le4 hc5 st6
 refine zl st6 (cs := [x_v0, x_v1]) X X X ?_
 intro b7 w8 h9 le10 hc11 st12
 refine v_asL X X<|v_asI X X<|Y<|W.sr<|v_load_call st12.sub (hc5.up le10) X Tryz.isAgg24 Tryz.sizeOf24 X X<|v_load_call st12.sub hc11 X Tryz.isAgg28 Tryz.sizeOf28 X X<|za st12 X X X Tryz.call67 X (c_stem_open st12.sub (t := t) (t_f0.up (le4.trans le10)) (x := x) (x_f0.up (le4.trans le10)) (x_f1.up (le4.trans le10)) (K0.up (le4.trans le10))) ?_
 intro r13 w14 h15 le16 st17 q18
 rcases Bool.eq_false_or_eq_true (decide (checkN (t) (x) = 0)) with hb19 | hb19
 ·
  simp only [hb19, if_true, if_false, Bool.false_eq_true, reduceIte] at q18
  obtain ⟨v20, rfl, f21⟩ := q18
  obtain ⟨b22, vs23, rfl, hc24, hr25⟩ := f21
  obtain ⟨v26, v28, v30, v32, rfl, f27, f29, f31, lm33⟩ := hr25
  have f27_b := f27.le
  have f29_b := f29.le
  have f31_b := f31.le
  refine v_mvT X X<|v_extract (v := (.pointer (some _))) X X X<|v_extract (v := (.int _ _)) X X X<|v_asP X X<|v_asI X X<|Y<|zg<|W.sr<|v_mvI X X<|v_neq X X X<|Y ?_
  refine zh rfl (fun c34 => ?_) (fun c34 => ?_)
  ·
   replace c34 := of_decide_eq_true c34
   refine W.sr<|v_mvI X X<|v_asL X X<|v_asI X X<|Y<|zk<|zd<|zH Tryz.results28 ?_
   refine ⟨h15, _, rfl, st17.done, ?_⟩
   refine ⟨_, tup2 rfl (zC ?_), Sl.to (Sl.nil _ _) ?_⟩
   all_goals simp_all [homR]
  ·
   replace c34 := of_decide_eq_false c34
   refine zo<|U<|zg ?_
   have hx0 : checkN t x = 0 := by simpa using c34
   have hel := entries_len (check_text hx0) x
   refine zm<|OpsL.makeMap (κ := Str) (υ := Head) (ek := strV) (eu := (fun x : Head => .agg [strV x.stem, .int .u8 x.mark].toArray)) st17 X ?_
   intro v35 o36 w37 f38 st39
   obtain ⟨mb40, rfl⟩ := f38.form
   have nd41 : (([] : List (Str × Head)).map (·.1)).Nodup := by simp
   refine v_assign (v := (.map (some mb40))) X X<|Y<|W.sr<|v_asL X X<|Y<|zg<|W.sr<|v_mvP X X ?_
   refine za st39 rfl rfl rfl Tryz.call62 rfl (c_stem_office_entries st39.sub (o := (Office.mk (x) (t) (standM (x)))) f27 f29 f31 lm33 hc24 (K0.up ((le4.trans le10).trans le16)) (by exact ⟨hx0, rfl⟩)) ?_
   intro r42 w43 h44 le45 st46 q47
   obtain ⟨v48, e50, f49⟩ := q47
   rw [← e50] at f49
   have f49_b := f49.le
   have f51 := Sl.to f49 (show _ = (entriesL t x) from rfl)
   have f51_b := f51.le
   refine v_len f51 X Tryz.underlying115 X<|v_mvI X X<|Y<|zr ?_
   have st55 := st46.snoc
   have f56 := OSl.nil LStr 9 h44
   refine zN [9, 11, 12, 13, 27, 28, 29, 30, 31, 32, 33, 34, 35, 36, 37, 38, 39, 40, 41, 42, 43, 44, 45, 46, 47, 48, 49, 50, 51, 52, 53, 54, 55] (G := Nat × List (Str × Head) × Value × List (Nat × Obj) × List (Nat × Obj) × Heap) (fun ⟨i, m, v_9, o_9, o_8, h52⟩ => [(9, v_9), (27, .int .i64 (i : Int))]) (fun ⟨i, m, v_9, o_9, o_8, h52⟩ w' => Le h44 h52 ∧ St h w h52 w' [o_8, o_9] ∧ (OSl LStr 9 h52 v_9 (homsN (entriesL t x) i) o_9) ∧ (OM strV (fun x : Head => .agg [strV x.stem, .int .u8 x.mark].toArray) (m) o_8 (.map (some mb40))) ∧ (((m).map (·.1)).Nodup) ∧ (i ≤ (entriesL t x).length) ∧ (∀ wd, look m wd = hdFirst ((entriesL t x).take i) wd)) (fun ⟨i, m, v_9, o_9, o_8, h52⟩ => (entriesL t x).length - i) ⟨0, [], (.slice none 0 0), [], o36, h44⟩ ⟨rfl, rfl, trivial⟩ ⟨Le.refl _, st55, (OSl.to f56 (by rfl)), (by have q := f38; exact q), (by have q := nd41; exact q), zV, (by intro wd; rfl)⟩ ?_
   rintro ⟨i, m, v_9, o_9, o_8, h52⟩ _ w57 ⟨le53, st54, hO_9, hM_8, hN_8, hi, hm⟩
   refine W.sr<|v_lss X X X<|Y<|zg ?_
   refine zh rfl (fun c58 => ?_) (fun c58 => ?_)
   ·
    replace c58 := of_decide_eq_true c58
    refine zo<|U<|zg<|zr<|W.sr ?_
    have hy : ∃ y_, ((entriesL t x))[i]? = some y_ := ⟨_, List.getElem?_eq_getElem (by omega)⟩
    obtain ⟨y, hy⟩ := hy
    obtain ⟨b59, o60, _, he62, hc61, hr_y⟩ := Sl.elem (f51.up le53) hy
    obtain ⟨rfl, ls63, ls64, lu65⟩ := hr_y
    simp only [big] at ls63
    simp only [big] at ls64
    refine v_index_el he62 X X (hk := X) (hu := Tryz.underlying115) (hz := Tryz.sizeOf120) X<|v_load_call st54.sub hc61 X Tryz.isAgg120 Tryz.sizeOf120 X X<|zy st54 Tryz.zeroValue120 X X ?_
    intro b66 w67 st68
    refine zq st68 (k := 2) X X X (E X (E X (E X (E X (E X (E X zI)))))) Tryz.sizeOf120 X X X ?_
    intro w69 st70
    obtain ⟨h71, le72, hb73, st75⟩ := st70.freeze (k := 2) rfl
    have hc74 := Cells.of hb73
    refine Y<|W.sr<|v_move (v := (.map (some mb40))) X X<|v_field_addr X Tryz.underlying120 X Tryz.sizeOf9 X X<|v_load_cells1 (j := 3) st75.sub hc74 X X X Tryz.isAgg9 X<|ze X X (r_look_ok (k := (y.word)) (zu := zHead) (key_str Tryz.underlying9) Tryz.underlying143 hM_8 (st75.ent (k := 0) X) Tryz.zeroValue32 X X X)<|v_mvT X X<|v_extract (v := (.agg (List.toArray _))) X X X<|v_extract (v := (.bool _)) X X X<|zy st75 Tryz.zeroValue32 X X ?_
    intro b76 w77 st78
    refine zq st78 (k := 3) X X X (E X (E X zI)) Tryz.sizeOf32 X X X ?_
    intro w79 st80
    obtain ⟨h81, le82, hb83, st85⟩ := st80.freeze (k := 3) rfl
    have hc84 := Cells.of hb83
    refine v_asB X X<|Y<|W.sr<|v_mvB X X<|v_mvB X X ?_
    refine zp (d := 39) rfl (fun g86 => ?_) (fun g86 => ?_)
    ·
     refine Z X X (d := 39) X<|v_load_call st85.sub hc84 X Tryz.isAgg32 Tryz.sizeOf32 X X<|Z X X (d := 39) X<|v_field_addr X Tryz.underlying120 X Tryz.sizeOf32 X X<|Z X X (d := 39) X<|v_load_cellsN (j := 4) st85.sub (hc74.up le82) (us := [strV (y.head.stem), .int .u8 (y.head.mark)]) X X Tryz.isAgg32 Tryz.sizeOf32 X X X<|Z X X (d := 39) X<|ze X X (r_stneq X X Tryz.eqGuardType32 (Tryz.eq_Head ((look m (y.word)).getD zHead) y.head))<|v_pickT (v := (.bool _)) X X X<|Y ?_
     refine zh rfl (fun c87 => ?_) (fun c87 => ?_)
     ·
      replace c87 := of_decide_eq_true c87
      refine zm<|v_move (v := v_9) X X<|v_field_addr X Tryz.underlying120 X Tryz.sizeOf9 X X<|v_load_cells1 (j := 3) st85.sub (hc74.up le82) X X X Tryz.isAgg9 X<|zG (L := LStr) (xs := [(y.word)]) (cs := [strV (y.word)]) st85 (Enc.cons (L := LStr) (vs := [strV (y.word)]) (x := (y.word)) (h := h81) (⟨rfl, zO⟩) Enc.nil) X X X Tryz.underlying62 Tryz.info9 X X X t_kr ?_
      intro v88 w89 h92 le93 f90 st91
      refine OpsL.append (k := 1) (nb := 16) st91 (hO_9.up ((le72.trans le82).trans le93)) rfl f90 rfl rfl rfl Tryz.underlying62 Tryz.info9 rfl rfl rfl (by decide) rfl (by have q := homsN_len (entriesL t x) i; simp only [List.length_append, List.length_cons, List.length_nil]; omega) (by have q := homsN_len (entriesL t x) i; simp only [List.length_append, List.length_cons, List.length_nil]; omega) ?_
      intro v94 o95 w96 _ e97 f98 st99
      subst e97
      refine v_assign (v := v94) X X<|zj<|zz<|U<|zm<|v_add X X t_om X<|v_mvI X X<|Y ?_
      refine ⟨⟨i + 1, m, v94, o95, o_8, h92⟩, ⟨rfl, rfl, trivial⟩, ?_, ⟨(((le53.trans le72).trans le82).trans le93), st99.take 2, ?_, ?_, ?_, ?_, ?_⟩, ?_⟩
      ·exact zR
      ·refine OSl.to f98 ?_
       rw [homsN_succ hy, homAt_yes hm g86 (by simpa using c87)]
      ·have q := hM_8
       exact q
      ·have q := hN_8
       exact q
      ·first | omega | (simp; omega)
      ·exact hom_keep hy hm g86
      ·show (entriesL t x).length - ((i + 1)) < (entriesL t x).length - i
       omega
     ·
      replace c87 := of_decide_eq_false c87
      refine zm<|v_move (v := (.map (some mb40))) X X<|v_field_addr X Tryz.underlying120 X Tryz.sizeOf9 X X<|v_load_cells1 (j := 3) st85.sub (hc74.up le82) X X X Tryz.isAgg9 X<|v_field_addr X Tryz.underlying120 X Tryz.sizeOf32 X X<|v_load_cellsN (j := 4) st85.sub (hc74.up le82) (us := [strV (y.head.stem), .int .u8 (y.head.mark)]) X X Tryz.isAgg32 Tryz.sizeOf32 X X X<|OpsL.mapUpdate (i := 0) st85 hM_8 X hN_8 (key_str Tryz.underlying9) Tryz.underlying143 X (k := (y.word)) X (u := y.head) X ?_
      intro o100 w101 _ e102 f103 nd104 st105
      subst e102
      refine zj<|zz<|U<|zm<|v_add X X t_om X<|v_mvI X X<|Y ?_
      refine ⟨⟨i + 1, (putM m y.word y.head), v_9, o_9, o100, h81⟩, ⟨rfl, rfl, trivial⟩, ?_, ⟨((le53.trans le72).trans le82), st105.take 2, ?_, ?_, ?_, ?_, ?_⟩, ?_⟩
      ·exact zR
      ·refine OSl.to (hO_9.up (le72.trans le82)) ?_
       rw [homsN_succ hy, homAt_no hm (fun _ => by simpa using c87), List.append_nil]
      ·have q := f103
       exact q
      ·have q := nd104
       exact q
      ·first | omega | (simp; omega)
      ·exact hom_put hy hm (fun _ => by simpa using c87)
      ·show (entriesL t x).length - ((i + 1)) < (entriesL t x).length - i
       omega
    ·
     refine M X X X X X<|M X X X X X<|M X X X X X<|M X X X X X<|v_pickF (v := (.bool _)) X X X<|Y ?_
     refine zh rfl (fun c106 => ?_) (fun c106 => ?_)
     ·
      cases c106
     ·
      refine zm<|v_move (v := (.map (some mb40))) X X<|v_field_addr X Tryz.underlying120 X Tryz.sizeOf9 X X<|v_load_cells1 (j := 3) st85.sub (hc74.up le82) X X X Tryz.isAgg9 X<|v_field_addr X Tryz.underlying120 X Tryz.sizeOf32 X X<|v_load_cellsN (j := 4) st85.sub (hc74.up le82) (us := [strV (y.head.stem), .int .u8 (y.head.mark)]) X X Tryz.isAgg32 Tryz.sizeOf32 X X X<|OpsL.mapUpdate (i := 0) st85 hM_8 X hN_8 (key_str Tryz.underlying9) Tryz.underlying143 X (k := (y.word)) X (u := y.head) X ?_
      intro o107 w108 _ e109 f110 nd111 st112
      subst e109
      refine zj<|zz<|U<|zm<|v_add X X t_om X<|v_mvI X X<|Y ?_
      refine ⟨⟨i + 1, (putM m y.word y.head), v_9, o_9, o107, h81⟩, ⟨rfl, rfl, trivial⟩, ?_, ⟨((le53.trans le72).trans le82), st112.take 2, ?_, ?_, ?_, ?_, ?_⟩, ?_⟩
      ·exact zR
      ·refine OSl.to (hO_9.up (le72.trans le82)) ?_
       rw [homsN_succ hy, homAt_no hm (fun q => by rw [g86] at q; cases q), List.append_nil]
      ·have q := f110
       exact q
      ·have q := nd111
       exact q
      ·first | omega | (simp; omega)
      ·exact hom_put hy hm (fun q => by rw [g86] at q; cases q)
      ·show (entriesL t x).length - ((i + 1)) < (entriesL t x).length - i
       omega
   ·
    replace c58 := of_decide_eq_false c58
    refine zP<|zi<|zi<|zJ<|U<|W.sr<|v_move (v := v_9) X X ?_
    have con := sort1 (L := LStr) (T := 9) (f := 74) strV (by rintro _ _ _ ⟨rfl, _⟩; rfl) rfl (fun l => l.mergeSort fun a b => decide (a ≤ b)) (fun l => List.mergeSort_perm _ _) (fun blk off cap zs w hH hb hs => Tryz.slices_Sort_string blk off cap zs w hH hb hs) (fun p cap w => Tryz.slices_Sort_string_none p cap w) (i := 1) st54 hO_9 rfl (by have q := homsN_len (entriesL t x) i; first | omega | (simp only [List.length_mergeSort]; omega))
    refine zD rfl rfl (zS rfl Tryz.call74 rfl) (con.mono ?_)
    rintro _ w113 ⟨rfl, o114, _, e115, f116, st117⟩
    subst e115
    refine ⟨_, rfl, ?_⟩
    clear con
    refine Y<|W.sr<|v_move (v := v_9) X X ?_
    have st125 := st117.sublist (own' := [o114]) (.cons _ (.cons_cons _ (.slnil)))
    have con := c_slices_Compact_Lstring_string (rest := []) f116 (by have q := homsN_len (entriesL t x) i; first | omega | (simp only [List.length_mergeSort]; omega)) st125
    refine zD rfl rfl (zS rfl Tryz.call75 rfl) (con.mono ?_)
    rintro _ w118 ⟨h119, o120, v121, rfl, le122, st123, f124⟩
    refine ⟨_, rfl, ?_⟩
    clear con
    have f126 := OSl.to f124 (show _ = (setL sLt (homsN (entriesL t x) (entriesL t x).length)) from by rw [show i = (entriesL t x).length by omega]; exact setOf_sort _)
    refine v_assign (v := v121) X X<|v_asI X X<|Y<|zk<|zH Tryz.results28 ?_
    obtain ⟨h127, le128, f129, st130⟩ := OSl.freeze (k := 0) st123 f126 rfl (by have q := setL_len sLt_T (homsN (entriesL t x) (entriesL t x).length); have q2 := homsN_len (entriesL t x) (entriesL t x).length; omega)
    refine ⟨h127, _, rfl, st130.done, ?_⟩
    refine ⟨_, tup2 rfl (zC ?_), Sl.to f129 ?_⟩
    ·exact hx0.symm
    ·simp [homR, hx0]
 ·
  simp only [hb19, if_true, if_false, Bool.false_eq_true, reduceIte] at q18
  obtain ⟨v131, rfl, f132⟩ := q18
  obtain rfl := f132
  refine v_mvT X X<|v_extract (v := (.pointer none)) X X X<|v_extract (v := (.int _ _)) X X X<|v_assign X X<|v_asI X X<|Y<|zg<|W.sr<|v_mvI X X<|v_neq X X X<|Y ?_
  refine zh rfl (fun c133 => ?_) (fun c133 => ?_)
  ·
   replace c133 := of_decide_eq_true c133
   refine W.sr<|v_mvI X X<|v_asL X X<|v_asI X X<|Y<|zk<|zd<|zH Tryz.results28 ?_
   refine ⟨h15, _, rfl, st17.done, ?_⟩
   refine ⟨_, tup2 rfl (zC ?_), Sl.to (Sl.nil _ _) ?_⟩
   all_goals simp_all [homR]
  ·
   replace c133 := of_decide_eq_false c133
   exfalso
   simp_all
set_option maxRecDepth 4000 in
theorem c_stem_Idle {h : Heap} {w : World} (hs : Sub h w) {t : Text} {t_v0 : Value} (t_f0 : Sl LChapter h t_v0 t.chapters) {x : Lexicon} {x_v0 : Value} (x_f0 : Sl LRule h x_v0 x.rules) {x_v1 : Value} (x_f1 : Sl LDecision h x_v1 x.decisions) (K0 : Cells h 0 0 Tryz.glob0) : Calls Tryz.prog 25 #[.agg #[t_v0], .agg #[x_v0, x_v1]] w (Rets h w (fun h' _ res_ => ∃ u0, res_ = .tuple #[u0, .int .i64 (checkN t x)] ∧ Sl LInt h' u0 ((idleN t x)))) := by
 refine zx (n := 56) (args := [.agg #[t_v0], .agg #[x_v0, x_v1]]) Tryz.func25 X X X ?_
 have st0 : St h w h w [] := St.start hs
 have t_f0_b := t_f0.le
 have x_f0_b := x_f0.le
 have x_f1_b := x_f1.le
 refine W.sr<|zl st0 (cs := [t_v0]) X X X ?_
 intro b1 w2 h3 le4 hc5 st6
 refine zl st6 (cs := [x_v0, x_v1]) X X X ?_
 intro b7 w8 h9 le10 hc11 st12
 refine v_asL X X<|v_asI X X<|Y<|W.sr<|v_load_call st12.sub (hc5.up le10) X Tryz.isAgg24 Tryz.sizeOf24 X X<|v_load_call st12.sub hc11 X Tryz.isAgg28 Tryz.sizeOf28 X X<|za st12 X X X Tryz.call67 X (c_stem_open st12.sub (t := t) (t_f0.up (le4.trans le10)) (x := x) (x_f0.up (le4.trans le10)) (x_f1.up (le4.trans le10)) (K0.up (le4.trans le10))) ?_
 intro r13 w14 h15 le16 st17 q18
 rcases Bool.eq_false_or_eq_true (decide (checkN (t) (x) = 0)) with hb19 | hb19
 ·
  simp only [hb19, if_true, if_false, Bool.false_eq_true, reduceIte] at q18
  obtain ⟨v20, rfl, f21⟩ := q18
  obtain ⟨b22, vs23, rfl, hc24, hr25⟩ := f21
  obtain ⟨v26, v28, v30, v32, rfl, f27, f29, f31, lm33⟩ := hr25
  have f27_b := f27.le
  have f29_b := f29.le
  have f31_b := f31.le
  refine v_mvT X X<|v_extract (v := (.pointer (some _))) X X X<|v_extract (v := (.int _ _)) X X X<|v_asP X X<|v_asI X X<|Y<|zg<|W.sr<|v_mvI X X<|v_neq X X X<|Y ?_
  refine zh rfl (fun c34 => ?_) (fun c34 => ?_)
  ·
   replace c34 := of_decide_eq_true c34
   refine W.sr<|v_mvI X X<|v_asL X X<|v_asI X X<|Y<|zk<|zd<|zH Tryz.results25 ?_
   refine ⟨h15, _, rfl, st17.done, ?_⟩
   refine ⟨_, tup2 rfl (zC ?_), Sl.to (Sl.nil _ _) ?_⟩
   all_goals simp_all [idleN]
  ·
   replace c34 := of_decide_eq_false c34
   refine zo<|U<|zg ?_
   have hx0 : checkN t x = 0 := by simpa using c34
   have hdl := lexicon_20 hx0
   refine zm<|v_mvP X X ?_
   refine za st17 rfl rfl rfl Tryz.call62 rfl (c_stem_office_entries st17.sub (o := (Office.mk (x) (t) (standM (x)))) f27 f29 f31 lm33 hc24 (K0.up ((le4.trans le10).trans le16)) (by first | exact ⟨hx0, rfl⟩ | exact ⟨lessX_check hx0 _, rfl⟩)) ?_
   intro r35 w36 h37 le38 st39 q40
   obtain ⟨v41, e43, f42⟩ := q40
   rw [← e43] at f42
   have f42_b := f42.le
   have f44 := Sl.to f42 (show _ = (entriesL t x) from rfl)
   have f44_b := f44.le
   refine v_assign (v := r35) X X<|Y<|W.sr<|v_asL X X<|Y<|zg<|W.sr<|v_field_addr X Tryz.underlying28 X Tryz.sizeOf26 X X<|v_load_cells1 (j := 1) st39.sub (hc11.up (le16.trans le38)) X X X Tryz.isAgg26 X<|v_len (x_f1.up (((le4.trans le10).trans le16).trans le38)) X Tryz.underlying26 X<|v_mvI X X<|Y<|zr ?_
   have st48 := st39.snoc
   have f49 := OSl.nil LInt 3 h37
   refine zN [9, 10, 11, 12, 27, 28, 29, 30, 31, 32, 33, 34, 35, 36, 37, 38, 39, 40, 41, 42, 43, 44, 45, 46, 47, 48, 49, 50, 51, 52] (G := Nat × Value × List (Nat × Obj) × Heap) (fun ⟨i, v_9, o_9, h45⟩ => [(9, v_9), (27, .int .i64 (i : Int))]) (fun ⟨i, v_9, o_9, h45⟩ w' => Le h37 h45 ∧ St h w h45 w' [o_9] ∧ (OSl LInt 3 h45 v_9 (((x.decisions.take i).filter (idleP t x)).map (·.number)) o_9) ∧ (i ≤ x.decisions.length)) (fun ⟨i, v_9, o_9, h45⟩ => x.decisions.length - i) ⟨0, (.slice none 0 0), [], h37⟩ ⟨rfl, rfl, trivial⟩ ⟨Le.refl _, st48, (OSl.to f49 (by rfl)), zV⟩ ?_
   rintro ⟨i, v_9, o_9, h45⟩ _ w50 ⟨le46, st47, hO_9, hi⟩
   refine W.sr<|v_lss X X X<|Y<|zg ?_
   refine zh rfl (fun c51 => ?_) (fun c51 => ?_)
   ·
    replace c51 := of_decide_eq_true c51
    refine zo<|U<|zg<|zr<|W.sr<|v_mvI X X ?_
    have hd : ∃ y_, (x.decisions)[i]? = some y_ := ⟨_, List.getElem?_eq_getElem (by omega)⟩
    obtain ⟨d, hd⟩ := hd
    obtain ⟨b52, o53, _, he55, hc54, hr_d⟩ := Sl.elem (x_f1.up ((((le4.trans le10).trans le16).trans le38).trans le46)) hd
    obtain ⟨rfl, lu56, ls57, ls58, lu59⟩ := hr_d
    simp only [big] at ls57
    simp only [big] at ls58
    refine v_index_el he55 X X (hk := X) (hu := Tryz.underlying26) (hz := Tryz.sizeOf34) X<|v_load_call st47.sub hc54 X Tryz.isAgg34 Tryz.sizeOf34 X X<|zy st47 Tryz.zeroValue34 X X ?_
    intro b60 w61 st62
    refine v_asI X X<|zq st62 (k := 1) X X X (E X (E X (E X (E X (E X (E X (E X (E X (E X zI))))))))) Tryz.sizeOf34 X X X ?_
    intro w63 st64
    obtain ⟨h65, le66, hb67, st69⟩ := st64.freeze (k := 1) rfl
    have hc68 := Cells.of hb67
    refine Y<|W.sr<|v_load_call st69.sub (hc11.up (((le16.trans le38).trans le46).trans le66)) X Tryz.isAgg28 Tryz.sizeOf28 X X<|zy st69 Tryz.zeroValue28 X X ?_
    intro b70 w71 st72
    refine zq st72 (k := 2) X X X (E x_f0.one (E x_f1.one zI)) Tryz.sizeOf28 X X X ?_
    intro w73 st74
    refine Y<|W.sr<|v_field_addr X Tryz.underlying28 X Tryz.sizeOf26 X X<|v_load_cells1 (j := 1) st74.sub (hc11.up (((le16.trans le38).trans le46).trans le66)) X X X Tryz.isAgg26 X ?_
    refine zD rfl rfl (zS rfl Tryz.call64 rfl) ((zad st74.sub (x_f1.up (((((le4.trans le10).trans le16).trans le38).trans le46).trans le66)) (by first | (show (lessX x d.number).decisions.length ≤ 25; have q := lexicon_20 (lessX_check hx0 d.number); omega) | omega)).mono ?_)
    rintro _ w76 ⟨h77, v75, o80, rfl, le78, s82, f81⟩
    refine ⟨_, rfl, ?_⟩
    have st79 := st74.call s82
    refine v_mvI X X<|v_mvI X X<|v_add X X t_om X ?_
    have con := c_slices_Delete_Lapi_Decision_api_Decision (rest := [o_9, [], [(b70, .cells (List.toArray [x_v0, x_v1]) 28)]]) f81 (i : Int) ((i : Int) + 1) (m := i) (n := i + 1) (by omega) (by omega) (by omega) (by omega) (st79.perm (List.perm_append_comm (l₁ := [o_9, [], [(b70, .cells (List.toArray [x_v0, x_v1]) 28)]]) (l₂ := [o80])))
    refine zD rfl rfl (zS rfl Tryz.call72 rfl) (con.mono ?_)
    rintro _ w83 ⟨h84, o85, v86, rfl, le87, st90, f89⟩
    refine ⟨_, rfl, ?_⟩
    clear con
    have st88 := st90.perm (List.perm_append_comm (l₁ := [o85]) (l₂ := [o_9, [], [(b70, .cells (List.toArray [x_v0, x_v1]) 28)]]))
    have f91 := OSl.to f89 (show _ = (lessX x d.number).decisions from without_at (okD_of hx0).1 hd)
    refine v_field_addr X Tryz.underlying28 X Tryz.sizeOf26 X X<|OpsL.store1 st88 (k := 2) X X (v := v86) X f91.one Tryz.sizeOf26 X X X ?_
    intro w92 st93
    refine Y<|W.sr<|v_load_call st93.sub (hc5.up ((((((le10.trans le16).trans le38).trans le46).trans le66).trans le78).trans le87)) X Tryz.isAgg24 Tryz.sizeOf24 X X<|v_load_ball (st93.get (k := 2) X) X Tryz.isAgg28 Tryz.sizeOf28 X X ?_
    obtain ⟨h94, le95, f96, st97⟩ := OSl.freeze (k := 3) st93 f91 rfl (by first | (have q := idleK_len t x 999; exact Nat.le_trans q (by decide)) | (show (lessX x d.number).decisions.length ≤ _; have q := lexicon_20 (lessX_check hx0 d.number); omega))
    refine za st97 rfl rfl rfl Tryz.call61 rfl (c_stem_opened st97.sub (t := t) (t_f0.up ((((((((le4.trans le10).trans le16).trans le38).trans le46).trans le66).trans le78).trans le87).trans le95)) (x := (Lexicon.mk x.rules ((lessX x d.number).decisions))) (x_f0.up ((((((((le4.trans le10).trans le16).trans le38).trans le46).trans le66).trans le78).trans le87).trans le95)) f96 (by exact okD_of (lessX_check hx0 d.number)) (by first | (show (lessX x d.number).decisions.length ≤ 25; have q := lexicon_20 (lessX_check hx0 d.number); omega) | omega)) ?_
    intro r98 w99 h100 le101 st102 q103
    obtain ⟨v104, rfl, f105⟩ := q103
    obtain ⟨b106, vs107, rfl, hc108, hr109⟩ := f105
    obtain ⟨v110, v112, v114, v116, rfl, f111, f113, f115, lm117⟩ := hr109
    have f111_b := f111.le
    have f113_b := f113.le
    have f115_b := f115.le
    refine za st102 rfl rfl rfl Tryz.call62 rfl (c_stem_office_entries st102.sub (o := (Office.mk ((Lexicon.mk x.rules ((lessX x d.number).decisions))) (t) (standM ((Lexicon.mk x.rules ((lessX x d.number).decisions)))))) f111 f113 f115 lm117 hc108 (K0.up (((((((((le4.trans le10).trans le16).trans le38).trans le46).trans le66).trans le78).trans le87).trans le95).trans le101)) (by first | exact ⟨hx0, rfl⟩ | exact ⟨lessX_check hx0 _, rfl⟩)) ?_
    intro r118 w119 h120 le121 st122 q123
    obtain ⟨v124, e126, f125⟩ := q123
    rw [← e126] at f125
    have f125_b := f125.le
    have f127 := Sl.to f125 (show _ = (entriesL t (lessX x d.number)) from rfl)
    have f127_b := f127.le
    refine v_move (v := r35) X X<|za st122 X X X Tryz.call73 X (c_slices_Equal_Lstem_entry_stem_entry st122.sub f127 (f44.up ((((((le46.trans le66).trans le78).trans le87).trans le95).trans le101).trans le121))) ?_
    intro r128 w129 h130 le131 st132 q133
    obtain rfl := q133
    refine Y ?_
    refine zh rfl (fun c134 => ?_) (fun c134 => ?_)
    ·
     refine zm<|v_move (v := v_9) X X<|v_field_addr X Tryz.underlying34 X Tryz.sizeOf3 X X<|v_load_cells1 (j := 0) st132.sub (hc68.up (((((le78.trans le87).trans le95).trans le101).trans le121).trans le131)) X X X Tryz.isAgg3 X<|zG (L := LInt) (xs := [(d.number)]) (cs := [.int .i64 (d.number)]) st132 (Enc.cons (L := LInt) (vs := [.int .i64 (d.number)]) (x := (d.number)) (h := h130) (X) Enc.nil) X X X Tryz.underlying46 Tryz.info3 X X X t_kr ?_
     intro v135 w136 h139 le140 f137 st138
     refine OpsL.append (k := 0) (nb := 8) st138 (hO_9.up (((((((le66.trans le78).trans le87).trans le95).trans le101).trans le121).trans le131).trans le140)) rfl f137 rfl rfl rfl Tryz.underlying46 Tryz.info3 rfl rfl rfl (by decide) rfl (by have q := List.length_filter_le (idleP t x) (x.decisions.take i); rw [List.length_take] at q; simp only [List.length_append, List.length_map, List.length_cons, List.length_nil]; omega) (by have q := List.length_filter_le (idleP t x) (x.decisions.take i); rw [List.length_take] at q; simp only [List.length_append, List.length_map, List.length_cons, List.length_nil]; omega) ?_
     intro v141 o142 w143 _ e144 f145 st146
     subst e144
     refine v_assign (v := v141) X X<|zj<|zz<|U<|zm<|v_add X X t_om X<|v_mvI X X<|Y ?_
     refine ⟨⟨i + 1, v141, o142, h139⟩, ⟨rfl, rfl, trivial⟩, ?_, ⟨((((((((le46.trans le66).trans le78).trans le87).trans le95).trans le101).trans le121).trans le131).trans le140), st146.take 1, ?_, ?_⟩, ?_⟩
     ·exact zR
     ·refine OSl.to f145 ?_
      rw [take_snoc hd, List.filter_append, List.map_append, List.filter_cons, if_pos (by simpa [idleP] using c134)]; rfl
     ·first | omega | (simp; omega)
     ·show x.decisions.length - ((i + 1)) < x.decisions.length - i
      omega
    ·
     refine zo<|zz<|U<|zm<|v_add X X t_om X<|v_mvI X X<|Y ?_
     refine ⟨⟨i + 1, v_9, o_9, h130⟩, ⟨rfl, rfl, trivial⟩, ?_, ⟨(((((((le46.trans le66).trans le78).trans le87).trans le95).trans le101).trans le121).trans le131), st132.take 1, ?_, ?_⟩, ?_⟩
     ·exact zR
     ·refine OSl.to (hO_9.up ((((((le66.trans le78).trans le87).trans le95).trans le101).trans le121).trans le131)) ?_
      rw [take_snoc hd, List.filter_append, List.map_append, List.filter_cons, if_neg (by simpa [idleP] using c134)]; simp
     ·first | omega | (simp; omega)
     ·show x.decisions.length - ((i + 1)) < x.decisions.length - i
      omega
   ·
    replace c51 := of_decide_eq_false c51
    refine zP<|zi<|zi<|zJ<|U<|W.sr<|v_move (v := v_9) X X ?_
    have con := sort1 (L := LInt) (T := 3) (f := 68) (fun n : Int => .int .i64 n) id rfl (fun l => l.mergeSort fun a b => decide (a ≤ b)) (fun l => List.mergeSort_perm _ _) (fun blk off cap zs w hH hb hs => Tryz.slices_Sort_int blk off cap zs w hH hb hs) (fun p cap w => Tryz.slices_Sort_int_none p cap w) (i := 0) st47 hO_9 rfl (by have q := List.length_filter_le (idleP t x) (x.decisions.take i); rw [List.length_take] at q; simp only [List.length_map]; omega)
    refine zD rfl rfl (zS rfl Tryz.call68 rfl) (con.mono ?_)
    rintro _ w147 ⟨rfl, o148, _, e149, f150, st151⟩
    subst e149
    refine ⟨_, rfl, ?_⟩
    clear con
    have f152 := OSl.to f150 (show _ = (idleR t x) from by rw [List.take_of_length_le (by omega)]; exact idle_eq hx0)
    refine Y<|W.sr<|v_move (v := v_9) X X<|v_assign (v := v_9) X X<|v_asI X X<|Y<|zk<|zH Tryz.results25 ?_
    obtain ⟨h153, le154, f155, st156⟩ := OSl.freeze (k := 0) st151 f152 rfl (by first | (have q := idleK_len t x 999; exact Nat.le_trans q (by decide)) | (show (lessX x d.number).decisions.length ≤ _; have q := lexicon_20 (lessX_check hx0 d.number); omega))
    refine ⟨h153, _, rfl, st156.done, ?_⟩
    refine ⟨_, tup2 rfl (zC ?_), Sl.to f155 ?_⟩
    ·exact hx0.symm
    ·simp [idleN, hx0]
 ·
  simp only [hb19, if_true, if_false, Bool.false_eq_true, reduceIte] at q18
  obtain ⟨v157, rfl, f158⟩ := q18
  obtain rfl := f158
  refine v_mvT X X<|v_extract (v := (.pointer none)) X X X<|v_extract (v := (.int _ _)) X X X<|v_assign X X<|v_asI X X<|Y<|zg<|W.sr<|v_mvI X X<|v_neq X X X<|Y ?_
  refine zh rfl (fun c159 => ?_) (fun c159 => ?_)
  ·
   replace c159 := of_decide_eq_true c159
   refine W.sr<|v_mvI X X<|v_asL X X<|v_asI X X<|Y<|zk<|zd<|zH Tryz.results25 ?_
   refine ⟨h15, _, rfl, st17.done, ?_⟩
   refine ⟨_, tup2 rfl (zC ?_), Sl.to (Sl.nil _ _) ?_⟩
   all_goals simp_all [idleN]
  ·
   replace c159 := of_decide_eq_false c159
   exfalso
   simp_all
set_option maxRecDepth 4000 in
theorem c_stem_Add {h : Heap} {w : World} (hs : Sub h w) {t : Text} {t_v0 : Value} (t_f0 : Sl LChapter h t_v0 t.chapters) {x : Lexicon} {x_v0 : Value} (x_f0 : Sl LRule h x_v0 x.rules) {x_v1 : Value} (x_f1 : Sl LDecision h x_v1 x.decisions) {d : Decision} (d_l2 : 0 ≤ d.kind ∧ d.kind ≤ 255) (d_l3 : d.form.length ≤ 281474976710656) (d_l7 : d.to.stem.length ≤ 281474976710656) (d_l8 : 0 ≤ d.to.mark ∧ d.to.mark ≤ 255) (K0 : Cells h 0 0 Tryz.glob0) : Calls Tryz.prog 16 #[.agg #[t_v0], .agg #[x_v0, x_v1], .agg #[.int .i64 d.number, .int .u8 d.kind, strV d.form, .int .i64 d.at_.chapter, .int .i64 d.at_.line, .int .i64 d.at_.word, strV d.to.stem, .int .u8 d.to.mark, .int .i64 d.of_]] w (fun e_ w' => ∃ h' v0_ v1_ o0_ o1_, e_ = .returned (.tuple #[.agg #[v0_, v1_], .int .i64 (addE t x d)]) ∧ Le h h' ∧ St h w h' w' [o0_, o1_] ∧ OSl LRule 70 h' v0_ (((addN t x d)).rules) o0_ ∧ OSl LDecision 34 h' v1_ (((addN t x d)).decisions) o1_) := by
 refine zx (n := 41) (args := [.agg #[t_v0], .agg #[x_v0, x_v1], .agg #[.int .i64 d.number, .int .u8 d.kind, strV d.form, .int .i64 d.at_.chapter, .int .i64 d.at_.line, .int .i64 d.at_.word, strV d.to.stem, .int .u8 d.to.mark, .int .i64 d.of_]]) Tryz.func16 X X X ?_
 have st0 : St h w h w [] := St.start hs
 have t_f0_b := t_f0.le
 have x_f0_b := x_f0.le
 have x_f1_b := x_f1.le
 refine W.sr<|zl st0 (cs := [t_v0]) X X X ?_
 intro b1 w2 h3 le4 hc5 st6
 refine zl st6 (cs := [x_v0, x_v1]) X X X ?_
 intro b7 w8 h9 le10 hc11 st12
 refine zl st12 (cs := [.int .i64 (d.number), .int .u8 (d.kind), strV (d.form), .int .i64 (d.at_.chapter), .int .i64 (d.at_.line), .int .i64 (d.at_.word), strV (d.to.stem), .int .u8 (d.to.mark), .int .i64 (d.of_)]) X X X ?_
 intro b13 w14 h15 le16 hc17 st18
 refine zy st18 Tryz.zeroValue28 X X ?_
 intro b19 w20 st21
 refine v_asI X X<|Y<|zg<|W.sr<|v_load_call st21.sub (hc5.up (le10.trans le16)) X Tryz.isAgg24 Tryz.sizeOf24 X X<|v_load_call st21.sub (hc11.up le16) X Tryz.isAgg28 Tryz.sizeOf28 X X<|za st21 X X X Tryz.call48 X (c_stem_Check st21.sub (t := t) (t_f0.up ((le4.trans le10).trans le16)) (x := x) (x_f0.up ((le4.trans le10).trans le16)) (x_f1.up ((le4.trans le10).trans le16)) (K0.up ((le4.trans le10).trans le16))) ?_
 intro r22 w23 h24 le25 st26 q27
 obtain rfl := q27
 refine v_asI X X<|Y<|W.sr<|v_mvI X X<|v_neq X X X<|Y ?_
 refine zh rfl (fun c28 => ?_) (fun c28 => ?_)
 ·
  replace c28 := of_decide_eq_true c28
  refine W.sr<|ze X X (zY (cs := [(.slice none 0 0), (.slice none 0 0)]) t_kr)<|v_mvI X X<|zq st26 (k := 0) X X X (E X (E X zI)) Tryz.sizeOf28 X X X ?_
  intro w29 st30
  refine v_asI X X<|Y<|zk<|zd<|Post.retcell2 Tryz.results16 X Tryz.isAgg28 Tryz.sizeOf28 X (st30.get (k := 0) X) ?_
  have st31 := st30.snoc
  have f32 := OSl.nil LRule 70 h24
  have st33 := st31.snoc
  have f34 := OSl.nil LDecision 34 h24
  refine ⟨h24, (.slice none 0 0), (.slice none 0 0), _, _, congrArg Ending.returned (tup2 rfl (zC ?_)), (((le4.trans le10).trans le16).trans le25), st33.sublist (own' := [[], []]) (.cons _ (.cons_cons _ (.cons_cons _ (.slnil)))), OSl.to f32 ?_, OSl.to f34 ?_⟩
  all_goals (obtain ⟨q1, q2⟩ := addE_bad (d := d) c28)
  ·exact q1.symm
  ·rw [q2]; rfl
  ·rw [q2]; rfl
 ·
  replace c28 := of_decide_eq_false c28
  refine zo<|U<|zg<|zg ?_
  have hx0 : checkN t x = 0 := by simpa using c28
  have hdl := lexicon_20 hx0
  have hrl := lexicon_12 hx0
  refine zm<|v_field_addr X Tryz.underlying28 X Tryz.sizeOf26 X X<|v_load_cells1 (j := 1) st26.sub (hc11.up (le16.trans le25)) X X X Tryz.isAgg26 X<|v_len (x_f1.up (((le4.trans le10).trans le16).trans le25)) X Tryz.underlying26 X<|v_eql X X X<|Y ?_
  refine zh rfl (fun c35 => ?_) (fun c35 => ?_)
  ·
   replace c35 := of_decide_eq_true c35
   refine W.sr<|ze X X (zY (cs := [(.slice none 0 0), (.slice none 0 0)]) t_kr)<|zq st26 (k := 0) X X X (E X (E X zI)) Tryz.sizeOf28 X X X ?_
   intro w36 st37
   refine v_asI X X<|Y<|zk<|zd<|Post.retcell2 Tryz.results16 X Tryz.isAgg28 Tryz.sizeOf28 X (st37.get (k := 0) X) ?_
   have st38 := st37.snoc
   have f39 := OSl.nil LRule 70 h24
   have st40 := st38.snoc
   have f41 := OSl.nil LDecision 34 h24
   refine ⟨h24, (.slice none 0 0), (.slice none 0 0), _, _, congrArg Ending.returned (tup2 rfl (zC ?_)), (((le4.trans le10).trans le16).trans le25), st40.sublist (own' := [[], []]) (.cons _ (.cons_cons _ (.cons_cons _ (.slnil)))), OSl.to f39 ?_, OSl.to f41 ?_⟩
   all_goals (obtain ⟨q1, q2⟩ := addE_full (d := d) hx0 (by have q := c35; omega))
   ·exact q1.symm
   ·rw [q2]; rfl
   ·rw [q2]; rfl
  ·
   replace c35 := of_decide_eq_false c35
   refine zo<|U<|zg<|zZ (er := ([], [], [], [10], 4)) (dsts := [22, 23, 24, 25, 26, 27, 28, 29, 30, 31, 9]) st26 Tryz.mixed<|zc 0 [] X t_kr t_kr X X (fun hD wD τD hL hS hO  => (zA X Tryz.underlying28 X Tryz.sizeOf25 X))<|zc 1 [0] X t_kr t_kr X X (fun hD wD τD hL hS hO _ _ => (zf (j := 0) (hL.sub hS) (hc11.up (le16.trans le25)) X X X Tryz.isAgg25))<|Drw.ch<|zc 3 [] X t_kr t_kr X X (fun hD wD τD hL hS hO  => (zA X Tryz.underlying28 X Tryz.sizeOf26 X))<|zc 4 [0] X t_kr t_kr X X (fun hD wD τD hL hS hO _ _ => (zf (j := 1) (hL.sub hS) (hc11.up (le16.trans le25)) X X X Tryz.isAgg26))<|Drw.ch<|zc 6 [] X t_kr t_kr X X (fun hD wD τD hL hS hO  => (zB (hL.sub hS) (hc17.up le25) X Tryz.isAgg34 Tryz.sizeOf34 X)) ?_
   refine zF 7 (.res (fun h' res_ => Sl LDecision h' res_ ([d])) (fun _ _ _ hl f => f.up hl)) [0] rfl t_kr t_kr ?_ ?_
   ·
    intro hD wD τD hL hS hO _ _
    have st42 := St.start hS
    refine zG (L := LDecision) (xs := [d]) (cs := [.int .i64 (d.number), .int .u8 (d.kind), strV (d.form), .int .i64 (d.at_.chapter), .int .i64 (d.at_.line), .int .i64 (d.at_.word), strV (d.to.stem), .int .u8 (d.to.mark), .int .i64 (d.of_)]) st42 (Enc.cons (L := LDecision) (vs := [.int .i64 (d.number), .int .u8 (d.kind), strV (d.form), .int .i64 (d.at_.chapter), .int .i64 (d.at_.line), .int .i64 (d.at_.word), strV (d.to.stem), .int .u8 (d.to.mark), .int .i64 (d.of_)]) (x := d) (h := hD) (⟨rfl, t_u8, zO, zO, t_u8⟩) Enc.nil) X X X Tryz.underlying26 Tryz.info34 X X X t_kr ?_
    intro v43 w44 h47 le48 f45 st46
    exact zj ⟨_, _, rfl, st46, _, rfl, f45⟩
   refine Drw.ch<|Drw.ch<|Drw.al Tryz.zeroValue28 X<|Drw.ch<|Drw.nil X X X X X X ⟨t_kr, X, t_kr, X, t_kr, X, X, t_kr, (zaf X (zaf X (zaf X (zaf X (zaf X cx_nil)))))⟩ ?_
   intro hE50 w51 _ ls56 hl55 le52 st53 _ _
   obtain ⟨oL54, rfl⟩ := len1_iff hl55
   refine zD rfl rfl (zS rfl Tryz.call63 rfl) ((c_slices_Clone_Lapi_Rule_api_Rule st53.sub (x_f0.up ((((le4.trans le10).trans le16).trans le25).trans le52)) (by omega)).mono ?_)
   rintro _ w58 ⟨h59, v57, o62, rfl, le60, s64, f63⟩
   refine ⟨_, rfl, ?_⟩
   have st61 := st53.call s64
   refine zj ⟨_, rfl, _, [[(b19, .cells (List.toArray [(.slice none 0 0), (.slice none 0 0)]) 28)]], [o62], le60, st61, ?_⟩
   intro hE66 w67 _ ls72 hl71 le68 st69 _ _
   obtain ⟨oL70, rfl⟩ := len1_iff hl71
   refine zD rfl rfl (zS rfl Tryz.call64 rfl) ((zad st69.sub (x_f1.up ((((((le4.trans le10).trans le16).trans le25).trans le52).trans le60).trans le68)) (by omega)).mono ?_)
   rintro _ w74 ⟨h75, v73, o78, rfl, le76, s80, f79⟩
   refine ⟨_, rfl, ?_⟩
   have st77 := st69.call s80
   refine zj ⟨_, rfl, _, [[(b19, .cells (List.toArray [(.slice none 0 0), (.slice none 0 0)]) 28)]], [o62, o78], le76, st77, ?_⟩
   intro hE82 w83 _ ls88 hl87 le84 st85 gv7_0x81 gf7_0x81
   obtain ⟨oL86, rfl⟩ := len1_iff hl87
   refine OpsL.append (k := 3) (nb := 88) st85 (f79.up le84) rfl gf7_0x81 rfl rfl rfl Tryz.underlying26 Tryz.info34 rfl rfl rfl (by decide) rfl (by first | omega | (simp only [List.length_append, List.length_cons, List.length_nil]; omega)) (by first | omega | (simp only [List.length_append, List.length_cons, List.length_nil]; omega)) ?_
   intro v89 o90 w91 _ e92 f93 st94
   subst e92
   refine zj ⟨_, rfl, _, [[(b19, .cells (List.toArray [(.slice none 0 0), (.slice none 0 0)]) 28)]], [o62, o90], Le.refl _, st94, ?_⟩
   intro hE96 w97 _ ls102 hl101 le98 st99 
   obtain ⟨oL100, rfl⟩ := len1_iff hl101
   refine ze rfl rfl (zY (cs := [v57, v89]) (by obtain ⟨_, _, rfl⟩ := OSl.form f63; obtain ⟨_, _, rfl⟩ := OSl.form f93; kernel_rfl)) ?_
   refine zj ⟨_, rfl, _, [[(b19, .cells (List.toArray [(.slice none 0 0), (.slice none 0 0)]) 28)]], [o62, o90], Le.refl _, st99, ?_⟩
   intro b104
   intro hE105 w106 _ le107 st108 _ _ _ _ _ _ _ _ _ _ gv7_0x103 gf7_0x103
   refine zq st108 (k := 1) X X X (E f63.one (E f93.one zI)) Tryz.sizeOf28 X X X ?_
   intro w109 st110
   obtain ⟨h111, le112, hb113, st115⟩ := st110.freeze (k := 1) rfl
   have hc114 := Cells.of hb113
   refine zj ⟨undef, rfl, _, _, le112, st115, ?_⟩
   intro hE116 w117 _ le118 st119 _ _ _ _ _ _ _ _ _ _ gv7_0x120 gf7_0x120
   refine AllDeps.fin X<|U<|zg<|W.sr<|v_load_call st119.sub (hc5.up (((((((((((le10.trans le16).trans le25).trans le52).trans le60).trans le68).trans le76).trans le84).trans le98).trans le107).trans le112).trans le118)) X Tryz.isAgg24 Tryz.sizeOf24 X X<|v_load_call st119.sub (hc114.up le118) X Tryz.isAgg28 Tryz.sizeOf28 X X ?_
   have ha121 := heapOf_le st119.sub
   have f122 := (OSl.whole (k := 2) st119 (f63.up ((((((le68.trans le76).trans le84).trans le98).trans le107).trans le112).trans le118)) rfl t_om).2
   have f123 := (OSl.whole (k := 3) st119 (f93.up (((le98.trans le107).trans le112).trans le118)) rfl t_om).2
   refine za st119 X X X Tryz.call48 X (Rets.thaw st119.sub (c_stem_Check (heapOf_sub _) (t := t) (t_f0.up (((((((((((((le4.trans le10).trans le16).trans le25).trans le52).trans le60).trans le68).trans le76).trans le84).trans le98).trans le107).trans le112).trans le118).trans ha121)) (x := (Lexicon.mk ((x.rules)) (((x.decisions)) ++ ([d])))) f122 f123 (K0.up (((((((((((((le4.trans le10).trans le16).trans le25).trans le52).trans le60).trans le68).trans le76).trans le84).trans le98).trans le107).trans le112).trans le118).trans ha121)))) ?_
   intro r124 w125 h126 le127 st128 q129
   obtain rfl := q129
   refine v_neq X X X<|Y ?_
   refine zh rfl (fun c130 => ?_) (fun c130 => ?_)
   ·
    replace c130 := of_decide_eq_true c130
    refine W.sr<|ze X X (zY (cs := [(.slice none 0 0), (.slice none 0 0)]) t_kr)<|zq st128 (k := 0) X X X (E X (E X zI)) Tryz.sizeOf28 X X X ?_
    intro w131 st132
    refine v_asI X X<|Y<|zk<|zd<|Post.retcell2 Tryz.results16 X Tryz.isAgg28 Tryz.sizeOf28 X (st132.get (k := 0) X) ?_
    have st133 := st132.snoc
    have f134 := OSl.nil LRule 70 h126
    have st135 := st133.snoc
    have f136 := OSl.nil LDecision 34 h126
    refine ⟨h126, (.slice none 0 0), (.slice none 0 0), _, _, congrArg Ending.returned (tup2 rfl (zC ?_)), (((((((((((((le4.trans le10).trans le16).trans le25).trans le52).trans le60).trans le68).trans le76).trans le84).trans le98).trans le107).trans le112).trans le118).trans le127), st135.sublist (own' := [[], []]) (.cons _ (.cons _ (.cons _ (.cons _ (.cons_cons _ (.cons_cons _ (.slnil))))))), OSl.to f134 ?_, OSl.to f136 ?_⟩
    all_goals (obtain ⟨q1, q2⟩ := addE_err (d := d) hx0 (by have q := c35; omega) c130)
    ·exact q1.symm
    ·rw [q2]; rfl
    ·rw [q2]; rfl
   ·
    replace c130 := of_decide_eq_false c130
    refine zo<|U<|zg ?_
    have hx1 : checkN t (moreX x d) = 0 := by simpa [moreX] using c130
    refine zm<|v_field_addr X Tryz.underlying28 X Tryz.sizeOf26 X X<|v_load_cells1 (j := 1) st128.sub (hc114.up (le118.trans le127)) X X X Tryz.isAgg26 X ?_
    have con := sortFunc (L := LDecision) (T := 34) Tryz.sort_api_Decision Tryz.isAgg34 Tryz.sizeOf34 (by decide) (fun x : Decision => [.int .i64 x.number, .int .u8 x.kind, strV x.form, .int .i64 x.at_.chapter, .int .i64 x.at_.line, .int .i64 x.at_.word, strV x.to.stem, .int .u8 x.to.mark, .int .i64 x.of_]) (by rintro _ _ _ ⟨rfl, _⟩; rfl) (fun a b : Decision => a.number - b.number) (swo_asc _) (g := 66) (caps := []) (i := 3) st128 (f93.up ((((le98.trans le107).trans le112).trans le118).trans le127)) rfl (by simp only [List.length_append, List.length_cons, List.length_nil]; omega) Tryz.call66 ?_
    rotate_left
    ·intro a_ ha_ b_ hb_ w_ hs_
     obtain ⟨_, rfl, p0, p1, p2, p3⟩ := OSl.memR (f93.up ((((le98.trans le107).trans le112).trans le118).trans le127)) ha_
     obtain ⟨_, rfl, q0, q1, q2, q3⟩ := OSl.memR (f93.up ((((le98.trans le107).trans le112).trans le118).trans le127)) hb_
     simp only [big] at *
     exact c_stem_Add_1 hs_ (a := a_) p0 p1 p2 p3 (b := b_) q0 q1 q2 q3 (by have q := ((okD_of hx1).2 a_ ha_); omega) (by have q := ((okD_of hx1).2 b_ hb_); omega)
    refine zD rfl rfl (zS rfl Tryz.call65 rfl) (con.mono ?_)
    rintro _ w137 ⟨rfl, ys138, o139, _, e140, hp141, hw142, f143, st144⟩
    subst e140
    refine ⟨_, rfl, ?_⟩
    clear con
    have f145 := OSl.to f143 (show ys138 = (ascD (x.decisions ++ [d])) from ascD_eq hp141 (hw142.imp fun h => by omega) (okD_of hx1).1)
    refine Y<|W.sr<|v_load_call st144.sub (hc114.up (le118.trans le127)) X Tryz.isAgg28 Tryz.sizeOf28 X X<|zq st144 (k := 0) X X X (E f63.one (E f145.one zI)) Tryz.sizeOf28 X X X ?_
    intro w146 st147
    refine v_asI X X<|Y<|zk<|Post.retcell2 Tryz.results16 X Tryz.isAgg28 Tryz.sizeOf28 X (st147.get (k := 0) X) ?_
    refine ⟨h126, v57, v89, _, _, congrArg Ending.returned (tup2 rfl (zC ?_)), (((((((((((((le4.trans le10).trans le16).trans le25).trans le52).trans le60).trans le68).trans le76).trans le84).trans le98).trans le107).trans le112).trans le118).trans le127), st147.sublist (own' := [o62, o139]) (.cons _ (.cons _ (.cons_cons _ (.cons_cons _ (.slnil))))), OSl.to (f63.up (((((((le68.trans le76).trans le84).trans le98).trans le107).trans le112).trans le118).trans le127)) ?_, OSl.to f145 ?_⟩
    all_goals (obtain ⟨q1, q2⟩ := addE_ok (d := d) hx0 (by have q := c35; omega) hx1)
    ·exact q1.symm
    ·rw [q2]; rfl
    ·rw [q2]; rfl
set_option maxRecDepth 4000 in
theorem c_stem_Changes {h : Heap} {w : World} (hs : Sub h w) {t : Text} {t_v0 : Value} (t_f0 : Sl LChapter h t_v0 t.chapters) {x : Lexicon} {x_v0 : Value} (x_f0 : Sl LRule h x_v0 x.rules) {x_v1 : Value} (x_f1 : Sl LDecision h x_v1 x.decisions) {d : Decision} (d_l2 : 0 ≤ d.kind ∧ d.kind ≤ 255) (d_l3 : d.form.length ≤ 281474976710656) (d_l7 : d.to.stem.length ≤ 281474976710656) (d_l8 : 0 ≤ d.to.mark ∧ d.to.mark ≤ 255) (K0 : Cells h 0 0 Tryz.glob0) : Calls Tryz.prog 15 #[.agg #[t_v0], .agg #[x_v0, x_v1], .agg #[.int .i64 d.number, .int .u8 d.kind, strV d.form, .int .i64 d.at_.chapter, .int .i64 d.at_.line, .int .i64 d.at_.word, strV d.to.stem, .int .u8 d.to.mark, .int .i64 d.of_]] w (Rets h w (fun h' _ res_ => ∃ u0, res_ = .tuple #[u0, .int .i64 (addE t x d)] ∧ Sl LPlace h' u0 ((changesR t x d)))) := by
 refine zx (n := 53) (args := [.agg #[t_v0], .agg #[x_v0, x_v1], .agg #[.int .i64 d.number, .int .u8 d.kind, strV d.form, .int .i64 d.at_.chapter, .int .i64 d.at_.line, .int .i64 d.at_.word, strV d.to.stem, .int .u8 d.to.mark, .int .i64 d.of_]]) Tryz.func15 X X X ?_
 have st0 : St h w h w [] := St.start hs
 have t_f0_b := t_f0.le
 have x_f0_b := x_f0.le
 have x_f1_b := x_f1.le
 refine W.sr<|zl st0 (cs := [t_v0]) X X X ?_
 intro b1 w2 h3 le4 hc5 st6
 refine zl st6 (cs := [x_v0, x_v1]) X X X ?_
 intro b7 w8 h9 le10 hc11 st12
 refine zl st12 (cs := [.int .i64 (d.number), .int .u8 (d.kind), strV (d.form), .int .i64 (d.at_.chapter), .int .i64 (d.at_.line), .int .i64 (d.at_.word), strV (d.to.stem), .int .u8 (d.to.mark), .int .i64 (d.of_)]) X X X ?_
 intro b13 w14 h15 le16 hc17 st18
 refine v_asL X X<|v_asI X X<|Y<|W.sr<|v_load_call st18.sub (hc5.up (le10.trans le16)) X Tryz.isAgg24 Tryz.sizeOf24 X X<|v_load_call st18.sub (hc11.up le16) X Tryz.isAgg28 Tryz.sizeOf28 X X<|v_load_call st18.sub hc17 X Tryz.isAgg34 Tryz.sizeOf34 X X ?_
 refine zD rfl rfl (zS rfl Tryz.call16 rfl) ((c_stem_Add st18.sub (t := t) (t_f0.up ((le4.trans le10).trans le16)) (x := x) (x_f0.up ((le4.trans le10).trans le16)) (x_f1.up ((le4.trans le10).trans le16)) (d := d) t_u8 zO zO t_u8 (K0.up ((le4.trans le10).trans le16))).mono ?_)
 rintro _ w19 ⟨h20, v24, v27, o25, o28, rfl, le21, s23, f26, f29⟩
 refine ⟨_, rfl, ?_⟩
 have st22 := st18.call s23
 refine v_mvT X X<|v_extract (v := (.agg (List.toArray _))) X X X<|v_extract (v := (.int _ _)) X X X<|zy st22 Tryz.zeroValue28 X X ?_
 intro b30 w31 st32
 refine zq st32 (k := 2) X X X (E f26.one (E f29.one zI)) Tryz.sizeOf28 X X X ?_
 intro w33 st34
 obtain ⟨h35, le36, hb37, st39⟩ := st34.freeze (k := 2) rfl
 have hc38 := Cells.of hb37
 refine v_asI X X<|Y<|zg<|W.sr<|v_mvI X X<|v_neq X X X<|Y ?_
 refine zh rfl (fun c40 => ?_) (fun c40 => ?_)
 ·
  replace c40 := of_decide_eq_true c40
  refine W.sr<|v_mvI X X<|v_asL X X<|v_asI X X<|Y<|zk<|zd<|zH Tryz.results15 ?_
  refine ⟨h35, _, rfl, st39.done, ?_⟩
  refine ⟨_, tup2 rfl (zC ?_), Sl.to (Sl.nil _ _) ?_⟩
  all_goals simp_all [changesR]
 ·
  replace c40 := of_decide_eq_false c40
  refine zo<|U<|zg ?_
  have hz0 : addE t x d = 0 := by simpa using c40
  have han : addN t x d = addX x d := by rw [addN, if_pos hz0]
  have hx0 := (addE_zero hz0).1
  have hx1 := addX_check (addE_zero hz0).2.2
  have hpl := places_len (check_text hx0)
  have hl1 := entries_length t x
  have hl2 := entries_length t (addX x d)
  obtain ⟨h41, le42, f43, st44⟩ := OSl.freeze (k := 0) st39 (f26.up le36) rfl (by first | (rw [han]; have q := lexicon_20 hx1; have q2 := lexicon_12 hx1; omega) | (have q := List.length_filter_le (fun p => decide (headAt t (addX x d) p ≠ headAt t x p)) ((placesT t).take i); rw [List.length_take] at q; omega))
  obtain ⟨h45, le46, f47, st48⟩ := OSl.freeze (k := 1) st44 (f29.up (le36.trans le42)) rfl (by first | (rw [han]; have q := lexicon_20 hx1; have q2 := lexicon_12 hx1; omega) | (have q := List.length_filter_le (fun p => decide (headAt t (addX x d) p ≠ headAt t x p)) ((placesT t).take i); rw [List.length_take] at q; omega))
  refine zZ (er := ([], [], [], [], 0)) (dsts := [25, 26, 27, 28, 29, 30, 31, 32, 10, 11]) st48 Tryz.mixed<|zc 0 [] X t_kr t_kr X X (fun hD wD τD hL hS hO  => (zB (hL.sub hS) (hc5.up (((((le10.trans le16).trans le21).trans le36).trans le42).trans le46)) X Tryz.isAgg24 Tryz.sizeOf24 X))<|zc 1 [] X t_kr t_kr X X (fun hD wD τD hL hS hO  => (zB (hL.sub hS) (hc11.up ((((le16.trans le21).trans le36).trans le42).trans le46)) X Tryz.isAgg28 Tryz.sizeOf28 X)) ?_
  refine zF 2 (.res (fun h' res_ => Box LOffice h' true (Office.mk (x) (t) (standM (x))) res_) (fun _ _ _ hl f => f.up hl)) [1, 0] rfl t_kr t_kr ?_ ?_
  ·
   intro hD wD τD hL hS hO _ _ _ _
   have st49 := St.start hS
   refine za st49 rfl rfl rfl Tryz.call61 rfl (c_stem_opened st49.sub (t := t) (t_f0.up (((((((le4.trans le10).trans le16).trans le21).trans le36).trans le42).trans le46).trans hL)) (x := x) (x_f0.up (((((((le4.trans le10).trans le16).trans le21).trans le36).trans le42).trans le46).trans hL)) (x_f1.up (((((((le4.trans le10).trans le16).trans le21).trans le36).trans le42).trans le46).trans hL)) (by first | exact okD_of hx0 | (rw [han]; exact okD_of hx1)) (by first | (have q := lexicon_20 hx0; omega) | (rw [han]; have q := lexicon_20 hx1; omega))) ?_
   intro r50 w51 h52 le53 st54 q55
   obtain ⟨_, rfl, q55_x⟩ := q55
   exact zj ⟨_, _, rfl, st54, _, rfl, q55_x⟩
  refine zF 3 (.res (fun h' res_ => Sl LEntry h' res_ ((entriesL t x))) (fun _ _ _ hl f => f.up hl)) [0] rfl t_kr t_kr ?_ ?_
  ·
   intro hD wD τD hL hS hO gv2_ gf2_
   obtain ⟨gb2, _, rfl, gc2, gv2_0, gv2_1, gv2_2, gv2_3, rfl, gf2_0, gf2_1, gf2_2, gf2_3⟩ := gf2_
   have st56 := St.start hS
   refine za st56 rfl rfl rfl Tryz.call62 rfl (c_stem_office_entries st56.sub (o := (Office.mk (x) (t) (standM (x)))) gf2_0 gf2_1 gf2_2 gf2_3 gc2 (K0.up (((((((le4.trans le10).trans le16).trans le21).trans le36).trans le42).trans le46).trans hL)) (by first | exact ⟨hx0, rfl⟩ | (rw [han]; exact ⟨hx1, rfl⟩))) ?_
   intro r57 w58 h59 le60 st61 q62
   obtain ⟨v63, e65, f64⟩ := q62
   rw [← e65] at f64
   have f64_b := f64.le
   have f66 := Sl.to f64 (show _ = (entriesL t x) from rfl)
   have f66_b := f66.le
   exact zj ⟨_, _, rfl, st61, _, rfl, f66⟩
  refine zc 4 [] X t_kr t_kr X X (fun hD wD τD hL hS hO  => (zB (hL.sub hS) (hc5.up (((((le10.trans le16).trans le21).trans le36).trans le42).trans le46)) X Tryz.isAgg24 Tryz.sizeOf24 X))<|zc 5 [] X t_kr t_kr X X (fun hD wD τD hL hS hO  => (zB (hL.sub hS) (hc38.up (le42.trans le46)) X Tryz.isAgg28 Tryz.sizeOf28 X)) ?_
  refine zF 6 (.res (fun h' res_ => Box LOffice h' true (Office.mk (((addN (t) (x) (d)))) (t) (standM (((addN (t) (x) (d)))))) res_) (fun _ _ _ hl f => f.up hl)) [1, 0, 2] rfl t_kr t_kr ?_ ?_
  ·
   intro hD wD τD hL hS hO _ _ _ _ gv3_0 gf3_0
   have st67 := St.start hS
   refine za st67 rfl rfl rfl Tryz.call61 rfl (c_stem_opened st67.sub (t := t) (t_f0.up (((((((le4.trans le10).trans le16).trans le21).trans le36).trans le42).trans le46).trans hL)) (x := ((addN (t) (x) (d)))) (f43.up (le46.trans hL)) (f47.up hL) (by first | exact okD_of hx0 | (rw [han]; exact okD_of hx1)) (by first | (have q := lexicon_20 hx0; omega) | (rw [han]; have q := lexicon_20 hx1; omega))) ?_
   intro r68 w69 h70 le71 st72 q73
   obtain ⟨_, rfl, q73_x⟩ := q73
   exact zj ⟨_, _, rfl, st72, _, rfl, q73_x⟩
  refine zF 7 (.res (fun h' res_ => Sl LEntry h' res_ ((entriesL t (addX x d)))) (fun _ _ _ hl f => f.up hl)) [0] rfl t_kr t_kr ?_ ?_
  ·
   intro hD wD τD hL hS hO gv6_ gf6_
   obtain ⟨gb6, _, rfl, gc6, gv6_0, gv6_1, gv6_2, gv6_3, rfl, gf6_0, gf6_1, gf6_2, gf6_3⟩ := gf6_
   have st74 := St.start hS
   refine za st74 rfl rfl rfl Tryz.call62 rfl (c_stem_office_entries st74.sub (o := (Office.mk (((addN (t) (x) (d)))) (t) (standM (((addN (t) (x) (d))))))) gf6_0 gf6_1 gf6_2 gf6_3 gc6 (K0.up (((((((le4.trans le10).trans le16).trans le21).trans le36).trans le42).trans le46).trans hL)) (by first | exact ⟨hx0, rfl⟩ | (rw [han]; exact ⟨hx1, rfl⟩))) ?_
   intro r75 w76 h77 le78 st79 q80
   obtain ⟨v81, e83, f82⟩ := q80
   rw [← e83] at f82
   have f82_b := f82.le
   have f84 := Sl.to f82 (show _ = (entriesL t (addX x d)) from by rw [han])
   have f84_b := f84.le
   exact zj ⟨_, _, rfl, st79, _, rfl, f84⟩
  refine zF 8 (.res (fun h' res_ => Sl LEntry h' res_ (((entriesL t x)))) (fun _ _ _ hl f => f.up hl)) [0, 7, 6, 5, 4] rfl t_kr t_kr ?_ ?_
  ·
   intro hD wD τD hL hS hO gv7_0 gf7_0 _ _ _ _ gv2_ gf2_ gv3_0 gf3_0
   obtain ⟨gb2, _, rfl, gc2, gv2_0, gv2_1, gv2_2, gv2_3, rfl, gf2_0, gf2_1, gf2_2, gf2_3⟩ := gf2_
   have st85 := St.start hS
   refine v_assign (v := gv3_0) X X ?_
   exact zj ⟨_, _, rfl, st85, _, rfl, gf3_0⟩
  refine zF 9 (.res (fun h' res_ => Sl LEntry h' res_ (((entriesL t (addX x d))))) (fun _ _ _ hl f => f.up hl)) [8, 7, 6, 5, 4, 3, 2, 1, 0] rfl t_kr t_kr ?_ ?_
  ·
   intro hD wD τD hL hS hO _ _ _ _ gv2_ gf2_ gv3_0 gf3_0 _ _ _ _ gv6_ gf6_ gv7_0 gf7_0 gv8_0 gf8_0
   obtain ⟨gb2, _, rfl, gc2, gv2_0, gv2_1, gv2_2, gv2_3, rfl, gf2_0, gf2_1, gf2_2, gf2_3⟩ := gf2_
   obtain ⟨gb6, _, rfl, gc6, gv6_0, gv6_1, gv6_2, gv6_3, rfl, gf6_0, gf6_1, gf6_2, gf6_3⟩ := gf6_
   have st86 := St.start hS
   refine v_assign (v := gv7_0) X X ?_
   exact zj ⟨_, _, rfl, st86, _, rfl, gf7_0⟩
  refine Drw.nil X X X X X X ⟨t_kr, X, t_kr, X, t_kr, X, X, t_kr, cx_nil⟩ ?_
  intro hE87 w88 _ le89 st90 _ _ _ _ gv2_x91 gf2_x91 gv3_0x91 gf3_0x91 _ _ _ _ gv6_x91 gf6_x91 gv7_0x91 gf7_0x91 gv8_0x91 gf8_0x91 gv9_0x91 gf9_0x91
  obtain ⟨gb2x91, _, rfl, gc2x91, gv2_0x91, gv2_1x91, gv2_2x91, gv2_3x91, rfl, gf2_0x91, gf2_1x91, gf2_2x91, gf2_3x91⟩ := gf2_x91
  obtain ⟨gb6x91, _, rfl, gc6x91, gv6_0x91, gv6_1x91, gv6_2x91, gv6_3x91, rfl, gf6_0x91, gf6_1x91, gf6_2x91, gf6_3x91⟩ := gf6_x91
  refine AllDeps.fin X<|U<|W.sr<|v_asL X X<|Y<|zg<|W.sr<|v_move (v := gv9_0x91) X X<|v_len gf9_0x91 X Tryz.underlying115 X<|v_mvI X X<|Y<|zr ?_
  have st95 := st90.snoc
  have f96 := OSl.nil LPlace 30 hE87
  refine zN [12, 13, 14, 35, 36, 37, 38, 39, 40, 41, 42, 43, 44, 45, 46, 47, 48, 49, 50, 51] (G := Nat × Value × List (Nat × Obj) × Heap) (fun ⟨i, v_12, o_12, h92⟩ => [(12, v_12), (35, .int .i64 (i : Int))]) (fun ⟨i, v_12, o_12, h92⟩ w' => Le hE87 h92 ∧ St h w h92 w' [[], [], [], o_12] ∧ (OSl LPlace 30 h92 v_12 (((placesT t).take i).filter fun p => decide (headAt t (addX x d) p ≠ headAt t x p)) o_12) ∧ (i ≤ (entriesL t (addX x d)).length)) (fun ⟨i, v_12, o_12, h92⟩ => (entriesL t (addX x d)).length - i) ⟨0, (.slice none 0 0), [], hE87⟩ ⟨rfl, rfl, trivial⟩ ⟨Le.refl _, st95, (OSl.to f96 (by rfl)), zV⟩ ?_
  rintro ⟨i, v_12, o_12, h92⟩ _ w97 ⟨le93, st94, hO_12, hi⟩
  refine W.sr<|v_lss X X X<|Y<|zg ?_
  refine zh rfl (fun c98 => ?_) (fun c98 => ?_)
  ·
   replace c98 := of_decide_eq_true c98
   refine zo<|U<|zg<|zr<|W.sr<|v_mvI X X ?_
   have hy : ∃ y_, ((((entriesL t (addX x d)))))[i]? = some y_ := ⟨_, List.getElem?_eq_getElem (by omega)⟩
   obtain ⟨y, hy⟩ := hy
   obtain ⟨b99, o100, _, he102, hc101, hr_y⟩ := Sl.elem (gf9_0x91.up le93) hy
   obtain ⟨rfl, ls103, ls104, lu105⟩ := hr_y
   simp only [big] at ls103
   simp only [big] at ls104
   refine v_index_el he102 X X (hk := X) (hu := Tryz.underlying115) (hz := Tryz.sizeOf120) X<|v_load_call st94.sub hc101 X Tryz.isAgg120 Tryz.sizeOf120 X X<|zy st94 Tryz.zeroValue120 X X ?_
   intro b106 w107 st108
   refine v_asI X X<|zq st108 (k := 4) X X X (E X (E X (E X (E X (E X (E X zI)))))) Tryz.sizeOf120 X X X ?_
   intro w109 st110
   obtain ⟨h111, le112, hb113, st115⟩ := st110.freeze (k := 4) rfl
   have hc114 := Cells.of hb113
   refine Y<|zg<|W.regionQ Tryz.mixed t_kr (Cls h111 _) (Cls.drew st115)<|zt X X (fun _ hC => (zB hC.sub hc114 X Tryz.isAgg120 Tryz.sizeOf120 X))<|u_move (v := gv8_0x91) X X<|u_mvI X X ?_
   have hz : ∃ y_, ((((entriesL t x))))[i]? = some y_ := ⟨_, List.getElem?_eq_getElem (by omega)⟩
   obtain ⟨z, hz⟩ := hz
   obtain ⟨b116, o117, _, he119, hc118, hr_z⟩ := Sl.elem (gf8_0x91.up (le93.trans le112)) hz
   obtain ⟨rfl, ls120, ls121, lu122⟩ := hr_z
   simp only [big] at ls120
   simp only [big] at ls121
   refine u_index_el he119 X X (hk := X) (hu := Tryz.underlying115) (hz := Tryz.sizeOf120) X<|zt X X (fun _ hC => (zB hC.sub hc118 X Tryz.isAgg120 Tryz.sizeOf120 X))<|zt X X (fun _ _ => (r_stneq X X Tryz.eqGuardType120 (Tryz.eq_Entry y z)))<|OpsQ.nil ?_
   rintro w123 ⟨h124, s125⟩
   have st126 := st115.call0 s125
   refine U ?_
   refine zh rfl (fun c127 => ?_) (fun c127 => ?_)
   ·
    replace c127 := of_decide_eq_true c127
    refine zm<|v_move (v := v_12) X X<|v_field_addr X Tryz.underlying120 X Tryz.sizeOf30 X X<|v_load_cellsN (j := 0) st126.sub (hc114.up s125.le) (us := [.int .i64 (y.at_.chapter), .int .i64 (y.at_.line), .int .i64 (y.at_.word)]) X X Tryz.isAgg30 Tryz.sizeOf30 X X X<|zG (L := LPlace) (xs := [y.at_]) (cs := [.int .i64 (y.at_.chapter), .int .i64 (y.at_.line), .int .i64 (y.at_.word)]) st126 (Enc.cons (L := LPlace) (vs := [.int .i64 (y.at_.chapter), .int .i64 (y.at_.line), .int .i64 (y.at_.word)]) (x := y.at_) (h := h124) (X) Enc.nil) X X X Tryz.underlying37 Tryz.info30 X X X t_kr ?_
    intro v128 w129 h132 le133 f130 st131
    refine OpsL.append (k := 3) (nb := 24) st131 (hO_12.up ((le112.trans s125.le).trans le133)) rfl f130 rfl rfl rfl Tryz.underlying37 Tryz.info30 rfl rfl rfl (by decide) rfl (by have q := List.length_filter_le (fun p => decide (headAt t (addX x d) p ≠ headAt t x p)) ((placesT t).take i); rw [List.length_take] at q; first | omega | (simp only [List.length_append, List.length_cons, List.length_nil]; omega)) (by have q := List.length_filter_le (fun p => decide (headAt t (addX x d) p ≠ headAt t x p)) ((placesT t).take i); rw [List.length_take] at q; first | omega | (simp only [List.length_append, List.length_cons, List.length_nil]; omega)) ?_
    intro v134 o135 w136 _ e137 f138 st139
    subst e137
    refine v_assign (v := v134) X X<|zj<|zz<|U<|zm<|v_add X X t_om X<|v_mvI X X<|Y ?_
    refine ⟨⟨i + 1, v134, o135, h132⟩, ⟨rfl, rfl, trivial⟩, ?_, ⟨(((le93.trans le112).trans s125.le).trans le133), st139.take 4, ?_, ?_⟩, ?_⟩
    ·exact zR
    ·refine OSl.to f138 ?_
     obtain ⟨p, hp, e1, e2⟩ := change_at hy hz
     rw [take_snoc hp, List.filter_append, List.filter_cons, if_pos (by simpa [e2] using c127), e1]; rfl
    ·first | omega | (simp; omega)
    ·show (entriesL t (addX x d)).length - ((i + 1)) < (entriesL t (addX x d)).length - i
     omega
   ·
    replace c127 := of_decide_eq_false c127
    refine zo<|zz<|U<|zm<|v_add X X t_om X<|v_mvI X X<|Y ?_
    refine ⟨⟨i + 1, v_12, o_12, h124⟩, ⟨rfl, rfl, trivial⟩, ?_, ⟨((le93.trans le112).trans s125.le), st126.take 4, ?_, ?_⟩, ?_⟩
    ·exact zR
    ·refine OSl.to (hO_12.up (le112.trans s125.le)) ?_
     obtain ⟨p, hp, e1, e2⟩ := change_at hy hz
     rw [take_snoc hp, List.filter_append, List.filter_cons, if_neg (by simpa [e2] using c127)]; simp
    ·first | omega | (simp; omega)
    ·show (entriesL t (addX x d)).length - ((i + 1)) < (entriesL t (addX x d)).length - i
     omega
  ·
   replace c98 := of_decide_eq_false c98
   refine zP<|zi<|zi<|zJ<|U<|W.sr<|v_move (v := v_12) X X<|v_assign (v := v_12) X X<|v_asI X X<|Y<|zk<|zH Tryz.results15 ?_
   obtain ⟨h140, le141, f142, st143⟩ := OSl.freeze (k := 3) st94 hO_12 rfl (by first | (rw [han]; have q := lexicon_20 hx1; have q2 := lexicon_12 hx1; omega) | (have q := List.length_filter_le (fun p => decide (headAt t (addX x d) p ≠ headAt t x p)) ((placesT t).take i); rw [List.length_take] at q; omega))
   refine ⟨h140, _, rfl, st143.done, ?_⟩
   refine ⟨_, tup2 rfl (zC ?_), Sl.to f142 ?_⟩
   ·exact hz0.symm
   ·rw [List.take_of_length_le (by omega), changesR, if_pos hz0]; rfl
end Go.Pk

namespace Go.Pk
open Go Go.RowKit Go.Proofs
end Go.Pk

namespace Go.Pk
open Go Go.RowKit Go.Proofs
set_option maxRecDepth 4000 in
theorem zae {h : Heap} {w : World} (hs : Sub h w) (chapter : Int) (line : Int) (word : Int) : Calls Tryz.prog 41 #[.int .i64 chapter, .int .i64 line, .int .i64 word] w (Rets h w (fun _ _ res_ => res_ = .agg #[.int .i64 ((Place.mk chapter line word)).chapter, .int .i64 ((Place.mk chapter line word)).line, .int .i64 ((Place.mk chapter line word)).word])) := by
 refine zx (n := 11) (args := [.int .i64 chapter, .int .i64 line, .int .i64 word]) Tryz.func41 X X X ?_
 have st0 : St h w h w [] := St.start hs
 refine W.sr<|zy st0 Tryz.zeroValue30 X X ?_
 intro b1 w2 st3
 refine Y<|W.sr<|v_mvI X X<|v_mvI X X<|v_mvI X X<|ze X X (zY (cs := [.int .i64 chapter, .int .i64 line, .int .i64 word]) t_kr)<|zq st3 (k := 0) X X X (E X (E X (E X zI))) Tryz.sizeOf30 X X X ?_
 intro w4 st5
 obtain ⟨h6, le7, hb8, st10⟩ := st5.freeze (k := 0) rfl
 have hc9 := Cells.of hb8
 refine Y<|zk<|Post.retcellF Tryz.results41 X Tryz.isAgg30 Tryz.sizeOf30 X st10.sub hc9 ?_
 refine ⟨h6, _, rfl, st10.done, ?_⟩
 refine ?_
 all_goals rfl
set_option maxRecDepth 4000 in
theorem c_postillaw04_head {h : Heap} {w : World} (hs : Sub h w) (stem_ : Str) (stem__le : stem_.length ≤ 281474976710656) (number : Int) (number_l : 0 ≤ number ∧ number ≤ 255) : Calls Tryz.prog 34 #[strV stem_, .int .u8 number] w (Rets h w (fun _ _ res_ => res_ = .agg #[strV ((Head.mk stem_ number)).stem, .int .u8 ((Head.mk stem_ number)).mark])) := by
 refine zx (n := 8) (args := [strV stem_, .int .u8 number]) Tryz.func34 X X X ?_
 have st0 : St h w h w [] := St.start hs
 refine W.sr<|zy st0 Tryz.zeroValue32 X X ?_
 intro b1 w2 st3
 refine Y<|W.sr<|v_mvS X X<|v_mvI X X<|ze X X (zY (cs := [strV stem_, .int .u8 number]) t_kr)<|zq st3 (k := 0) X X X (E X (E X zI)) Tryz.sizeOf32 X X X ?_
 intro w4 st5
 obtain ⟨h6, le7, hb8, st10⟩ := st5.freeze (k := 0) rfl
 have hc9 := Cells.of hb8
 refine Y<|zk<|Post.retcellF Tryz.results34 X Tryz.isAgg32 Tryz.sizeOf32 X st10.sub hc9 ?_
 refine ⟨h6, _, rfl, st10.done, ?_⟩
 refine ?_
 all_goals rfl
set_option maxRecDepth 4000 in
theorem zac {h : Heap} {w : World} (hs : Sub h w)  : Calls Tryz.prog 44 #[] w (Rets h w (fun h' _ res_ => ∃ u0, res_ = .agg #[u0] ∧ Sl LChapter h' u0 (textE).chapters)) := by
 refine zx (n := 10) (args := []) Tryz.func44 X X X ?_
 have st0 : St h w h w [] := St.start hs
 refine W.sr<|zy st0 Tryz.zeroValue24 X X ?_
 intro b1 w2 st3
 refine Y<|W.sr ?_
 refine zG (L := LStr) (xs := [wThe, wSea, wIs, wOld]) (cs := [strV wThe, strV wSea, strV wIs, strV wOld]) st3 (Enc.cons (L := LStr) (vs := [strV wThe]) (x := wThe) (h := h) (⟨rfl, by first | assumption | decide | omega | (simp [big]; done) | (simp [big]; omega)⟩) (Enc.cons (L := LStr) (vs := [strV wSea]) (x := wSea) (h := h) (⟨rfl, by first | assumption | decide | omega | (simp [big]; done) | (simp [big]; omega)⟩) (Enc.cons (L := LStr) (vs := [strV wIs]) (x := wIs) (h := h) (⟨rfl, by first | assumption | decide | omega | (simp [big]; done) | (simp [big]; omega)⟩) (Enc.cons (L := LStr) (vs := [strV wOld]) (x := wOld) (h := h) (⟨rfl, by first | assumption | decide | omega | (simp [big]; done) | (simp [big]; omega)⟩) Enc.nil)))) rfl rfl rfl Tryz.underlying62 Tryz.info9 rfl rfl rfl t_kr ?_
 intro v4 w5 h8 le9 f6 st7
 refine zG (L := LStr) (xs := [wOld, wThe, wSea]) (cs := [strV wOld, strV wThe, strV wSea]) st7 (Enc.cons (L := LStr) (vs := [strV wOld]) (x := wOld) (h := h8) (⟨rfl, by first | assumption | decide | omega | (simp [big]; done) | (simp [big]; omega)⟩) (Enc.cons (L := LStr) (vs := [strV wThe]) (x := wThe) (h := h8) (⟨rfl, by first | assumption | decide | omega | (simp [big]; done) | (simp [big]; omega)⟩) (Enc.cons (L := LStr) (vs := [strV wSea]) (x := wSea) (h := h8) (⟨rfl, by first | assumption | decide | omega | (simp [big]; done) | (simp [big]; omega)⟩) Enc.nil))) rfl rfl rfl Tryz.underlying62 Tryz.info9 rfl rfl rfl t_kr ?_
 intro v10 w11 h14 le15 f12 st13
 refine zG (L := (LSl LStr)) (xs := [[wThe, wSea, wIs, wOld], [wOld, wThe, wSea]]) (cs := [v4, v10]) st13 (Enc.cons (L := (LSl LStr)) (vs := [v4]) (x := [wThe, wSea, wIs, wOld]) (h := h14) (⟨_, rfl, (f6.up le15)⟩) (Enc.cons (L := (LSl LStr)) (vs := [v10]) (x := [wOld, wThe, wSea]) (h := h14) (⟨_, rfl, f12⟩) Enc.nil)) rfl rfl rfl Tryz.underlying131 Tryz.info62 rfl rfl rfl (by obtain ⟨_, _, rfl⟩ := Sl.form f6; obtain ⟨_, _, rfl⟩ := Sl.form f12; kernel_rfl) ?_
 intro v16 w17 h20 le21 f18 st19
 refine ze rfl rfl (zY (cs := [.int .i64 7, v16]) (by obtain ⟨_, _, rfl⟩ := Sl.form f18; kernel_rfl)) ?_
 refine zG (L := LStr) (xs := [wSea, wAnd, wSea]) (cs := [strV wSea, strV wAnd, strV wSea]) st19 (Enc.cons (L := LStr) (vs := [strV wSea]) (x := wSea) (h := h20) (⟨rfl, by first | assumption | decide | omega | (simp [big]; done) | (simp [big]; omega)⟩) (Enc.cons (L := LStr) (vs := [strV wAnd]) (x := wAnd) (h := h20) (⟨rfl, by first | assumption | decide | omega | (simp [big]; done) | (simp [big]; omega)⟩) (Enc.cons (L := LStr) (vs := [strV wSea]) (x := wSea) (h := h20) (⟨rfl, by first | assumption | decide | omega | (simp [big]; done) | (simp [big]; omega)⟩) Enc.nil))) rfl rfl rfl Tryz.underlying62 Tryz.info9 rfl rfl rfl t_kr ?_
 intro v22 w23 h26 le27 f24 st25
 refine zG (L := (LSl LStr)) (xs := [[wSea, wAnd, wSea]]) (cs := [v22]) st25 (Enc.cons (L := (LSl LStr)) (vs := [v22]) (x := [wSea, wAnd, wSea]) (h := h26) (⟨_, rfl, f24⟩) Enc.nil) rfl rfl rfl Tryz.underlying131 Tryz.info62 rfl rfl rfl (by obtain ⟨_, _, rfl⟩ := Sl.form f24; kernel_rfl) ?_
 intro v28 w29 h32 le33 f30 st31
 refine ze rfl rfl (zY (cs := [.int .i64 3, v28]) (by obtain ⟨_, _, rfl⟩ := Sl.form f30; kernel_rfl)) ?_
 refine zG (L := LChapter) (xs := [(Chapter.mk (7) ([[wThe, wSea, wIs, wOld], [wOld, wThe, wSea]])), (Chapter.mk (3) ([[wSea, wAnd, wSea]]))]) (cs := [.int .i64 7, v16, .int .i64 3, v28]) st31 (Enc.cons (L := LChapter) (vs := [.int .i64 7, v16]) (x := (Chapter.mk (7) ([[wThe, wSea, wIs, wOld], [wOld, wThe, wSea]]))) (h := h32) (⟨_, X, (f18.up (le27.trans le33))⟩) (Enc.cons (L := LChapter) (vs := [.int .i64 3, v28]) (x := (Chapter.mk (3) ([[wSea, wAnd, wSea]]))) (h := h32) (⟨_, X, f30⟩) Enc.nil)) X X X Tryz.underlying22 Tryz.info133 X X X t_kr ?_
 intro v34 w35 h38 le39 f36 st37
 refine ze rfl rfl (zY (cs := [v34]) (by obtain ⟨_, _, rfl⟩ := Sl.form f36; kernel_rfl)) ?_
 refine zq st37 (k := 0) X X X (E f36.one zI) Tryz.sizeOf24 X X X ?_
 intro w40 st41
 obtain ⟨h42, le43, hb44, st46⟩ := st41.freeze (k := 0) rfl
 have hc45 := Cells.of hb44
 refine Y<|zk<|Post.retcellF Tryz.results44 X Tryz.isAgg24 Tryz.sizeOf24 X st46.sub hc45 ?_
 refine ⟨h42, _, rfl, st46.done, ?_⟩
 refine ⟨_, ?_, Sl.to (f36.up le43) ?_⟩
 all_goals rfl
set_option maxRecDepth 4000 in
theorem c_postillaw04_four {h : Heap} {w : World} (hs : Sub h w)  : Calls Tryz.prog 46 #[] w (Rets h w (fun _ _ res_ => res_ = .agg #[.int .i64 (d4E).number, .int .u8 (d4E).kind, strV (d4E).form, .int .i64 (d4E).at_.chapter, .int .i64 (d4E).at_.line, .int .i64 (d4E).at_.word, strV (d4E).to.stem, .int .u8 (d4E).to.mark, .int .i64 (d4E).of_])) := by
 refine zx (n := 3) (args := []) Tryz.func46 X X X ?_
 have st0 : St h w h w [] := St.start hs
 refine W.sr<|zy st0 Tryz.zeroValue34 X X ?_
 intro b1 w2 st3
 refine Y<|W.sr ?_
 refine za st3 rfl rfl rfl Tryz.call34 rfl (c_postillaw04_head st3.sub _ (by first | assumption | decide | omega | (simp [big]; done) | (simp [big]; omega)) _ (by omega)) ?_
 intro r4 w5 h6 le7 st8 q9
 obtain rfl := q9
 refine ze X X (zY (cs := [.int .i64 4, .int .u8 1, strV wSea, .int .i64 0, .int .i64 0, .int .i64 0, strV ((Head.mk (wSee) (2)).stem), .int .u8 ((Head.mk (wSee) (2)).mark), .int .i64 0]) t_kr)<|zq st8 (k := 0) X X X (E X (E X (E X (E X (E X (E X (E X (E X (E X zI))))))))) Tryz.sizeOf34 X X X ?_
 intro w10 st11
 obtain ⟨h12, le13, hb14, st16⟩ := st11.freeze (k := 0) rfl
 have hc15 := Cells.of hb14
 refine Y<|zk<|Post.retcellF Tryz.results46 X Tryz.isAgg34 Tryz.sizeOf34 X st16.sub hc15 ?_
 refine ⟨h12, _, rfl, st16.done, ?_⟩
 refine ?_
 all_goals rfl
set_option maxRecDepth 4000 in
theorem c_postillaw04_five {h : Heap} {w : World} (hs : Sub h w)  : Calls Tryz.prog 42 #[] w (Rets h w (fun _ _ res_ => res_ = .agg #[.int .i64 (d5E).number, .int .u8 (d5E).kind, strV (d5E).form, .int .i64 (d5E).at_.chapter, .int .i64 (d5E).at_.line, .int .i64 (d5E).at_.word, strV (d5E).to.stem, .int .u8 (d5E).to.mark, .int .i64 (d5E).of_])) := by
 refine zx (n := 2) (args := []) Tryz.func42 X X X ?_
 have st0 : St h w h w [] := St.start hs
 refine W.sr<|zy st0 Tryz.zeroValue34 X X ?_
 intro b1 w2 st3
 refine Y<|W.sr<|ze X X (zY (cs := [.int .i64 5, .int .u8 4, strV [], .int .i64 0, .int .i64 0, .int .i64 0, strV [], .int .u8 0, .int .i64 3]) t_kr)<|zq st3 (k := 0) X X X (E X (E X (E X (E X (E X (E X (E X (E X (E X zI))))))))) Tryz.sizeOf34 X X X ?_
 intro w4 st5
 obtain ⟨h6, le7, hb8, st10⟩ := st5.freeze (k := 0) rfl
 have hc9 := Cells.of hb8
 refine Y<|zk<|Post.retcellF Tryz.results42 X Tryz.isAgg34 Tryz.sizeOf34 X st10.sub hc9 ?_
 refine ⟨h6, _, rfl, st10.done, ?_⟩
 refine ?_
 all_goals rfl
set_option maxRecDepth 4000 in
theorem zU {h : Heap} {w : World} (hs : Sub h w) {more_v : Value} {more : (List Decision)} (more_f : Sl LDecision h more_v more) (hl : more.length ≤ 1000) : Calls Tryz.prog 40 #[more_v] w (Rets h w (fun h' _ res_ => ∃ u0 u1, res_ = .agg #[u0, u1] ∧ Sl LRule h' u0 ((lexE more)).rules ∧ Sl LDecision h' u1 ((lexE more)).decisions)) := by
 refine zx (n := 18) (args := [more_v]) Tryz.func40 X X X ?_
 have st0 : St h w h w [] := St.start hs
 have more_f_b := more_f.le
 refine W.sr<|zy st0 Tryz.zeroValue28 X X ?_
 intro b1 w2 st3
 refine Y<|W.sr<|ze X X (zY (cs := [strV ([115] : Str), strV [], .int .i64 2]) t_kr)<|ze X X (zY (cs := [strV ([108, 100] : Str), strV ([108, 100, 101] : Str), .int .i64 1]) t_kr) ?_
 refine zG (L := LRule) (xs := [({ zRule with cut := ([115] : Str), least := 2 } : Rule), (Rule.mk (([108, 100] : Str)) (([108, 100, 101] : Str)) (1))]) (cs := [strV ([115] : Str), strV [], .int .i64 2, strV ([108, 100] : Str), strV ([108, 100, 101] : Str), .int .i64 1]) st3 (Enc.cons (L := LRule) (vs := [strV ([115] : Str), strV [], .int .i64 2]) (x := ({ zRule with cut := ([115] : Str), least := 2 } : Rule)) (h := h) (⟨rfl, by first | assumption | decide | omega | (simp [big]; done) | (simp [big]; omega), by first | assumption | decide | omega | (simp [big]; done) | (simp [big]; omega)⟩) (Enc.cons (L := LRule) (vs := [strV ([108, 100] : Str), strV ([108, 100, 101] : Str), .int .i64 1]) (x := (Rule.mk (([108, 100] : Str)) (([108, 100, 101] : Str)) (1))) (h := h) (⟨rfl, by first | assumption | decide | omega | (simp [big]; done) | (simp [big]; omega), by first | assumption | decide | omega | (simp [big]; done) | (simp [big]; omega)⟩) Enc.nil)) rfl rfl rfl Tryz.underlying25 Tryz.info70 rfl rfl rfl t_kr ?_
 intro v4 w5 h8 le9 f6 st7
 refine za st7 rfl rfl rfl Tryz.call34 rfl (c_postillaw04_head st7.sub _ (by first | assumption | decide | omega | (simp [big]; done) | (simp [big]; omega)) _ (by omega)) ?_
 intro r10 w11 h12 le13 st14 q15
 obtain rfl := q15
 refine ze X X (zY (cs := [.int .i64 1, .int .u8 1, strV wSea, .int .i64 0, .int .i64 0, .int .i64 0, strV ((Head.mk (wSea) (1)).stem), .int .u8 ((Head.mk (wSea) (1)).mark), .int .i64 0]) t_kr)<|za st14 X X X Tryz.call41 X (zae st14.sub _ _ _) ?_
 intro r16 w17 h18 le19 st20 q21
 obtain rfl := q21
 refine za st20 rfl rfl rfl Tryz.call34 rfl (c_postillaw04_head st20.sub _ (by first | assumption | decide | omega | (simp [big]; done) | (simp [big]; omega)) _ (by omega)) ?_
 intro r22 w23 h24 le25 st26 q27
 obtain rfl := q27
 refine ze X X (zY (cs := [.int .i64 2, .int .u8 2, strV wOld, .int .i64 ((Place.mk (0) (1) (0)).chapter), .int .i64 ((Place.mk (0) (1) (0)).line), .int .i64 ((Place.mk (0) (1) (0)).word), strV ((Head.mk (wAge) (3)).stem), .int .u8 ((Head.mk (wAge) (3)).mark), .int .i64 0]) t_kr)<|za st26 X X X Tryz.call41 X (zae st26.sub _ _ _) ?_
 intro r28 w29 h30 le31 st32 q33
 obtain rfl := q33
 refine za st32 rfl rfl rfl Tryz.call34 rfl (c_postillaw04_head st32.sub _ (by first | assumption | decide | omega | (simp [big]; done) | (simp [big]; omega)) _ (by omega)) ?_
 intro r34 w35 h36 le37 st38 q39
 obtain rfl := q39
 refine ze X X (zY (cs := [.int .i64 3, .int .u8 3, strV [], .int .i64 ((Place.mk (1) (0) (2)).chapter), .int .i64 ((Place.mk (1) (0) (2)).line), .int .i64 ((Place.mk (1) (0) (2)).word), strV ((Head.mk (wSee) (2)).stem), .int .u8 ((Head.mk (wSee) (2)).mark), .int .i64 0]) t_kr) ?_
 refine OpsL.sliceO (L := LDecision) (xs := [({ zDecision with number := 1, kind := 1, form := wSea, to := (Head.mk (wSea) (1)) } : Decision), ({ zDecision with number := 2, kind := 2, form := wOld, at_ := (Place.mk (0) (1) (0)), to := (Head.mk (wAge) (3)) } : Decision), ({ zDecision with number := 3, kind := 3, at_ := (Place.mk (1) (0) (2)), to := (Head.mk (wSee) (2)) } : Decision)]) (cs := [.int .i64 1, .int .u8 1, strV wSea, .int .i64 0, .int .i64 0, .int .i64 0, strV ((Head.mk (wSea) (1)).stem), .int .u8 ((Head.mk (wSea) (1)).mark), .int .i64 0, .int .i64 2, .int .u8 2, strV wOld, .int .i64 ((Place.mk (0) (1) (0)).chapter), .int .i64 ((Place.mk (0) (1) (0)).line), .int .i64 ((Place.mk (0) (1) (0)).word), strV ((Head.mk (wAge) (3)).stem), .int .u8 ((Head.mk (wAge) (3)).mark), .int .i64 0, .int .i64 3, .int .u8 3, strV [], .int .i64 ((Place.mk (1) (0) (2)).chapter), .int .i64 ((Place.mk (1) (0) (2)).line), .int .i64 ((Place.mk (1) (0) (2)).word), strV ((Head.mk (wSee) (2)).stem), .int .u8 ((Head.mk (wSee) (2)).mark), .int .i64 0]) st38 (Enc.cons (L := LDecision) (vs := [.int .i64 1, .int .u8 1, strV wSea, .int .i64 0, .int .i64 0, .int .i64 0, strV ((Head.mk (wSea) (1)).stem), .int .u8 ((Head.mk (wSea) (1)).mark), .int .i64 0]) (x := ({ zDecision with number := 1, kind := 1, form := wSea, to := (Head.mk (wSea) (1)) } : Decision)) (h := h36) (⟨rfl, t_u8, by first | assumption | decide | omega | (simp [big]; done) | (simp [big]; omega), by first | assumption | decide | omega | (simp [big]; done) | (simp [big]; omega), t_u8⟩) (Enc.cons (L := LDecision) (vs := [.int .i64 2, .int .u8 2, strV wOld, .int .i64 ((Place.mk (0) (1) (0)).chapter), .int .i64 ((Place.mk (0) (1) (0)).line), .int .i64 ((Place.mk (0) (1) (0)).word), strV ((Head.mk (wAge) (3)).stem), .int .u8 ((Head.mk (wAge) (3)).mark), .int .i64 0]) (x := ({ zDecision with number := 2, kind := 2, form := wOld, at_ := (Place.mk (0) (1) (0)), to := (Head.mk (wAge) (3)) } : Decision)) (h := h36) (⟨rfl, t_u8, by first | assumption | decide | omega | (simp [big]; done) | (simp [big]; omega), by first | assumption | decide | omega | (simp [big]; done) | (simp [big]; omega), t_u8⟩) (Enc.cons (L := LDecision) (vs := [.int .i64 3, .int .u8 3, strV [], .int .i64 ((Place.mk (1) (0) (2)).chapter), .int .i64 ((Place.mk (1) (0) (2)).line), .int .i64 ((Place.mk (1) (0) (2)).word), strV ((Head.mk (wSee) (2)).stem), .int .u8 ((Head.mk (wSee) (2)).mark), .int .i64 0]) (x := ({ zDecision with number := 3, kind := 3, at_ := (Place.mk (1) (0) (2)), to := (Head.mk (wSee) (2)) } : Decision)) (h := h36) (⟨rfl, t_u8, by first | assumption | decide | omega | (simp [big]; done) | (simp [big]; omega), by first | assumption | decide | omega | (simp [big]; done) | (simp [big]; omega), t_u8⟩) Enc.nil))) rfl rfl rfl Tryz.underlying26 Tryz.info34 rfl rfl rfl rfl t_kr ?_
 intro v40 o44 w41 f42 st43
 refine v_move (v := more_v) X X ?_
 refine OpsL.append (k := 1) (nb := 88) st43 f42 rfl (more_f.up (((((le9.trans le13).trans le19).trans le25).trans le31).trans le37)) rfl rfl rfl Tryz.underlying26 Tryz.info34 rfl rfl rfl (by decide) rfl (by simp only [List.length_append, List.length_cons, List.length_nil]; omega) (by simp only [List.length_append, List.length_cons, List.length_nil]; omega) ?_
 intro v45 o46 w47 _ e48 f49 st50
 subst e48
 refine ze rfl rfl (zY (cs := [v4, v45]) (by obtain ⟨_, _, rfl⟩ := Sl.form f6; obtain ⟨_, _, rfl⟩ := OSl.form f49; kernel_rfl)) ?_
 refine zq st50 (k := 0) X X X (E f6.one (E f49.one zI)) Tryz.sizeOf28 X X X ?_
 intro w51 st52
 obtain ⟨h53, le54, hb55, st57⟩ := st52.freeze (k := 0) rfl
 have hc56 := Cells.of hb55
 refine Y<|zk<|Post.retcellF Tryz.results40 X Tryz.isAgg28 Tryz.sizeOf28 X st57.sub hc56 ?_
 obtain ⟨h58, le59, f60, st61⟩ := OSl.freeze (k := 1) st57 (f49.up le54) rfl (by simp only [List.length_append, List.length_cons, List.length_nil]; omega)
 refine ⟨h58, _, rfl, st61.done, ?_⟩
 refine ⟨_, _, ?_, Sl.to (f6.up ((((((le13.trans le19).trans le25).trans le31).trans le37).trans le54).trans le59)) ?_, Sl.to f60 ?_⟩
 all_goals rfl
end Go.Pk

namespace Go.Pk
open Go Go.RowKit Go.Proofs
set_option maxRecDepth 4000 in
theorem c_postillaw04_ready {h : Heap} {w : World} (hs : Sub h w) {t : Text} {t_v0 : Value} (t_f0 : Sl LChapter h t_v0 t.chapters) {x : Lexicon} {x_v0 : Value} (x_f0 : Sl LRule h x_v0 x.rules) {x_v1 : Value} (x_f1 : Sl LDecision h x_v1 x.decisions) : Calls Tryz.prog 14 #[.agg #[t_v0], .agg #[x_v0, x_v1]] w (Rets h w (fun _ _ res_ => res_ = .bool ((smallT t && smallX x && decide (checkN t x = 0))))) := by
 refine zx (n := 19) (args := [.agg #[t_v0], .agg #[x_v0, x_v1]]) Tryz.func14 X X X ?_
 have st0 : St h w h w [] := St.start hs
 have t_f0_b := t_f0.le
 have x_f0_b := x_f0.le
 have x_f1_b := x_f1.le
 refine W.sr<|zl st0 (cs := [t_v0]) X X X ?_
 intro b1 w2 h3 le4 hc5 st6
 refine zl st6 (cs := [x_v0, x_v1]) X X X ?_
 intro b7 w8 h9 le10 hc11 st12
 refine v_asB X X<|Y<|W.sr<|v_load_call st12.sub (hc5.up le10) X Tryz.isAgg24 Tryz.sizeOf24 X X<|za st12 X X X Tryz.call58 X (c_postilref01_Great st12.sub (t := t) (t_f0.up (le4.trans le10))) ?_
 intro r13 w14 h15 le16 st17 q18
 obtain rfl := q18
 refine v_not X X<|v_mvB X X ?_
 refine zp (d := 8) rfl (fun g19 => ?_) (fun g19 => ?_)
 ·
  refine Z X X (d := 8) X<|v_load_call st17.sub (hc11.up le16) X Tryz.isAgg28 Tryz.sizeOf28 X X<|Z X X (d := 8) X<|za st17 X X X Tryz.call59 X (c_postilref04_Great st17.sub (x := x) (x_f0.up ((le4.trans le10).trans le16)) (x_f1.up ((le4.trans le10).trans le16))) ?_
  intro r20 w21 h22 le23 st24 q25
  obtain rfl := q25
  refine Z X X (d := 8) X<|v_not X X<|v_pickT (v := (.bool _)) X X X<|v_mvB X X ?_
  refine zp (d := 13) rfl (fun g26 => ?_) (fun g26 => ?_)
  ·
   refine Z X X (d := 13) X<|v_load_call st24.sub (hc5.up ((le10.trans le16).trans le23)) X Tryz.isAgg24 Tryz.sizeOf24 X X<|Z X X (d := 13) X<|v_load_call st24.sub (hc11.up (le16.trans le23)) X Tryz.isAgg28 Tryz.sizeOf28 X X<|Z X X (d := 13) X<|za st24 X X X Tryz.call60 X (c_postilref04_Check st24.sub (t := t) (t_f0.up (((le4.trans le10).trans le16).trans le23)) (x := x) (x_f0.up (((le4.trans le10).trans le16).trans le23)) (x_f1.up (((le4.trans le10).trans le16).trans le23))) ?_
   intro r27 w28 h29 le30 st31 q32
   obtain rfl := q32
   refine Z X X (d := 13) X<|v_eql X X X<|v_pickT (v := (.bool _)) X X X<|v_asB X X<|Y<|zk<|O Tryz.results14 ?_
   refine ⟨h29, _, rfl, st31.done, ?_⟩
   refine zn ?_
   simp_all
  ·
   refine M X X X X X<|M X X X X X<|M X X X X X<|M X X X X X<|v_pickF (v := (.bool _)) X X X<|v_asB X X<|Y<|zk<|O Tryz.results14 ?_
   refine ⟨h22, _, rfl, st24.done, ?_⟩
   refine zn ?_
   simp_all
 ·
  refine M X X X X X<|M X X X X X<|M X X X X X<|v_pickF (v := (.bool _)) X X X<|v_mvB X X<|M X X X X X<|M X X X X X<|M X X X X X<|M X X X X X<|v_pickF (v := (.bool _)) X X X<|v_asB X X<|Y<|zk<|O Tryz.results14 ?_
  refine ⟨h15, _, rfl, st17.done, ?_⟩
  refine zn ?_
  simp_all
set_option maxRecDepth 4000 in
theorem c_postillaw04_steps {h : Heap} {w : World} (hs : Sub h w) (word : Str) (word_le : word.length ≤ 281474976710656) {want_v : Value} {want : (List Str)} (want_f : Sl LStr h want_v want) (K0 : Cells h 0 0 Tryz.glob0) : Calls Tryz.prog 38 #[strV word, want_v] w (Rets h w (fun _ _ res_ => res_ = .bool ((decide (stepsE textE (lexE []) word = 0) && decide (stepsR textE (lexE []) word = want))))) := by
 refine zx (n := 21) (args := [strV word, want_v]) Tryz.func38 X X X ?_
 have st0 : St h w h w [] := St.start hs
 have want_f_b := want_f.le
 refine W.sr<|v_asB X X<|Y<|W.sr<|za st0 X X X Tryz.call44 X (zac st0.sub ) ?_
 intro r1 w2 h3 le4 st5 q6
 obtain ⟨v7, rfl, f8⟩ := q6
 have f8_b := f8.le
 refine za st5 rfl rfl rfl Tryz.call40 rfl (zU st5.sub (Sl.nil _ _) (by decide)) ?_
 intro r9 w10 h11 le12 st13 q14
 obtain ⟨v15, v17, rfl, f16, f18⟩ := q14
 have f16_b := f16.le
 have f18_b := f18.le
 refine v_mvS X X ?_
 refine za st13 rfl rfl rfl Tryz.call31 rfl (c_stem_Steps st13.sub (t := textE) (f8.up le12) (x := (lexE ([]))) f16 f18 _ (by first | assumption | decide | omega | (simp [big]; done) | (simp [big]; omega)) (K0.up (le4.trans le12))) ?_
 intro r19 w20 h21 le22 st23 q24
 obtain ⟨v25, rfl, f26⟩ := q24
 have f26_b := f26.le
 refine v_mvT X X<|v_extract (v := v25) X X X<|v_extract (v := (.int _ _)) X X X<|v_assign (v := v25) X X<|v_asI X X<|Y<|W.sr<|v_mvI X X<|v_eql X X X<|v_mvB X X ?_
 refine zp (d := 16) rfl (fun g27 => ?_) (fun g27 => ?_)
 ·
  replace g27 := of_decide_eq_true g27
  refine Z X X (d := 16) X<|v_move (v := v25) X X<|Z X X (d := 16) X<|v_move (v := want_v) X X<|Z X X (d := 16) X<|za st23 X X X Tryz.call29 X (c_postilref01_SameWords st23.sub f26 (want_f.up ((le4.trans le12).trans le22))) ?_
  intro r28 w29 h30 le31 st32 q33
  obtain rfl := q33
  refine v_pickT (v := (.bool _)) X X X<|v_asB X X<|Y<|zk<|O Tryz.results38 ?_
  refine ⟨h30, _, rfl, st32.done, ?_⟩
  refine zn ?_
  simp_all
 ·
  replace g27 := of_decide_eq_false g27
  refine M X X X X X<|M X X X X X<|M X X X X X<|v_pickF (v := (.bool _)) X X X<|v_asB X X<|Y<|zk<|O Tryz.results38 ?_
  refine ⟨h21, _, rfl, st23.done, ?_⟩
  refine zn ?_
  simp_all
set_option maxRecDepth 4000 in
theorem c_postillaw04_is {h : Heap} {w : World} (hs : Sub h w) {x : Lexicon} {x_v0 : Value} (x_f0 : Sl LRule h x_v0 x.rules) {x_v1 : Value} (x_f1 : Sl LDecision h x_v1 x.decisions) {p : Place} {hd : Head} (hd_l1 : hd.stem.length ≤ 281474976710656) (hd_l2 : 0 ≤ hd.mark ∧ hd.mark ≤ 255) (by_ : Int) (K0 : Cells h 0 0 Tryz.glob0) : Calls Tryz.prog 39 #[.agg #[x_v0, x_v1], .agg #[.int .i64 p.chapter, .int .i64 p.line, .int .i64 p.word], .agg #[strV hd.stem, .int .u8 hd.mark], .int .i64 by_] w (Rets h w (fun _ _ res_ => res_ = .bool ((decide (askE textE x p = 0) && decide ((askR textE x p).to = hd) && decide ((askR textE x p).number = by_))))) := by
 refine zx (n := 43) (args := [.agg #[x_v0, x_v1], .agg #[.int .i64 p.chapter, .int .i64 p.line, .int .i64 p.word], .agg #[strV hd.stem, .int .u8 hd.mark], .int .i64 by_]) Tryz.func39 X X X ?_
 have st0 : St h w h w [] := St.start hs
 have x_f0_b := x_f0.le
 have x_f1_b := x_f1.le
 refine W.sr<|zl st0 (cs := [x_v0, x_v1]) X X X ?_
 intro b1 w2 h3 le4 hc5 st6
 refine zl st6 (cs := [.int .i64 (p.chapter), .int .i64 (p.line), .int .i64 (p.word)]) X X X ?_
 intro b7 w8 h9 le10 hc11 st12
 refine zl st12 (cs := [strV (hd.stem), .int .u8 (hd.mark)]) X X X ?_
 intro b13 w14 h15 le16 hc17 st18
 refine v_asB X X<|Y<|zg<|zZ (er := ([], [], [], [], 0)) (dsts := [14, 15, 16, 17, 13, 18, 19, 9, 10]) st18 Tryz.mixed ?_
 refine zF 0 (.res (fun h' res_ => ∃ gv0_0, res_ = .agg #[gv0_0] ∧ Sl LChapter h' gv0_0 textE.chapters) (by rintro _ _ _ hl ⟨gv0_0, e_, gf0_0⟩; exact ⟨gv0_0, e_, gf0_0.up hl⟩)) [] rfl t_kr t_kr ?_ ?_
 ·
  intro hD wD τD hL hS hO 
  have st19 := St.start hS
  refine za st19 X X X Tryz.call44 X (zac st19.sub ) ?_
  intro r20 w21 h22 le23 st24 q25
  obtain ⟨v26, rfl, f27⟩ := q25
  have f27_b := f27.le
  exact zj ⟨_, _, rfl, st24, _, rfl, ⟨_, rfl, f27⟩⟩
 refine zc 1 [] X t_kr t_kr X X (fun hD wD τD hL hS hO  => (zB (hL.sub hS) (hc5.up (le10.trans le16)) X Tryz.isAgg28 Tryz.sizeOf28 X))<|zc 2 [] X t_kr t_kr X X (fun hD wD τD hL hS hO  => (zB (hL.sub hS) (hc11.up le16) X Tryz.isAgg30 Tryz.sizeOf30 X)) ?_
 refine zF 3 (.det (.tuple #[.agg (List.toArray [strV ((askR (textE) (x) (p)).to.stem), .int .u8 ((askR (textE) (x) (p)).to.mark)]), .int .i64 (askE (textE) (x) (p))])) [1, 0, 2] rfl t_kr t_kr ?_ ?_
 ·
  intro hD wD τD hL hS hO _ _ _ _ gv0_ gf0_
  obtain ⟨gv0_0, rfl, gf0_0⟩ := gf0_
  have st28 := St.start hS
  refine za st28 X X X Tryz.call33 X (c_stem_HeadOf st28.sub (t := textE) gf0_0 (x := x) (x_f0.up (((le4.trans le10).trans le16).trans hL)) (x_f1.up (((le4.trans le10).trans le16).trans hL)) (p := p) (K0.up (((le4.trans le10).trans le16).trans hL))) ?_
  intro r29 w30 h31 le32 st33 q34
  obtain rfl := q34
  exact zj ⟨_, _, rfl, st33, (), rfl, trivial⟩
 refine zc 4 [0] X t_kr t_kr X X (fun hD wD τD hL hS hO _ _ => (r_mvT X))<|zc 5 [0] X t_kr t_kr X X (fun hD wD τD hL hS hO _ _ => (r_extract (v := (.agg (List.toArray _))) X X))<|zc 6 [1] X t_kr t_kr X X (fun hD wD τD hL hS hO _ _ => (r_extract (v := (.int _ _)) X X))<|Drw.al Tryz.zeroValue32 X<|Drw.ch<|zc 9 [8, 7, 6, 5, 4, 3, 2, 1, 0] X t_kr t_kr X X (fun hD wD τD hL hS hO gv0_ gf0_ _ _ _ _ _ _ _ _ _ _ _ _ => (r_asI X))<|Drw.nil X X X X X X ⟨t_kr, X, t_kr, X, t_kr, X, X, t_kr, (zaf X cx_nil)⟩ ?_
 intro b35
 intro hE37 w38 _ le39 st40 gv0_x36 gf0_x36 _ _ _ _ _ _ _ _ _ _
 obtain ⟨gv0_0x36, rfl, gf0_0x36⟩ := gf0_x36
 refine zq st40 (k := 0) X X X (E X (E X zI)) Tryz.sizeOf32 X X X ?_
 intro w41 st42
 obtain ⟨h43, le44, hb45, st47⟩ := st42.freeze (k := 0) rfl
 have hc46 := Cells.of hb45
 refine zj ⟨undef, rfl, _, _, le44, st47, ?_⟩
 intro hE48 w49 _ le50 st51 gv0_x52 gf0_x52 _ _ _ _ _ _ _ _ _ _ _ _ _ _
 obtain ⟨gv0_0x52, rfl, gf0_0x52⟩ := gf0_x52
 refine AllDeps.fin X<|U<|zg<|zZ (er := ([], [], [], [], 0)) (dsts := [21, 22, 23, 24, 20, 25, 26, 11, 12]) st51 Tryz.mixed ?_
 refine zF 0 (.res (fun h' res_ => ∃ gv0_0, res_ = .agg #[gv0_0] ∧ Sl LChapter h' gv0_0 textE.chapters) (by rintro _ _ _ hl ⟨gv0_0, e_, gf0_0⟩; exact ⟨gv0_0, e_, gf0_0.up hl⟩)) [] rfl t_kr t_kr ?_ ?_
 ·
  intro hD wD τD hL hS hO 
  have st53 := St.start hS
  refine za st53 X X X Tryz.call44 X (zac st53.sub ) ?_
  intro r54 w55 h56 le57 st58 q59
  obtain ⟨v60, rfl, f61⟩ := q59
  have f61_b := f61.le
  exact zj ⟨_, _, rfl, st58, _, rfl, ⟨_, rfl, f61⟩⟩
 refine zc 1 [] X t_kr t_kr X X (fun hD wD τD hL hS hO  => (zB (hL.sub hS) (hc5.up ((((le10.trans le16).trans le39).trans le44).trans le50)) X Tryz.isAgg28 Tryz.sizeOf28 X))<|zc 2 [] X t_kr t_kr X X (fun hD wD τD hL hS hO  => (zB (hL.sub hS) (hc11.up (((le16.trans le39).trans le44).trans le50)) X Tryz.isAgg30 Tryz.sizeOf30 X)) ?_
 refine zF 3 (.det (.tuple #[.int .i64 ((askR (textE) (x) (p)).number), .int .i64 (askE (textE) (x) (p))])) [1, 0, 2] rfl t_kr t_kr ?_ ?_
 ·
  intro hD wD τD hL hS hO _ _ _ _ gv0_ gf0_
  obtain ⟨gv0_0, rfl, gf0_0⟩ := gf0_
  have st62 := St.start hS
  refine za st62 X X X Tryz.call22 X (c_stem_By st62.sub (t := textE) gf0_0 (x := x) (x_f0.up ((((((le4.trans le10).trans le16).trans le39).trans le44).trans le50).trans hL)) (x_f1.up ((((((le4.trans le10).trans le16).trans le39).trans le44).trans le50).trans hL)) (p := p) (K0.up ((((((le4.trans le10).trans le16).trans le39).trans le44).trans le50).trans hL))) ?_
  intro r63 w64 h65 le66 st67 q68
  obtain rfl := q68
  exact zj ⟨_, _, rfl, st67, (), rfl, trivial⟩
 refine zc 4 [0] X t_kr t_kr X X (fun hD wD τD hL hS hO _ _ => (r_mvT X))<|zc 5 [0] X t_kr t_kr X X (fun hD wD τD hL hS hO _ _ => (r_extract (v := (.int _ _)) X X))<|zc 6 [1] X t_kr t_kr X X (fun hD wD τD hL hS hO _ _ => (r_extract (v := (.int _ _)) X X))<|zc 7 [6, 5, 4, 3, 2, 1] X t_kr t_kr X X (fun hD wD τD hL hS hO gv0_ gf0_ _ _ _ _ _ _ _ _ _ _ => (r_asI X))<|zc 8 [7, 6, 5, 4, 3, 2, 1, 0] X t_kr t_kr X X (fun hD wD τD hL hS hO gv0_ gf0_ _ _ _ _ _ _ _ _ _ _ _ _ _ _ => (r_asI X))<|Drw.nil X X X X X X ⟨t_kr, X, t_kr, X, t_kr, X, X, t_kr, cx_nil⟩ ?_
 intro hE69 w70 _ le71 st72 gv0_x73 gf0_x73 _ _ _ _ _ _ _ _ _ _ _ _ _ _ _ _
 obtain ⟨gv0_0x73, rfl, gf0_0x73⟩ := gf0_x73
 refine AllDeps.fin X<|U<|W.sr<|v_mvI X X<|v_eql X X X<|v_mvB X X ?_
 refine zp (d := 29) rfl (fun g74 => ?_) (fun g74 => ?_)
 ·
  replace g74 := of_decide_eq_true g74
  refine Z X X (d := 29) X<|v_load_call st72.sub (hc46.up (le50.trans le71)) X Tryz.isAgg32 Tryz.sizeOf32 X X<|Z X X (d := 29) X<|v_load_call st72.sub (hc17.up (((le39.trans le44).trans le50).trans le71)) X Tryz.isAgg32 Tryz.sizeOf32 X X<|Z X X (d := 29) X<|ze X X (r_steql X X Tryz.eqGuardType32 (Tryz.eq_Head (askR (textE) (x) (p)).to hd))<|v_pickT (v := (.bool _)) X X X<|v_mvB X X ?_
  refine zp (d := 34) rfl (fun g75 => ?_) (fun g75 => ?_)
  ·
   replace g75 := of_decide_eq_true g75
   refine Z X X (d := 34) X<|v_mvI X X<|Z X X (d := 34) X<|v_eql X X X<|v_pickT (v := (.bool _)) X X X<|v_mvB X X ?_
   refine zp (d := 38) rfl (fun g76 => ?_) (fun g76 => ?_)
   ·
    replace g76 := of_decide_eq_true g76
    refine Z X X (d := 38) X<|v_mvI X X<|Z X X (d := 38) X<|v_mvI X X<|Z X X (d := 38) X<|v_eql X X X<|v_pickT (v := (.bool _)) X X X<|v_asB X X<|Y<|zk<|O Tryz.results39 ?_
    refine ⟨hE69, _, rfl, st72.done, ?_⟩
    refine zn ?_
    simp_all
   ·
    replace g76 := of_decide_eq_false g76
    refine M X X X X X<|M X X X X X<|M X X X X X<|v_pickF (v := (.bool _)) X X X<|v_asB X X<|Y<|zk<|O Tryz.results39 ?_
    refine ⟨hE69, _, rfl, st72.done, ?_⟩
    refine zn ?_
    simp_all
  ·
   replace g75 := of_decide_eq_false g75
   refine M X X X X X<|M X X X X X<|v_pickF (v := (.bool _)) X X X<|v_mvB X X<|M X X X X X<|M X X X X X<|M X X X X X<|v_pickF (v := (.bool _)) X X X<|v_asB X X<|Y<|zk<|O Tryz.results39 ?_
   refine ⟨hE69, _, rfl, st72.done, ?_⟩
   refine zn ?_
   simp_all
 ·
  replace g74 := of_decide_eq_false g74
  refine M X X X X X<|M X X X X X<|M X X X X X<|v_pickF (v := (.bool _)) X X X<|v_mvB X X<|M X X X X X<|M X X X X X<|v_pickF (v := (.bool _)) X X X<|v_mvB X X<|M X X X X X<|M X X X X X<|M X X X X X<|v_pickF (v := (.bool _)) X X X<|v_asB X X<|Y<|zk<|O Tryz.results39 ?_
  refine ⟨hE69, _, rfl, st72.done, ?_⟩
  refine zn ?_
  simp_all
end Go.Pk

namespace Go.Pk
open Go Go.RowKit Go.Proofs
set_option maxRecDepth 4000 in
set_option maxHeartbeats 4000000 in
theorem c_postillaw04_alive {h : Heap} {w : World} (hs : Sub h w) (K0 : Cells h 0 0 Tryz.glob0) : Calls Tryz.prog 13 #[] w (Rets h w (fun _ _ res_ => res_ = .bool (true))) := by
 refine zx (n := 146) (args := []) Tryz.func13 X X X ?_
 have st0 : St h w h w [] := St.start hs
 refine W.sr<|v_asB X X<|Y<|W.sr<|za st0 X X X Tryz.call44 X (zac st0.sub ) ?_
 intro r1 w2 h3 le4 st5 q6
 obtain ⟨v7, rfl, f8⟩ := q6
 have f8_b := f8.le
 refine za st5 rfl rfl rfl Tryz.call40 rfl (zU st5.sub (Sl.nil _ _) (by decide)) ?_
 intro r9 w10 h11 le12 st13 q14
 obtain ⟨v15, v17, rfl, f16, f18⟩ := q14
 have f16_b := f16.le
 have f18_b := f18.le
 refine za st13 rfl rfl rfl Tryz.call34 rfl (c_postillaw04_head st13.sub _ (by first | assumption | decide | omega | (simp [big]; done) | (simp [big]; omega)) _ (by omega)) ?_
 intro r19 w20 h21 le22 st23 q24
 obtain rfl := q24
 refine za st23 rfl rfl rfl Tryz.call47 rfl (c_stem_Under st23.sub (t := textE) (f8.up (le12.trans le22)) (x := (lexE ([]))) (f16.up le22) (f18.up le22) (hd := (Head.mk (wSea) (1))) (by first | assumption | decide | omega | (simp [big]; done) | (simp [big]; omega)) t_u8 (K0.up ((le4.trans le12).trans le22))) ?_
 intro r25 w26 h27 le28 st29 q30
 obtain ⟨v31, rfl, f32⟩ := q30
 have f32_b := f32.le
 refine v_mvT X X<|v_extract (v := v31) X X X<|v_extract (v := (.int _ _)) X X X<|v_assign (v := v31) X X<|v_asI X X<|Y<|W.sr<|za st29 X X X Tryz.call44 X (zac st29.sub ) ?_
 intro r33 w34 h35 le36 st37 q38
 obtain ⟨v39, rfl, f40⟩ := q38
 have f40_b := f40.le
 refine za st37 rfl rfl rfl Tryz.call40 rfl (zU st37.sub (Sl.nil _ _) (by decide)) ?_
 intro r41 w42 h43 le44 st45 q46
 obtain ⟨v47, v49, rfl, f48, f50⟩ := q46
 have f48_b := f48.le
 have f50_b := f50.le
 refine za st45 X X X Tryz.call28 X (c_stem_Homographs st45.sub (t := textE) (f40.up le44) (x := (lexE ([]))) f48 f50 (K0.up (((((le4.trans le12).trans le22).trans le28).trans le36).trans le44))) ?_
 intro r51 w52 h53 le54 st55 q56
 obtain ⟨v57, rfl, f58⟩ := q56
 have f58_b := f58.le
 refine v_mvT X X<|v_extract (v := v57) X X X<|v_extract (v := (.int _ _)) X X X<|v_assign (v := v57) X X<|v_asI X X<|Y<|W.sr<|za st55 X X X Tryz.call44 X (zac st55.sub ) ?_
 intro r59 w60 h61 le62 st63 q64
 obtain ⟨v65, rfl, f66⟩ := q64
 have f66_b := f66.le
 refine za st63 rfl rfl rfl Tryz.call40 rfl (zU st63.sub (Sl.nil _ _) (by decide)) ?_
 intro r67 w68 h69 le70 st71 q72
 obtain ⟨v73, v75, rfl, f74, f76⟩ := q72
 have f74_b := f74.le
 have f76_b := f76.le
 refine za st71 X X X Tryz.call46 X (c_postillaw04_four st71.sub ) ?_
 intro r77 w78 h79 le80 st81 q82
 obtain rfl := q82
 refine za st81 rfl rfl rfl Tryz.call15 rfl (c_stem_Changes st81.sub (t := textE) (f66.up (le70.trans le80)) (x := (lexE ([]))) (f74.up le80) (f76.up le80) (d := d4E) t_u8 (by first | assumption | decide | omega | (simp [big]; done) | (simp [big]; omega)) (by first | assumption | decide | omega | (simp [big]; done) | (simp [big]; omega)) t_u8 (K0.up (((((((((le4.trans le12).trans le22).trans le28).trans le36).trans le44).trans le54).trans le62).trans le70).trans le80))) ?_
 intro r83 w84 h85 le86 st87 q88
 obtain ⟨v89, rfl, f90⟩ := q88
 have f90_b := f90.le
 refine v_mvT X X<|v_extract (v := v89) X X X<|v_extract (v := (.int _ _)) X X X<|v_assign (v := v89) X X<|v_asI X X<|Y<|W.sr<|za st87 X X X Tryz.call44 X (zac st87.sub ) ?_
 intro r91 w92 h93 le94 st95 q96
 obtain ⟨v97, rfl, f98⟩ := q96
 have f98_b := f98.le
 refine za st95 X X X Tryz.call46 X (c_postillaw04_four st95.sub ) ?_
 intro r99 w100 h101 le102 st103 q104
 obtain rfl := q104
 refine zG (L := LDecision) (xs := [d4E]) (cs := [.int .i64 (d4E.number), .int .u8 (d4E.kind), strV (d4E.form), .int .i64 (d4E.at_.chapter), .int .i64 (d4E.at_.line), .int .i64 (d4E.at_.word), strV (d4E.to.stem), .int .u8 (d4E.to.mark), .int .i64 (d4E.of_)]) st103 (Enc.cons (L := LDecision) (vs := [.int .i64 (d4E.number), .int .u8 (d4E.kind), strV (d4E.form), .int .i64 (d4E.at_.chapter), .int .i64 (d4E.at_.line), .int .i64 (d4E.at_.word), strV (d4E.to.stem), .int .u8 (d4E.to.mark), .int .i64 (d4E.of_)]) (x := d4E) (h := h101) (⟨rfl, t_u8, by first | assumption | decide | omega | (simp [big]; done) | (simp [big]; omega), by first | assumption | decide | omega | (simp [big]; done) | (simp [big]; omega), t_u8⟩) Enc.nil) rfl rfl rfl Tryz.underlying26 Tryz.info34 rfl rfl rfl t_kr ?_
 intro v105 w106 h109 le110 f107 st108
 refine za st108 rfl rfl rfl Tryz.call40 rfl (zU st108.sub f107 (by decide)) ?_
 intro r111 w112 h113 le114 st115 q116
 obtain ⟨v117, v119, rfl, f118, f120⟩ := q116
 have f118_b := f118.le
 have f120_b := f120.le
 refine za st115 X X X Tryz.call25 X (c_stem_Idle st115.sub (t := textE) (f98.up ((le102.trans le110).trans le114)) (x := (lexE ([d4E]))) f118 f120 (K0.up ((((((((((((((le4.trans le12).trans le22).trans le28).trans le36).trans le44).trans le54).trans le62).trans le70).trans le80).trans le86).trans le94).trans le102).trans le110).trans le114))) ?_
 intro r121 w122 h123 le124 st125 q126
 obtain ⟨v127, rfl, f128⟩ := q126
 have f128_b := f128.le
 refine v_mvT X X<|v_extract (v := v127) X X X<|v_extract (v := (.int _ _)) X X X<|v_assign (v := v127) X X<|v_asI X X<|Y<|W.sr<|za st125 X X X Tryz.call44 X (zac st125.sub ) ?_
 intro r129 w130 h131 le132 st133 q134
 obtain ⟨v135, rfl, f136⟩ := q134
 have f136_b := f136.le
 refine za st133 X X X Tryz.call42 X (c_postillaw04_five st133.sub ) ?_
 intro r137 w138 h139 le140 st141 q142
 obtain rfl := q142
 refine zG (L := LDecision) (xs := [d5E]) (cs := [.int .i64 (d5E.number), .int .u8 (d5E.kind), strV (d5E.form), .int .i64 (d5E.at_.chapter), .int .i64 (d5E.at_.line), .int .i64 (d5E.at_.word), strV (d5E.to.stem), .int .u8 (d5E.to.mark), .int .i64 (d5E.of_)]) st141 (Enc.cons (L := LDecision) (vs := [.int .i64 (d5E.number), .int .u8 (d5E.kind), strV (d5E.form), .int .i64 (d5E.at_.chapter), .int .i64 (d5E.at_.line), .int .i64 (d5E.at_.word), strV (d5E.to.stem), .int .u8 (d5E.to.mark), .int .i64 (d5E.of_)]) (x := d5E) (h := h139) (⟨rfl, t_u8, by first | assumption | decide | omega | (simp [big]; done) | (simp [big]; omega), by first | assumption | decide | omega | (simp [big]; done) | (simp [big]; omega), t_u8⟩) Enc.nil) rfl rfl rfl Tryz.underlying26 Tryz.info34 rfl rfl rfl t_kr ?_
 intro v143 w144 h147 le148 f145 st146
 refine za st146 rfl rfl rfl Tryz.call40 rfl (zU st146.sub f145 (by decide)) ?_
 intro r149 w150 h151 le152 st153 q154
 obtain ⟨v155, v157, rfl, f156, f158⟩ := q154
 have f156_b := f156.le
 have f158_b := f158.le
 refine za st153 X X X Tryz.call18 X (c_stem_Standing st153.sub (t := textE) (f136.up ((le140.trans le148).trans le152)) (x := (lexE ([d5E]))) f156 f158 (K0.up (((((((((((((((((((le4.trans le12).trans le22).trans le28).trans le36).trans le44).trans le54).trans le62).trans le70).trans le80).trans le86).trans le94).trans le102).trans le110).trans le114).trans le124).trans le132).trans le140).trans le148).trans le152))) ?_
 intro r159 w160 h161 le162 st163 q164
 obtain ⟨v165, rfl, f166⟩ := q164
 have f166_b := f166.le
 refine v_mvT X X<|v_extract (v := v165) X X X<|v_extract (v := (.int _ _)) X X X<|v_assign (v := v165) X X<|v_asI X X<|Y<|W.sr<|za st163 X X X Tryz.call44 X (zac st163.sub ) ?_
 intro r167 w168 h169 le170 st171 q172
 obtain ⟨v173, rfl, f174⟩ := q172
 have f174_b := f174.le
 refine za st171 X X X Tryz.call42 X (c_postillaw04_five st171.sub ) ?_
 intro r175 w176 h177 le178 st179 q180
 obtain rfl := q180
 refine zG (L := LDecision) (xs := [d5E]) (cs := [.int .i64 (d5E.number), .int .u8 (d5E.kind), strV (d5E.form), .int .i64 (d5E.at_.chapter), .int .i64 (d5E.at_.line), .int .i64 (d5E.at_.word), strV (d5E.to.stem), .int .u8 (d5E.to.mark), .int .i64 (d5E.of_)]) st179 (Enc.cons (L := LDecision) (vs := [.int .i64 (d5E.number), .int .u8 (d5E.kind), strV (d5E.form), .int .i64 (d5E.at_.chapter), .int .i64 (d5E.at_.line), .int .i64 (d5E.at_.word), strV (d5E.to.stem), .int .u8 (d5E.to.mark), .int .i64 (d5E.of_)]) (x := d5E) (h := h177) (⟨rfl, t_u8, by first | assumption | decide | omega | (simp [big]; done) | (simp [big]; omega), by first | assumption | decide | omega | (simp [big]; done) | (simp [big]; omega), t_u8⟩) Enc.nil) rfl rfl rfl Tryz.underlying26 Tryz.info34 rfl rfl rfl t_kr ?_
 intro v181 w182 h185 le186 f183 st184
 refine za st184 rfl rfl rfl Tryz.call40 rfl (zU st184.sub f183 (by decide)) ?_
 intro r187 w188 h189 le190 st191 q192
 obtain ⟨v193, v195, rfl, f194, f196⟩ := q192
 have f194_b := f194.le
 have f196_b := f196.le
 refine za st191 X X X Tryz.call46 X (c_postillaw04_four st191.sub ) ?_
 intro r197 w198 h199 le200 st201 q202
 obtain rfl := q202
 refine zD rfl rfl (zS rfl Tryz.call16 rfl) ((c_stem_Add st201.sub (t := textE) (f174.up (((le178.trans le186).trans le190).trans le200)) (x := (lexE ([d5E]))) (f194.up le200) (f196.up le200) (d := d4E) t_u8 (by first | assumption | decide | omega | (simp [big]; done) | (simp [big]; omega)) (by first | assumption | decide | omega | (simp [big]; done) | (simp [big]; omega)) t_u8 (K0.up (((((((((((((((((((((((((le4.trans le12).trans le22).trans le28).trans le36).trans le44).trans le54).trans le62).trans le70).trans le80).trans le86).trans le94).trans le102).trans le110).trans le114).trans le124).trans le132).trans le140).trans le148).trans le152).trans le162).trans le170).trans le178).trans le186).trans le190).trans le200))).mono ?_)
 rintro _ w203 ⟨h204, v208, v211, o209, o212, rfl, le205, s207, f210, f213⟩
 refine ⟨_, rfl, ?_⟩
 have st206 := st201.call s207
 refine v_mvT X X<|v_extract (v := (.agg (List.toArray _))) X X X<|v_extract (v := (.int _ _)) X X X<|zy st206 Tryz.zeroValue28 X X ?_
 intro b214 w215 st216
 refine zq st216 (k := 2) X X X (E f210.one (E f213.one zI)) Tryz.sizeOf28 X X X ?_
 intro w217 st218
 obtain ⟨h219, le220, hb221, st223⟩ := st218.freeze (k := 2) rfl
 have hc222 := Cells.of hb221
 refine v_asI X X<|Y<|W.sr<|za st223 X X X Tryz.call41 X (zae st223.sub _ _ _) ?_
 intro r224 w225 h226 le227 st228 q229
 obtain rfl := q229
 refine za st228 X X X Tryz.call41 X (zae st228.sub _ _ _) ?_
 intro r230 w231 h232 le233 st234 q235
 obtain rfl := q235
 refine za st234 X X X Tryz.call41 X (zae st234.sub _ _ _) ?_
 intro r236 w237 h238 le239 st240 q241
 obtain rfl := q241
 refine zG (L := LPlace) (xs := [(Place.mk (0) (0) (1)), (Place.mk (0) (1) (2)), (Place.mk (1) (0) (0))]) (cs := [.int .i64 ((Place.mk (0) (0) (1)).chapter), .int .i64 ((Place.mk (0) (0) (1)).line), .int .i64 ((Place.mk (0) (0) (1)).word), .int .i64 ((Place.mk (0) (1) (2)).chapter), .int .i64 ((Place.mk (0) (1) (2)).line), .int .i64 ((Place.mk (0) (1) (2)).word), .int .i64 ((Place.mk (1) (0) (0)).chapter), .int .i64 ((Place.mk (1) (0) (0)).line), .int .i64 ((Place.mk (1) (0) (0)).word)]) st240 (Enc.cons (L := LPlace) (vs := [.int .i64 ((Place.mk (0) (0) (1)).chapter), .int .i64 ((Place.mk (0) (0) (1)).line), .int .i64 ((Place.mk (0) (0) (1)).word)]) (x := (Place.mk (0) (0) (1))) (h := h238) (X) (Enc.cons (L := LPlace) (vs := [.int .i64 ((Place.mk (0) (1) (2)).chapter), .int .i64 ((Place.mk (0) (1) (2)).line), .int .i64 ((Place.mk (0) (1) (2)).word)]) (x := (Place.mk (0) (1) (2))) (h := h238) (X) (Enc.cons (L := LPlace) (vs := [.int .i64 ((Place.mk (1) (0) (0)).chapter), .int .i64 ((Place.mk (1) (0) (0)).line), .int .i64 ((Place.mk (1) (0) (0)).word)]) (x := (Place.mk (1) (0) (0))) (h := h238) (X) Enc.nil))) X X X Tryz.underlying37 Tryz.info30 X X X t_kr ?_
 intro v242 w243 h246 le247 f244 st245
 refine v_assign (v := v242) X X<|Y<|zg ?_
 have g248 : (((decide (stepsE textE (lexE []) (wOld) = 0) && decide (stepsR textE (lexE []) (wOld) = (([wOld, wOlde])))))) = true := by simp [stepsE_old]
 have g248_r := g248
 have g249 : (((decide (askE textE ((lexE ([]))) ((Place.mk (0) (0) (3))) = 0) && decide ((askR textE ((lexE ([]))) ((Place.mk (0) (0) (3)))).to = ((Head.mk (wOlde) (0)))) && decide ((askR textE ((lexE ([]))) ((Place.mk (0) (0) (3)))).number = (0))))) = true := by simp [ask1.1, ask1.2, zDecision]
 have g249_r := g249
 have g250 : (((decide (askE textE ((lexE ([]))) ((Place.mk (0) (1) (0))) = 0) && decide ((askR textE ((lexE ([]))) ((Place.mk (0) (1) (0)))).to = ((Head.mk (wAge) (3)))) && decide ((askR textE ((lexE ([]))) ((Place.mk (0) (1) (0)))).number = (2))))) = true := by simp [ask2.1, ask2.2, d2E]
 have g250_r := g250
 have g251 : (((decide (askE textE ((lexE ([]))) ((Place.mk (1) (0) (2))) = 0) && decide ((askR textE ((lexE ([]))) ((Place.mk (1) (0) (2)))).to = ((Head.mk (wSee) (2)))) && decide ((askR textE ((lexE ([]))) ((Place.mk (1) (0) (2)))).number = (3))))) = true := by simp [ask3.1, ask3.2, d3E]
 have g251_r := g251
 have g252 : (decide ((underE (textE) ((lexE ([]))) ((Head.mk (wSea) (1)))) = 0)) = true := by simp [underE_sea.1]
 have g252_r := g252
 replace g252 := of_decide_eq_true g252
 have g253 : ((decide (((underR (textE) ((lexE ([]))) ((Head.mk (wSea) (1))))) = ([(Place.mk (0) (0) (1)), (Place.mk (0) (1) (2)), (Place.mk (1) (0) (0))])))) = true := by simp [underE_sea.2]
 have g253_r := g253
 have g254 : (decide ((checkN (textE) ((lexE ([])))) = 0)) = true := by simp [checkE]
 have g254_r := g254
 replace g254 := of_decide_eq_true g254
 have g255 : ((decide (((homR (textE) ((lexE ([]))))) = (([wOld, wSea]))))) = true := by simp [homE]
 have g255_r := g255
 have g256 : (decide ((addE (textE) ((lexE ([]))) (d4E)) = 0)) = true := by simp [addE4]
 have g256_r := g256
 replace g256 := of_decide_eq_true g256
 have g257 : ((decide (((changesR (textE) ((lexE ([]))) (d4E))) = ([(Place.mk (0) (0) (1)), (Place.mk (0) (1) (2)), (Place.mk (1) (0) (0))])))) = true := by simp [changesE4]
 have g257_r := g257
 have g258 : (decide ((checkN (textE) ((lexE ([d4E])))) = 0)) = true := by simp [checkE4]
 have g258_r := g258
 replace g258 := of_decide_eq_true g258
 have g259 : ((decide (((idleN (textE) ((lexE ([d4E]))))) = (([1, 3]))))) = true := by simp [idleE4]
 have g259_r := g259
 have g260 : (decide ((checkN (textE) ((lexE ([d5E])))) = 0)) = true := by simp [checkE5]
 have g260_r := g260
 replace g260 := of_decide_eq_true g260
 have g261 : ((decide ((standingN (textE) ((lexE ([d5E])))) = (([1, 2, 5]))))) = true := by simp [standingE5]
 have g261_r := g261
 have g262 : (decide (((addE (textE) ((lexE ([d5E]))) (d4E))) = 0)) = true := by simp [addE54]
 have g262_r := g262
 replace g262 := of_decide_eq_true g262
 have g263 : (decide (((((addN (textE) ((lexE ([d5E]))) (d4E))).decisions).length : Int) = 5)) = true := by rw [addN54]; decide +kernel
 have g263_r := g263
 replace g263 := of_decide_eq_true g263
 have hy4 : ∃ y_, ((((addN (textE) ((lexE ([d5E]))) (d4E))).decisions))[3]? = some y_ := ⟨_, List.getElem?_eq_getElem (by omega)⟩
 obtain ⟨y4, hy4⟩ := hy4
 obtain ⟨b264, o265, cur266, _, e269, he267, hr_y4, hc268⟩ := OSl.elem (f213.up ((((le220.trans le227).trans le233).trans le239).trans le247)) hy4
 subst e269
 obtain ⟨rfl, lu270, ls271, ls272, lu273⟩ := hr_y4
 simp only [big] at ls271
 simp only [big] at ls272
 refine zZ (er := ([79], [], [], [], 0)) (dsts := [63, 64, 65, 66, 67, 68, 69, 70, 71, 72, 73, 74, 75, 76, 77, 78, 79, 80, 81, 82, 83, 84, 85, 86, 87, 88, 89, 90, 91, 92, 93, 94, 95, 96, 97, 98, 99, 100, 101, 102, 103, 104, 105, 106, 107, 108, 109, 110, 111, 112, 113, 114, 115, 116, 117, 118, 119, 120, 121, 122, 123, 124, 125, 126, 127, 128, 129, 130, 131, 132, 133, 134, 135, 136, 137, 138, 139, 140, 141, 142, 143, 144, 145, 0]) st245 Tryz.mixed ?_
 refine zF 0 (.res (fun h' res_ => Sl LStr h' res_ ([wOld, wOlde])) (fun _ _ _ hl f => f.up hl)) [] rfl t_kr t_kr ?_ ?_
 ·
  intro hD wD τD hL hS hO 
  have st274 := St.start hS
  refine zG (L := LStr) (xs := [wOld, wOlde]) (cs := [strV wOld, strV wOlde]) st274 (Enc.cons (L := LStr) (vs := [strV wOld]) (x := wOld) (h := hD) (⟨rfl, by first | assumption | decide | omega | (simp [big]; done) | (simp [big]; omega)⟩) (Enc.cons (L := LStr) (vs := [strV wOlde]) (x := wOlde) (h := hD) (⟨rfl, by first | assumption | decide | omega | (simp [big]; done) | (simp [big]; omega)⟩) Enc.nil)) rfl rfl rfl Tryz.underlying62 Tryz.info9 rfl rfl rfl t_kr ?_
  intro v275 w276 h279 le280 f277 st278
  exact zj ⟨_, _, rfl, st278, _, rfl, f277⟩
 refine zF 1 (.det (.bool true)) [0] rfl t_kr t_kr ?_ ?_
 ·
  intro hD wD τD hL hS hO gv0_0 gf0_0
  have st281 := St.start hS
  refine za st281 rfl rfl rfl Tryz.call38 rfl (c_postillaw04_steps st281.sub _ (by first | assumption | decide | omega | (simp [big]; done) | (simp [big]; omega)) gf0_0 (K0.up ((((((((((((((((((((((((((((((((le4.trans le12).trans le22).trans le28).trans le36).trans le44).trans le54).trans le62).trans le70).trans le80).trans le86).trans le94).trans le102).trans le110).trans le114).trans le124).trans le132).trans le140).trans le148).trans le152).trans le162).trans le170).trans le178).trans le186).trans le190).trans le200).trans le205).trans le220).trans le227).trans le233).trans le239).trans le247).trans hL))) ?_
  intro r282 w283 h284 le285 st286 q287
  obtain rfl := q287
  exact zj ⟨_, _, rfl, st286, (), congrArg Value.bool g248_r, trivial⟩
 refine zc 2 [0] X t_kr t_kr X X (fun hD wD τD hL hS hO _ _ => (r_mvB X)) ?_
 refine zF 3 (.res (fun h' res_ => ∃ gv3_0 gv3_1, res_ = .agg #[gv3_0, gv3_1] ∧ Sl LRule h' gv3_0 ((lexE ([]))).rules ∧ Sl LDecision h' gv3_1 ((lexE ([]))).decisions) (by rintro _ _ _ hl ⟨gv3_0, gv3_1, e_, gf3_0, gf3_1⟩; exact ⟨gv3_0, gv3_1, e_, gf3_0.up hl, gf3_1.up hl⟩)) [0] rfl t_kr t_kr ?_ ?_
 ·
  intro hD wD τD hL hS hO _ _
  have st288 := St.start hS
  refine Z X X (d := 65) X ?_
  refine za st288 rfl rfl rfl Tryz.call40 rfl (zU st288.sub (Sl.nil _ _) (by decide)) ?_
  intro r289 w290 h291 le292 st293 q294
  obtain ⟨v295, v297, rfl, f296, f298⟩ := q294
  have f296_b := f296.le
  have f298_b := f298.le
  exact zj ⟨_, _, rfl, st293, _, rfl, ⟨_, _, rfl, f296, f298⟩⟩
 refine zF 4 (.det (.agg (List.toArray [.int .i64 ((Place.mk (0) (0) (3)).chapter), .int .i64 ((Place.mk (0) (0) (3)).line), .int .i64 ((Place.mk (0) (0) (3)).word)]))) [0, 1] rfl t_kr t_kr ?_ ?_
 ·
  intro hD wD τD hL hS hO gv3_ gf3_ _ _
  obtain ⟨gv3_0, gv3_1, rfl, gf3_0, gf3_1⟩ := gf3_
  have st299 := St.start hS
  refine Z X X (d := 65) X<|za st299 X X X Tryz.call41 X (zae st299.sub _ _ _) ?_
  intro r300 w301 h302 le303 st304 q305
  obtain rfl := q305
  exact zj ⟨_, _, rfl, st304, (), rfl, trivial⟩
 refine zF 5 (.det (.agg (List.toArray [strV ((Head.mk (wOlde) (0)).stem), .int .u8 ((Head.mk (wOlde) (0)).mark)]))) [0, 2] rfl t_kr t_kr ?_ ?_
 ·
  intro hD wD τD hL hS hO _ _ _ _
  have st306 := St.start hS
  refine Z X X (d := 65) X ?_
  refine za st306 rfl rfl rfl Tryz.call34 rfl (c_postillaw04_head st306.sub _ (by first | assumption | decide | omega | (simp [big]; done) | (simp [big]; omega)) _ (by omega)) ?_
  intro r307 w308 h309 le310 st311 q312
  obtain rfl := q312
  exact zj ⟨_, _, rfl, st311, (), rfl, trivial⟩
 refine zF 6 (.det (.bool ((decide (askE textE ((lexE ([]))) ((Place.mk (0) (0) (3))) = 0) && decide ((askR textE ((lexE ([]))) ((Place.mk (0) (0) (3)))).to = ((Head.mk (wOlde) (0)))) && decide ((askR textE ((lexE ([]))) ((Place.mk (0) (0) (3)))).number = (0)))))) [2, 1, 0, 3] rfl t_kr t_kr ?_ ?_
 ·
  intro hD wD τD hL hS hO gv3_ gf3_ _ _ _ _ _ _
  obtain ⟨gv3_0, gv3_1, rfl, gf3_0, gf3_1⟩ := gf3_
  have st313 := St.start hS
  refine Z X X (d := 65) X ?_
  refine za st313 rfl rfl rfl Tryz.call39 rfl (c_postillaw04_is st313.sub (x := (lexE ([]))) gf3_0 gf3_1 (p := (Place.mk (0) (0) (3))) (hd := (Head.mk (wOlde) (0))) (by first | assumption | decide | omega | (simp [big]; done) | (simp [big]; omega)) t_u8 _ (K0.up ((((((((((((((((((((((((((((((((le4.trans le12).trans le22).trans le28).trans le36).trans le44).trans le54).trans le62).trans le70).trans le80).trans le86).trans le94).trans le102).trans le110).trans le114).trans le124).trans le132).trans le140).trans le148).trans le152).trans le162).trans le170).trans le178).trans le186).trans le190).trans le200).trans le205).trans le220).trans le227).trans le233).trans le239).trans le247).trans hL))) ?_
  intro r314 w315 h316 le317 st318 q319
  obtain rfl := q319
  exact zj ⟨_, _, rfl, st318, (), rfl, trivial⟩
 refine zc 7 [4, 0] X t_kr t_kr X X (fun hD wD τD hL hS hO _ _ _ _ => (Run.lit (r_pickT (v := (.bool _)) X X) g249_r))<|zc 8 [0, 1] X t_kr t_kr X X (fun hD wD τD hL hS hO _ _ _ _ => (r_mvB X)) ?_
 refine zF 9 (.res (fun h' res_ => ∃ gv9_0 gv9_1, res_ = .agg #[gv9_0, gv9_1] ∧ Sl LRule h' gv9_0 ((lexE ([]))).rules ∧ Sl LDecision h' gv9_1 ((lexE ([]))).decisions) (by rintro _ _ _ hl ⟨gv9_0, gv9_1, e_, gf9_0, gf9_1⟩; exact ⟨gv9_0, gv9_1, e_, gf9_0.up hl, gf9_1.up hl⟩)) [0] rfl t_kr t_kr ?_ ?_
 ·
  intro hD wD τD hL hS hO _ _
  have st320 := St.start hS
  refine Z X X (d := 71) X ?_
  refine za st320 rfl rfl rfl Tryz.call40 rfl (zU st320.sub (Sl.nil _ _) (by decide)) ?_
  intro r321 w322 h323 le324 st325 q326
  obtain ⟨v327, v329, rfl, f328, f330⟩ := q326
  have f328_b := f328.le
  have f330_b := f330.le
  exact zj ⟨_, _, rfl, st325, _, rfl, ⟨_, _, rfl, f328, f330⟩⟩
 refine zF 10 (.det (.agg (List.toArray [.int .i64 ((Place.mk (0) (1) (0)).chapter), .int .i64 ((Place.mk (0) (1) (0)).line), .int .i64 ((Place.mk (0) (1) (0)).word)]))) [0, 1] rfl t_kr t_kr ?_ ?_
 ·
  intro hD wD τD hL hS hO gv9_ gf9_ _ _
  obtain ⟨gv9_0, gv9_1, rfl, gf9_0, gf9_1⟩ := gf9_
  have st331 := St.start hS
  refine Z X X (d := 71) X<|za st331 X X X Tryz.call41 X (zae st331.sub _ _ _) ?_
  intro r332 w333 h334 le335 st336 q337
  obtain rfl := q337
  exact zj ⟨_, _, rfl, st336, (), rfl, trivial⟩
 refine zF 11 (.det (.agg (List.toArray [strV ((Head.mk (wAge) (3)).stem), .int .u8 ((Head.mk (wAge) (3)).mark)]))) [0, 2] rfl t_kr t_kr ?_ ?_
 ·
  intro hD wD τD hL hS hO _ _ _ _
  have st338 := St.start hS
  refine Z X X (d := 71) X ?_
  refine za st338 rfl rfl rfl Tryz.call34 rfl (c_postillaw04_head st338.sub _ (by first | assumption | decide | omega | (simp [big]; done) | (simp [big]; omega)) _ (by omega)) ?_
  intro r339 w340 h341 le342 st343 q344
  obtain rfl := q344
  exact zj ⟨_, _, rfl, st343, (), rfl, trivial⟩
 refine zF 12 (.det (.bool ((decide (askE textE ((lexE ([]))) ((Place.mk (0) (1) (0))) = 0) && decide ((askR textE ((lexE ([]))) ((Place.mk (0) (1) (0)))).to = ((Head.mk (wAge) (3)))) && decide ((askR textE ((lexE ([]))) ((Place.mk (0) (1) (0)))).number = (2)))))) [2, 1, 0, 3] rfl t_kr t_kr ?_ ?_
 ·
  intro hD wD τD hL hS hO gv9_ gf9_ _ _ _ _ _ _
  obtain ⟨gv9_0, gv9_1, rfl, gf9_0, gf9_1⟩ := gf9_
  have st345 := St.start hS
  refine Z X X (d := 71) X ?_
  refine za st345 rfl rfl rfl Tryz.call39 rfl (c_postillaw04_is st345.sub (x := (lexE ([]))) gf9_0 gf9_1 (p := (Place.mk (0) (1) (0))) (hd := (Head.mk (wAge) (3))) (by first | assumption | decide | omega | (simp [big]; done) | (simp [big]; omega)) t_u8 _ (K0.up ((((((((((((((((((((((((((((((((le4.trans le12).trans le22).trans le28).trans le36).trans le44).trans le54).trans le62).trans le70).trans le80).trans le86).trans le94).trans le102).trans le110).trans le114).trans le124).trans le132).trans le140).trans le148).trans le152).trans le162).trans le170).trans le178).trans le186).trans le190).trans le200).trans le205).trans le220).trans le227).trans le233).trans le239).trans le247).trans hL))) ?_
  intro r346 w347 h348 le349 st350 q351
  obtain rfl := q351
  exact zj ⟨_, _, rfl, st350, (), rfl, trivial⟩
 refine zc 13 [4, 0] X t_kr t_kr X X (fun hD wD τD hL hS hO _ _ _ _ => (Run.lit (r_pickT (v := (.bool _)) X X) g250_r))<|zc 14 [0, 1] X t_kr t_kr X X (fun hD wD τD hL hS hO _ _ _ _ => (r_mvB X)) ?_
 refine zF 15 (.res (fun h' res_ => ∃ gv15_0 gv15_1, res_ = .agg #[gv15_0, gv15_1] ∧ Sl LRule h' gv15_0 ((lexE ([]))).rules ∧ Sl LDecision h' gv15_1 ((lexE ([]))).decisions) (by rintro _ _ _ hl ⟨gv15_0, gv15_1, e_, gf15_0, gf15_1⟩; exact ⟨gv15_0, gv15_1, e_, gf15_0.up hl, gf15_1.up hl⟩)) [0] rfl t_kr t_kr ?_ ?_
 ·
  intro hD wD τD hL hS hO _ _
  have st352 := St.start hS
  refine Z X X (d := 77) X ?_
  refine za st352 rfl rfl rfl Tryz.call40 rfl (zU st352.sub (Sl.nil _ _) (by decide)) ?_
  intro r353 w354 h355 le356 st357 q358
  obtain ⟨v359, v361, rfl, f360, f362⟩ := q358
  have f360_b := f360.le
  have f362_b := f362.le
  exact zj ⟨_, _, rfl, st357, _, rfl, ⟨_, _, rfl, f360, f362⟩⟩
 refine zF 16 (.det (.agg (List.toArray [.int .i64 ((Place.mk (1) (0) (2)).chapter), .int .i64 ((Place.mk (1) (0) (2)).line), .int .i64 ((Place.mk (1) (0) (2)).word)]))) [0, 1] rfl t_kr t_kr ?_ ?_
 ·
  intro hD wD τD hL hS hO gv15_ gf15_ _ _
  obtain ⟨gv15_0, gv15_1, rfl, gf15_0, gf15_1⟩ := gf15_
  have st363 := St.start hS
  refine Z X X (d := 77) X<|za st363 X X X Tryz.call41 X (zae st363.sub _ _ _) ?_
  intro r364 w365 h366 le367 st368 q369
  obtain rfl := q369
  exact zj ⟨_, _, rfl, st368, (), rfl, trivial⟩
 refine zF 17 (.det (.agg (List.toArray [strV ((Head.mk (wSee) (2)).stem), .int .u8 ((Head.mk (wSee) (2)).mark)]))) [0, 2] rfl t_kr t_kr ?_ ?_
 ·
  intro hD wD τD hL hS hO _ _ _ _
  have st370 := St.start hS
  refine Z X X (d := 77) X ?_
  refine za st370 rfl rfl rfl Tryz.call34 rfl (c_postillaw04_head st370.sub _ (by first | assumption | decide | omega | (simp [big]; done) | (simp [big]; omega)) _ (by omega)) ?_
  intro r371 w372 h373 le374 st375 q376
  obtain rfl := q376
  exact zj ⟨_, _, rfl, st375, (), rfl, trivial⟩
 refine zF 18 (.det (.bool ((decide (askE textE ((lexE ([]))) ((Place.mk (1) (0) (2))) = 0) && decide ((askR textE ((lexE ([]))) ((Place.mk (1) (0) (2)))).to = ((Head.mk (wSee) (2)))) && decide ((askR textE ((lexE ([]))) ((Place.mk (1) (0) (2)))).number = (3)))))) [2, 1, 0, 3] rfl t_kr t_kr ?_ ?_
 ·
  intro hD wD τD hL hS hO gv15_ gf15_ _ _ _ _ _ _
  obtain ⟨gv15_0, gv15_1, rfl, gf15_0, gf15_1⟩ := gf15_
  have st377 := St.start hS
  refine Z X X (d := 77) X ?_
  refine za st377 rfl rfl rfl Tryz.call39 rfl (c_postillaw04_is st377.sub (x := (lexE ([]))) gf15_0 gf15_1 (p := (Place.mk (1) (0) (2))) (hd := (Head.mk (wSee) (2))) (by first | assumption | decide | omega | (simp [big]; done) | (simp [big]; omega)) t_u8 _ (K0.up ((((((((((((((((((((((((((((((((le4.trans le12).trans le22).trans le28).trans le36).trans le44).trans le54).trans le62).trans le70).trans le80).trans le86).trans le94).trans le102).trans le110).trans le114).trans le124).trans le132).trans le140).trans le148).trans le152).trans le162).trans le170).trans le178).trans le186).trans le190).trans le200).trans le205).trans le220).trans le227).trans le233).trans le239).trans le247).trans hL))) ?_
  intro r378 w379 h380 le381 st382 q383
  obtain rfl := q383
  exact zj ⟨_, _, rfl, st382, (), rfl, trivial⟩
 refine zc 19 [4, 0] X t_kr t_kr X X (fun hD wD τD hL hS hO _ _ _ _ => (Run.lit (r_pickT (v := (.bool _)) X X) g251_r))<|zc 20 [0, 1] X t_kr t_kr X X (fun hD wD τD hL hS hO _ _ _ _ => (r_mvB X))<|zM 21 [0] X t_kr t_kr X X X (fun hD wD τD hL hS hO _ _ => ⟨rfl, (r_mvI X)⟩)<|zM 22 [0, 1] X t_kr t_kr X X X (fun hD wD τD hL hS hO _ _ _ _ => ⟨rfl, (r_eql X X)⟩)<|zc 23 [2, 0] X t_kr t_kr X X (fun hD wD τD hL hS hO _ _ _ _ => (Run.lit (r_pickT (v := (.bool _)) X X) g252_r))<|zc 24 [0, 3] X t_kr t_kr X X (fun hD wD τD hL hS hO _ _ _ _ => (r_mvB X))<|zM 25 [0] X t_kr t_kr X X X (fun hD wD τD hL hS hO _ _ => ⟨rfl, (r_move (v := v31) X)⟩)<|zM 26 [1] X t_kr t_kr X X X (fun hD wD τD hL hS hO _ _ => ⟨rfl, (r_move (v := v242) X)⟩) ?_
 refine zF 27 (.det (.bool (decide (((underR (textE) ((lexE ([]))) ((Head.mk (wSea) (1))))) = ([(Place.mk (0) (0) (1)), (Place.mk (0) (1) (2)), (Place.mk (1) (0) (0))]))))) [1, 0, 2] rfl t_kr t_kr ?_ ?_
 ·
  intro hD wD τD hL hS hO _ _ _ _ _ _
  have st384 := St.start hS
  refine Z X X (d := 87) X<|za st384 X X X Tryz.call57 X (c_postilref01_SamePlaces st384.sub (f32.up ((((((((((((((((((((((((((((le36.trans le44).trans le54).trans le62).trans le70).trans le80).trans le86).trans le94).trans le102).trans le110).trans le114).trans le124).trans le132).trans le140).trans le148).trans le152).trans le162).trans le170).trans le178).trans le186).trans le190).trans le200).trans le205).trans le220).trans le227).trans le233).trans le239).trans le247).trans hL)) (f244.up hL)) ?_
  intro r385 w386 h387 le388 st389 q390
  obtain rfl := q390
  exact zj ⟨_, _, rfl, st389, (), rfl, trivial⟩
 refine zc 28 [3, 0] X t_kr t_kr X X (fun hD wD τD hL hS hO _ _ _ _ => (Run.lit (r_pickT (v := (.bool _)) X X) g253_r))<|zc 29 [0, 1] X t_kr t_kr X X (fun hD wD τD hL hS hO _ _ _ _ => (r_mvB X))<|zM 30 [0] X t_kr t_kr X X X (fun hD wD τD hL hS hO _ _ => ⟨rfl, (r_mvI X)⟩)<|zM 31 [0, 1] X t_kr t_kr X X X (fun hD wD τD hL hS hO _ _ _ _ => ⟨rfl, (r_eql X X)⟩)<|zc 32 [2, 0] X t_kr t_kr X X (fun hD wD τD hL hS hO _ _ _ _ => (Run.lit (r_pickT (v := (.bool _)) X X) g254_r))<|zc 33 [0, 3] X t_kr t_kr X X (fun hD wD τD hL hS hO _ _ _ _ => (r_mvB X))<|zM 34 [0] X t_kr t_kr X X X (fun hD wD τD hL hS hO _ _ => ⟨rfl, (r_move (v := v57) X)⟩) ?_
 refine zF 35 (.res (fun h' res_ => Sl LStr h' res_ ([wOld, wSea])) (fun _ _ _ hl f => f.up hl)) [1] rfl t_kr t_kr ?_ ?_
 ·
  intro hD wD τD hL hS hO _ _
  have st391 := St.start hS
  refine Z X X (d := 96) X ?_
  refine zG (L := LStr) (xs := [wOld, wSea]) (cs := [strV wOld, strV wSea]) st391 (Enc.cons (L := LStr) (vs := [strV wOld]) (x := wOld) (h := hD) (⟨rfl, by first | assumption | decide | omega | (simp [big]; done) | (simp [big]; omega)⟩) (Enc.cons (L := LStr) (vs := [strV wSea]) (x := wSea) (h := hD) (⟨rfl, by first | assumption | decide | omega | (simp [big]; done) | (simp [big]; omega)⟩) Enc.nil)) rfl rfl rfl Tryz.underlying62 Tryz.info9 rfl rfl rfl t_kr ?_
  intro v392 w393 h396 le397 f394 st395
  exact zj ⟨_, _, rfl, st395, _, rfl, f394⟩
 refine zF 36 (.det (.bool (decide (((homR (textE) ((lexE ([]))))) = (([wOld, wSea])))))) [1, 0, 2] rfl t_kr t_kr ?_ ?_
 ·
  intro hD wD τD hL hS hO _ _ gv35_0 gf35_0 _ _
  have st398 := St.start hS
  refine Z X X (d := 96) X<|za st398 X X X Tryz.call29 X (c_postilref01_SameWords st398.sub (f58.up (((((((((((((((((((((((((le62.trans le70).trans le80).trans le86).trans le94).trans le102).trans le110).trans le114).trans le124).trans le132).trans le140).trans le148).trans le152).trans le162).trans le170).trans le178).trans le186).trans le190).trans le200).trans le205).trans le220).trans le227).trans le233).trans le239).trans le247).trans hL)) gf35_0) ?_
  intro r399 w400 h401 le402 st403 q404
  obtain rfl := q404
  exact zj ⟨_, _, rfl, st403, (), rfl, trivial⟩
 refine zc 37 [3, 0] X t_kr t_kr X X (fun hD wD τD hL hS hO _ _ _ _ => (Run.lit (r_pickT (v := (.bool _)) X X) g255_r))<|zc 38 [0, 1] X t_kr t_kr X X (fun hD wD τD hL hS hO _ _ _ _ => (r_mvB X))<|zM 39 [0] X t_kr t_kr X X X (fun hD wD τD hL hS hO _ _ => ⟨rfl, (r_mvI X)⟩)<|zM 40 [0, 1] X t_kr t_kr X X X (fun hD wD τD hL hS hO _ _ _ _ => ⟨rfl, (r_eql X X)⟩)<|zc 41 [2, 0] X t_kr t_kr X X (fun hD wD τD hL hS hO _ _ _ _ => (Run.lit (r_pickT (v := (.bool _)) X X) g256_r))<|zc 42 [0, 3] X t_kr t_kr X X (fun hD wD τD hL hS hO _ _ _ _ => (r_mvB X))<|zM 43 [0] X t_kr t_kr X X X (fun hD wD τD hL hS hO _ _ => ⟨rfl, (r_move (v := v89) X)⟩)<|zM 44 [1] X t_kr t_kr X X X (fun hD wD τD hL hS hO _ _ => ⟨rfl, (r_move (v := v242) X)⟩) ?_
 refine zF 45 (.det (.bool (decide (((changesR (textE) ((lexE ([]))) (d4E))) = ([(Place.mk (0) (0) (1)), (Place.mk (0) (1) (2)), (Place.mk (1) (0) (0))]))))) [1, 0, 2] rfl t_kr t_kr ?_ ?_
 ·
  intro hD wD τD hL hS hO _ _ _ _ _ _
  have st405 := St.start hS
  refine Z X X (d := 105) X<|za st405 X X X Tryz.call57 X (c_postilref01_SamePlaces st405.sub (f90.up (((((((((((((((((((((le94.trans le102).trans le110).trans le114).trans le124).trans le132).trans le140).trans le148).trans le152).trans le162).trans le170).trans le178).trans le186).trans le190).trans le200).trans le205).trans le220).trans le227).trans le233).trans le239).trans le247).trans hL)) (f244.up hL)) ?_
  intro r406 w407 h408 le409 st410 q411
  obtain rfl := q411
  exact zj ⟨_, _, rfl, st410, (), rfl, trivial⟩
 refine zc 46 [3, 0] X t_kr t_kr X X (fun hD wD τD hL hS hO _ _ _ _ => (Run.lit (r_pickT (v := (.bool _)) X X) g257_r))<|zc 47 [0, 1] X t_kr t_kr X X (fun hD wD τD hL hS hO _ _ _ _ => (r_mvB X))<|zM 48 [0] X t_kr t_kr X X X (fun hD wD τD hL hS hO _ _ => ⟨rfl, (r_mvI X)⟩)<|zM 49 [0, 1] X t_kr t_kr X X X (fun hD wD τD hL hS hO _ _ _ _ => ⟨rfl, (r_eql X X)⟩)<|zc 50 [2, 0] X t_kr t_kr X X (fun hD wD τD hL hS hO _ _ _ _ => (Run.lit (r_pickT (v := (.bool _)) X X) g258_r))<|zc 51 [0, 3] X t_kr t_kr X X (fun hD wD τD hL hS hO _ _ _ _ => (r_mvB X))<|zM 52 [0] X t_kr t_kr X X X (fun hD wD τD hL hS hO _ _ => ⟨rfl, (r_move (v := v127) X)⟩) ?_
 refine zF 53 (.res (fun h' res_ => Sl LInt h' res_ ([1, 3])) (fun _ _ _ hl f => f.up hl)) [1] rfl t_kr t_kr ?_ ?_
 ·
  intro hD wD τD hL hS hO _ _
  have st412 := St.start hS
  refine Z X X (d := 114) X<|zG (L := LInt) (xs := [1, 3]) (cs := [.int .i64 1, .int .i64 3]) st412 (Enc.cons (L := LInt) (vs := [.int .i64 1]) (x := 1) (h := hD) (X) (Enc.cons (L := LInt) (vs := [.int .i64 3]) (x := 3) (h := hD) (X) Enc.nil)) X X X Tryz.underlying46 Tryz.info3 X X X t_kr ?_
  intro v413 w414 h417 le418 f415 st416
  exact zj ⟨_, _, rfl, st416, _, rfl, f415⟩
 refine zF 54 (.det (.bool (decide (((idleN (textE) ((lexE ([d4E]))))) = (([1, 3])))))) [1, 0, 2] rfl t_kr t_kr ?_ ?_
 ·
  intro hD wD τD hL hS hO _ _ gv53_0 gf53_0 _ _
  have st419 := St.start hS
  refine Z X X (d := 114) X<|za st419 X X X Tryz.call27 X (c_postillaw04_sameInts st419.sub (f128.up ((((((((((((((((le132.trans le140).trans le148).trans le152).trans le162).trans le170).trans le178).trans le186).trans le190).trans le200).trans le205).trans le220).trans le227).trans le233).trans le239).trans le247).trans hL)) gf53_0) ?_
  intro r420 w421 h422 le423 st424 q425
  obtain rfl := q425
  exact zj ⟨_, _, rfl, st424, (), rfl, trivial⟩
 refine zc 55 [3, 0] X t_kr t_kr X X (fun hD wD τD hL hS hO _ _ _ _ => (Run.lit (r_pickT (v := (.bool _)) X X) g259_r))<|zc 56 [0, 1] X t_kr t_kr X X (fun hD wD τD hL hS hO _ _ _ _ => (r_mvB X))<|zM 57 [0] X t_kr t_kr X X X (fun hD wD τD hL hS hO _ _ => ⟨rfl, (r_mvI X)⟩)<|zM 58 [0, 1] X t_kr t_kr X X X (fun hD wD τD hL hS hO _ _ _ _ => ⟨rfl, (r_eql X X)⟩)<|zc 59 [2, 0] X t_kr t_kr X X (fun hD wD τD hL hS hO _ _ _ _ => (Run.lit (r_pickT (v := (.bool _)) X X) g260_r))<|zc 60 [0, 3] X t_kr t_kr X X (fun hD wD τD hL hS hO _ _ _ _ => (r_mvB X))<|zM 61 [0] X t_kr t_kr X X X (fun hD wD τD hL hS hO _ _ => ⟨rfl, (r_move (v := v165) X)⟩) ?_
 refine zF 62 (.res (fun h' res_ => Sl LInt h' res_ ([1, 2, 5])) (fun _ _ _ hl f => f.up hl)) [1] rfl t_kr t_kr ?_ ?_
 ·
  intro hD wD τD hL hS hO _ _
  have st426 := St.start hS
  refine Z X X (d := 123) X<|zG (L := LInt) (xs := [1, 2, 5]) (cs := [.int .i64 1, .int .i64 2, .int .i64 5]) st426 (Enc.cons (L := LInt) (vs := [.int .i64 1]) (x := 1) (h := hD) (X) (Enc.cons (L := LInt) (vs := [.int .i64 2]) (x := 2) (h := hD) (X) (Enc.cons (L := LInt) (vs := [.int .i64 5]) (x := 5) (h := hD) (X) Enc.nil))) X X X Tryz.underlying46 Tryz.info3 X X X t_kr ?_
  intro v427 w428 h431 le432 f429 st430
  exact zj ⟨_, _, rfl, st430, _, rfl, f429⟩
 refine zF 63 (.det (.bool (decide ((standingN (textE) ((lexE ([d5E])))) = (([1, 2, 5])))))) [1, 0, 2] rfl t_kr t_kr ?_ ?_
 ·
  intro hD wD τD hL hS hO _ _ gv62_0 gf62_0 _ _
  have st433 := St.start hS
  refine Z X X (d := 123) X<|za st433 X X X Tryz.call27 X (c_postillaw04_sameInts st433.sub (f166.up (((((((((((le170.trans le178).trans le186).trans le190).trans le200).trans le205).trans le220).trans le227).trans le233).trans le239).trans le247).trans hL)) gf62_0) ?_
  intro r434 w435 h436 le437 st438 q439
  obtain rfl := q439
  exact zj ⟨_, _, rfl, st438, (), rfl, trivial⟩
 refine zc 64 [3, 0] X t_kr t_kr X X (fun hD wD τD hL hS hO _ _ _ _ => (Run.lit (r_pickT (v := (.bool _)) X X) g261_r))<|zc 65 [0, 1] X t_kr t_kr X X (fun hD wD τD hL hS hO _ _ _ _ => (r_mvB X))<|zM 66 [0] X t_kr t_kr X X X (fun hD wD τD hL hS hO _ _ => ⟨rfl, (r_mvI X)⟩)<|zM 67 [0, 1] X t_kr t_kr X X X (fun hD wD τD hL hS hO _ _ _ _ => ⟨rfl, (r_eql X X)⟩)<|zc 68 [2, 0] X t_kr t_kr X X (fun hD wD τD hL hS hO _ _ _ _ => (Run.lit (r_pickT (v := (.bool _)) X X) g262_r))<|zc 69 [0, 3] X t_kr t_kr X X (fun hD wD τD hL hS hO _ _ _ _ => (r_mvB X))<|zM 70 [0] X t_kr t_kr X X X (fun hD wD τD hL hS hO _ _ => ⟨rfl, (zA X Tryz.underlying28 X Tryz.sizeOf26 X)⟩)<|zM 71 [0, 1] X t_kr t_kr X X X (fun hD wD τD hL hS hO _ _ _ _ => ⟨rfl, (zf (j := 1) (hL.sub hS) (hc222.up (((le227.trans le233).trans le239).trans le247)) X X X Tryz.isAgg26)⟩)<|zM 72 [0, 2] X t_kr t_kr X X X (fun hD wD τD hL hS hO _ _ _ _ => ⟨rfl, (r_len_own (f213.up ((((le220.trans le227).trans le233).trans le239).trans le247)) X Tryz.underlying26)⟩)<|zM 73 [0, 3] X t_kr t_kr X X X (fun hD wD τD hL hS hO _ _ _ _ => ⟨rfl, (r_eql X X)⟩)<|zc 74 [4, 0] X t_kr t_kr X X (fun hD wD τD hL hS hO _ _ _ _ => (Run.lit (r_pickT (v := (.bool _)) X X) g263_r))<|zc 75 [0, 5] X t_kr t_kr X X (fun hD wD τD hL hS hO _ _ _ _ => (r_mvB X))<|zM 76 [0] X t_kr t_kr X X X (fun hD wD τD hL hS hO _ _ => ⟨rfl, (zA X Tryz.underlying28 X Tryz.sizeOf26 X)⟩)<|zM 77 [0, 1] X t_kr t_kr X X X (fun hD wD τD hL hS hO _ _ _ _ => ⟨rfl, (zf (j := 1) (hL.sub hS) (hc222.up (((le227.trans le233).trans le239).trans le247)) X X X Tryz.isAgg26)⟩)<|zM 78 [0, 2] X t_kr t_kr X X X (fun hD wD τD hL hS hO _ _ _ _ => ⟨rfl, (zQ he267 X X (hk := X) (hu := Tryz.underlying26) (hz := Tryz.sizeOf34))⟩)<|zM 79 [0, 3] X t_kr t_kr X X X (fun hD wD τD hL hS hO _ _ _ _ => ⟨rfl, (r_load_curN ((hO X).get (k := 1) X) hc268 X Tryz.isAgg34 Tryz.sizeOf34 X)⟩) ?_
 refine zF 80 (.det (.agg (List.toArray [.int .i64 (d4E.number), .int .u8 (d4E.kind), strV (d4E.form), .int .i64 (d4E.at_.chapter), .int .i64 (d4E.at_.line), .int .i64 (d4E.at_.word), strV (d4E.to.stem), .int .u8 (d4E.to.mark), .int .i64 (d4E.of_)]))) [4] rfl t_kr t_kr ?_ ?_
 ·
  intro hD wD τD hL hS hO _ _
  have st440 := St.start hS
  refine Z X X (d := 138) X<|za st440 X X X Tryz.call46 X (c_postillaw04_four st440.sub ) ?_
  intro r441 w442 h443 le444 st445 q446
  obtain rfl := q446
  exact zj ⟨_, _, rfl, st445, (), rfl, trivial⟩
 refine zM 81 [1, 0, 5] X t_kr t_kr X X X (fun hD wD τD hL hS hO _ _ _ _ _ _ => ⟨rfl, (r_steql X X Tryz.eqGuardType34 (Tryz.eq_Decision y4 d4E))⟩)<|zc 82 [6, 0] X t_kr t_kr X X (fun hD wD τD hL hS hO _ _ _ _ => (r_pickT (v := (.bool _)) X X))<|zc 83 [82, 81, 80, 79, 78, 77, 76, 75, 74, 73, 72, 71, 70, 69, 68, 67, 66, 65, 64, 63, 62, 61, 60, 59, 58, 57, 56, 55, 54, 53, 52, 51, 50, 49, 48, 47, 46, 45, 44, 43, 42, 41, 40, 39, 38, 37, 36, 35, 34, 33, 32, 31, 30, 29, 28, 27, 26, 25, 24, 23, 22, 21, 20, 19, 18, 17, 16, 15, 14, 13, 12, 11, 10, 9, 8, 7, 6, 5, 4, 3, 2, 1, 0] X t_kr t_kr X X (fun hD wD τD hL hS hO gv0_0 gf0_0 _ _ _ _ gv3_ gf3_ _ _ _ _ _ _ _ _ _ _ gv9_ gf9_ _ _ _ _ _ _ _ _ _ _ gv15_ gf15_ _ _ _ _ _ _ _ _ _ _ _ _ _ _ _ _ _ _ _ _ _ _ _ _ _ _ _ _ _ _ _ _ _ _ _ _ _ _ gv35_0 gf35_0 _ _ _ _ _ _ _ _ _ _ _ _ _ _ _ _ _ _ _ _ _ _ _ _ _ _ _ _ _ _ _ _ _ _ gv53_0 gf53_0 _ _ _ _ _ _ _ _ _ _ _ _ _ _ _ _ gv62_0 gf62_0 _ _ _ _ _ _ _ _ _ _ _ _ _ _ _ _ _ _ _ _ _ _ _ _ _ _ _ _ _ _ _ _ _ _ _ _ _ _ _ _ => (r_asB X))<|Drw.nil X X X X X X ⟨t_kr, X, t_kr, X, t_kr, X, X, t_kr, cx_nil⟩ ?_
 intro hE447 w448 _ le449 st450 gv0_0x451 gf0_0x451 _ _ _ _ gv3_x451 gf3_x451 _ _ _ _ _ _ _ _ _ _ gv9_x451 gf9_x451 _ _ _ _ _ _ _ _ _ _ gv15_x451 gf15_x451 _ _ _ _ _ _ _ _ _ _ _ _ _ _ _ _ _ _ _ _ _ _ _ _ _ _ _ _ _ _ _ _ _ _ _ _ _ _ gv35_0x451 gf35_0x451 _ _ _ _ _ _ _ _ _ _ _ _ _ _ _ _ _ _ _ _ _ _ _ _ _ _ _ _ _ _ _ _ _ _ gv53_0x451 gf53_0x451 _ _ _ _ _ _ _ _ _ _ _ _ _ _ _ _ gv62_0x451 gf62_0x451 _ _ _ _ _ _ _ _ _ _ _ _ _ _ _ _ _ _ _ _ _ _ _ _ _ _ _ _ _ _ _ _ _ _ _ _ _ _ _ _ _ _
 obtain ⟨gv3_0x451, gv3_1x451, rfl, gf3_0x451, gf3_1x451⟩ := gf3_x451
 obtain ⟨gv9_0x451, gv9_1x451, rfl, gf9_0x451, gf9_1x451⟩ := gf9_x451
 obtain ⟨gv15_0x451, gv15_1x451, rfl, gf15_0x451, gf15_1x451⟩ := gf15_x451
 refine AllDeps.fin X<|U<|zk<|O Tryz.results13 ?_
 refine ⟨hE447, _, rfl, st450.done, ?_⟩
 refine zn ?_
 have q : (addN textE (lexE [d5E]) d4E).decisions[3]? = some y4 := hy4
 rw [addN54] at q
 have q2 : some d4E = some y4 := q
 cases q2; simp
end Go.Pk
