/- A PART OF THE PROOF: contracts of functions, each walked once (much of it printed by a program of the author's own). -/
import Derived.Test.YtfgkfdglomngiaaGreatDoorT10
import Derived.Test.YtfgkfdglomngiaaGreatDoorT3
set_option linter.unusedSimpArgs false
set_option linter.unusedVariables false
namespace Go.Pk
open Go Go.RowKit Go.Proofs
set_option maxRecDepth 4000 in
set_option maxHeartbeats 4000000 in
theorem c_postillaw04_StemWins {h : Heap} {w : World} (hs : Sub h w) {t : Text} {t_v0 : Value} (t_f0 : Sl LChapter h t_v0 t.chapters) {x : Lexicon} {x_v0 : Value} (x_f0 : Sl LRule h x_v0 x.rules) {x_v1 : Value} (x_f1 : Sl LDecision h x_v1 x.decisions) (number : Int) (number_l : 0 ≤ number ∧ number ≤ 65535) (K0 : Cells h 0 0 Tryz.glob0) : Calls Tryz.prog 6 #[.agg #[t_v0], .agg #[x_v0, x_v1], .int .u16 number] w (Rets h w (fun _ _ res_ => res_ = .bool (true))) := by
 refine zB (n := 246) (args := [.agg #[t_v0], .agg #[x_v0, x_v1], .int .u16 number]) Tryz.func6 X X X ?_
 have st0 : St h w h w [] := St.start hs
 have t_f0_b := t_f0.le
 have x_f0_b := x_f0.le
 have x_f1_b := x_f1.le
 refine W.sr<|zn st0 (cs := [t_v0]) X X X ?_
 intro b1 w2 h3 le4 hc5 st6
 refine zn st6 (cs := [x_v0, x_v1]) X X X ?_
 intro b7 w8 h9 le10 hc11 st12
 refine v_asB X X<|M<|W.sr<|O st12 X X X Tryz.call13 X (c_postillaw04_alive st12.sub (K0.up (le4.trans le10))) ?_
 intro r13 w14 h15 le16 st17 q18
 obtain rfl := q18
 refine v_asB X X<|M<|zl<|W.sr<|v_load_call st17.sub (hc5.up (le10.trans le16)) X Tryz.isAgg24 Tryz.sizeOf24 X X<|v_load_call st17.sub (hc11.up le16) X Tryz.isAgg28 Tryz.sizeOf28 X X<|O st17 X X X Tryz.call14 X (zae st17.sub (t := t) (t_f0.up ((le4.trans le10).trans le16)) (x := x) (x_f0.up ((le4.trans le10).trans le16)) (x_f1.up ((le4.trans le10).trans le16))) ?_
 intro r19 w20 h21 le22 st23 q24
 obtain rfl := q24
 refine v_not X X<|v_mvB X X ?_
 refine zk (d := 34) rfl (fun g25 => ?_) (fun g25 => ?_)
 ·
  refine Z X X X X X<|Z X X X X X<|v_pickT (v := (.bool _)) X X X<|M ?_
  refine zh rfl (fun c26 => ?_) (fun c26 => ?_)
  ·
   refine W.sr<|v_mvB X X<|v_asB X X<|M<|zq<|zc<|za Tryz.results6 ?_
   refine ⟨h21, _, rfl, st23.done, ?_⟩
   refine zj ?_
   first | rfl | (simp_all; done)
  ·
   cases c26
 ·
  refine Y X X (d := 34) X<|v_mvB X X<|Y X X (d := 34) X<|v_not X X<|v_pickF (v := (.bool _)) X X X<|M ?_
  refine zh rfl (fun c27 => ?_) (fun c27 => ?_)
  ·
   cases c27
  ·
   refine zo<|U<|zl ?_
   obtain ⟨⟨hs1, hs2⟩, hx0⟩ : (smallT t = true ∧ smallX x = true) ∧ checkN t x = 0 := by simpa using g25
   have ht0 := check_text hx0
   have hok := okD_of hx0
   have hpl := places_len ht0
   have hpp := places_pos ht0
   have hdl := lexicon_20 hx0
   have hrl := lexicon_12 hx0
   refine zg<|v_load_call st23.sub (hc5.up ((le10.trans le16).trans le22)) X Tryz.isAgg24 Tryz.sizeOf24 X X ?_
   refine O st23 rfl rfl rfl Tryz.call19 rfl (c_postilref01_All st23.sub (t := t) (t_f0.up (((le4.trans le10).trans le16).trans le22)) (by exact ht0)) ?_
   intro r28 w29 h30 le31 st32 q33
   obtain ⟨v34, e36, f35⟩ := q33
   rw [← e36] at f35
   have f35_b := f35.le
   refine v_assign (v := r28) X X<|M<|W.sr<|v_move (v := r28) X X<|v_mvI X X ?_
   refine ze rfl rfl (r_conv_int rfl rfl Tryz.underlying3 (IntWalk.i64_in _ (by omega))) ?_
   refine v_move (v := r28) X X<|v_len f35 X Tryz.underlying37 X<|ze X X (r_rem X X t_om) ?_
   have hp : ∃ y_, ((placesT (t)))[(number.toNat % (placesT t).length)]? = some y_ := ⟨_, List.getElem?_eq_getElem (by exact Nat.mod_lt _ hpp)⟩
   obtain ⟨p, hp⟩ := hp
   obtain ⟨b37, o38, _, he40, hc39, hr_p⟩ := Sl.elem f35 hp
   obtain rfl := hr_p
   refine ze rfl rfl (zR he40 rfl rfl (hk := (show _ = (((number.toNat % (placesT t).length) : Nat) : Int) by exact tmod_nat (by omega))) (hu := Tryz.underlying37) (hz := Tryz.sizeOf30)) ?_
   refine v_load_call st32.sub hc39 X Tryz.isAgg30 Tryz.sizeOf30 X X<|zy st32 Tryz.zeroValue30 X X ?_
   intro b41 w42 st43
   refine zp st43 (k := 0) X X X (E X (E X (E X zJ))) Tryz.sizeOf30 X X X ?_
   intro w44 st45
   obtain ⟨h46, le47, hb48, st50⟩ := st45.freeze (k := 0) rfl
   have hc49 := Cells.of hb48
   refine M<|zl ?_
   have hp0 : placeB t p = true := placesT_mem (List.mem_of_getElem? hp)
   have hw12 := wordD_len ht0 hp0
   have hwd := wordD_word ht0 hp0
   have hsl := stepsN_len x.rules 4 (wordD t p)
   have hwo := winD_ok hx0 hp0
   refine zg<|v_load_call st50.sub (hc5.up ((((le10.trans le16).trans le22).trans le31).trans le47)) X Tryz.isAgg24 Tryz.sizeOf24 X X<|v_load_call st50.sub hc49 X Tryz.isAgg30 Tryz.sizeOf30 X X ?_
   have con := (c_leaf_At st50.sub (t := t) (t_f0.up (((((le4.trans le10).trans le16).trans le22).trans le31).trans le47)) (p := p))
   rw [at_word ht0, at_err ht0 hp0] at con
   refine O st50 X X X Tryz.call20 X con ?_
   intro r51 w52 h53 le54 st55 q56
   obtain rfl := q56
   clear con
   refine v_mvT X X<|v_extract (v := (strV _)) X X X<|v_extract (v := (.int _ _)) X X X<|v_asS X X<|v_asI X X<|M<|W.sr<|v_load_call st55.sub (hc5.up (((((le10.trans le16).trans le22).trans le31).trans le47).trans le54)) X Tryz.isAgg24 Tryz.sizeOf24 X X<|v_load_call st55.sub (hc11.up ((((le16.trans le22).trans le31).trans le47).trans le54)) X Tryz.isAgg28 Tryz.sizeOf28 X X ?_
   have con := (c_stem_Standing st55.sub (t := t) (t_f0.up ((((((le4.trans le10).trans le16).trans le22).trans le31).trans le47).trans le54)) (x := x) (x_f0.up ((((((le4.trans le10).trans le16).trans le22).trans le31).trans le47).trans le54)) (x_f1.up ((((((le4.trans le10).trans le16).trans le22).trans le31).trans le47).trans le54)) (K0.up ((((((le4.trans le10).trans le16).trans le22).trans le31).trans le47).trans le54)))
   rw [standN_eq hx0, hx0] at con
   refine O st55 X X X Tryz.call18 X con ?_
   intro r57 w58 h59 le60 st61 q62
   obtain ⟨v63, rfl, f64⟩ := q62
   have f64_b := f64.le
   clear con
   refine v_mvT X X<|v_extract (v := v63) X X X<|v_extract (v := (.int _ _)) X X X<|v_assign (v := v63) X X<|v_asI X X<|M<|W.sr<|v_load_call st61.sub (hc5.up ((((((le10.trans le16).trans le22).trans le31).trans le47).trans le54).trans le60)) X Tryz.isAgg24 Tryz.sizeOf24 X X<|v_load_call st61.sub (hc11.up (((((le16.trans le22).trans le31).trans le47).trans le54).trans le60)) X Tryz.isAgg28 Tryz.sizeOf28 X X<|v_load_call st61.sub (hc49.up (le54.trans le60)) X Tryz.isAgg30 Tryz.sizeOf30 X X ?_
   have con := (c_stem_HeadOf st61.sub (t := t) (t_f0.up (((((((le4.trans le10).trans le16).trans le22).trans le31).trans le47).trans le54).trans le60)) (x := x) (x_f0.up (((((((le4.trans le10).trans le16).trans le22).trans le31).trans le47).trans le54).trans le60)) (x_f1.up (((((((le4.trans le10).trans le16).trans le22).trans le31).trans le47).trans le54).trans le60)) (p := p) (K0.up (((((((le4.trans le10).trans le16).trans le22).trans le31).trans le47).trans le54).trans le60)))
   rw [askR_win hx0 hp0, askE_eq hx0 hp0] at con
   refine O st61 X X X Tryz.call33 X con ?_
   intro r65 w66 h67 le68 st69 q70
   obtain rfl := q70
   clear con
   refine v_mvT X X<|v_extract (v := (.agg (List.toArray _))) X X X<|v_extract (v := (.int _ _)) X X X<|zy st69 Tryz.zeroValue32 X X ?_
   intro b71 w72 st73
   refine zp st73 (k := 1) X X X (E X (E X zJ)) Tryz.sizeOf32 X X X ?_
   intro w74 st75
   obtain ⟨h76, le77, hb78, st80⟩ := st75.freeze (k := 1) rfl
   have hc79 := Cells.of hb78
   refine v_asI X X<|M<|W.sr<|v_load_call st80.sub (hc5.up ((((((((le10.trans le16).trans le22).trans le31).trans le47).trans le54).trans le60).trans le68).trans le77)) X Tryz.isAgg24 Tryz.sizeOf24 X X<|v_load_call st80.sub (hc11.up (((((((le16.trans le22).trans le31).trans le47).trans le54).trans le60).trans le68).trans le77)) X Tryz.isAgg28 Tryz.sizeOf28 X X<|v_load_call st80.sub (hc49.up (((le54.trans le60).trans le68).trans le77)) X Tryz.isAgg30 Tryz.sizeOf30 X X ?_
   have con := (c_stem_By st80.sub (t := t) (t_f0.up (((((((((le4.trans le10).trans le16).trans le22).trans le31).trans le47).trans le54).trans le60).trans le68).trans le77)) (x := x) (x_f0.up (((((((((le4.trans le10).trans le16).trans le22).trans le31).trans le47).trans le54).trans le60).trans le68).trans le77)) (x_f1.up (((((((((le4.trans le10).trans le16).trans le22).trans le31).trans le47).trans le54).trans le60).trans le68).trans le77)) (p := p) (K0.up (((((((((le4.trans le10).trans le16).trans le22).trans le31).trans le47).trans le54).trans le60).trans le68).trans le77)))
   rw [askR_win hx0 hp0, askE_eq hx0 hp0] at con
   refine O st80 X X X Tryz.call22 X con ?_
   intro r81 w82 h83 le84 st85 q86
   obtain rfl := q86
   clear con
   refine v_mvT X X<|v_extract (v := (.int _ _)) X X X<|v_extract (v := (.int _ _)) X X X<|v_asI X X<|v_asI X X<|M<|W.sr<|v_load_call st85.sub (hc5.up (((((((((le10.trans le16).trans le22).trans le31).trans le47).trans le54).trans le60).trans le68).trans le77).trans le84)) X Tryz.isAgg24 Tryz.sizeOf24 X X<|v_load_call st85.sub (hc11.up ((((((((le16.trans le22).trans le31).trans le47).trans le54).trans le60).trans le68).trans le77).trans le84)) X Tryz.isAgg28 Tryz.sizeOf28 X X<|v_mvS X X ?_
   have con := (c_stem_Steps st85.sub (t := t) (t_f0.up ((((((((((le4.trans le10).trans le16).trans le22).trans le31).trans le47).trans le54).trans le60).trans le68).trans le77).trans le84)) (x := x) (x_f0.up ((((((((((le4.trans le10).trans le16).trans le22).trans le31).trans le47).trans le54).trans le60).trans le68).trans le77).trans le84)) (x_f1.up ((((((((((le4.trans le10).trans le16).trans le22).trans le31).trans le47).trans le54).trans le60).trans le68).trans le77).trans le84)) (word := ((wordD t p))) zT (K0.up ((((((((((le4.trans le10).trans le16).trans le22).trans le31).trans le47).trans le54).trans le60).trans le68).trans le77).trans le84)))
   rw [stepsR_eq hx0 hwd, stepsE_eq hx0 hwd] at con
   refine O st85 X X X Tryz.call31 X con ?_
   intro r87 w88 h89 le90 st91 q92
   obtain ⟨v93, rfl, f94⟩ := q92
   have f94_b := f94.le
   clear con
   refine v_mvT X X<|v_extract (v := v93) X X X<|v_extract (v := (.int _ _)) X X X<|v_assign (v := v93) X X<|v_asI X X<|M<|zl<|W.sr<|v_mvI X X<|v_neq X X X<|v_mvB X X<|Y X X (d := 84) X<|v_mvI X X<|Y X X (d := 84) X<|v_neq X X X<|v_pickF (v := (.bool _)) X X X<|v_mvB X X<|Y X X (d := 88) X<|v_mvI X X<|Y X X (d := 88) X<|v_neq X X X<|v_pickF (v := (.bool _)) X X X<|v_mvB X X<|Y X X (d := 92) X<|v_mvI X X<|Y X X (d := 92) X<|v_neq X X X<|v_pickF (v := (.bool _)) X X X ?_
   refine v_mvB X X<|Y X X (d := 96) X<|v_mvI X X<|Y X X (d := 96) X<|v_neq X X X<|v_pickF (v := (.bool _)) X X X<|v_mvB X X<|Y X X (d := 100) X<|v_move (v := v93) X X<|Y X X (d := 100) X<|v_len f94 X Tryz.underlying62 X<|Y X X (d := 100) X<|v_eql X X X<|v_pickF (v := (.bool _)) X X X<|M ?_
   refine zh rfl (fun c95 => ?_) (fun c95 => ?_)
   ·
    replace c95 := of_decide_eq_true c95
    exfalso
    have sure_ : (decide (((stepsN x.rules 4 (wordD t p)).length : Int) = 0)) = false := by exact decide_eq_false (by omega)
    exact of_decide_eq_false sure_ c95
   ·
    replace c95 := of_decide_eq_false c95
    refine zo<|U<|W.sr<|OpsL.makeMap (κ := Int) (υ := Bool) (ek := (fun n : Int => .int .i64 n)) (eu := (fun b : Bool => .bool b)) st91 X ?_
    intro v96 o97 w98 f99 st100
    obtain ⟨mb101, rfl⟩ := f99.form
    have nd102 : (([] : List (Int × Bool)).map (·.1)).Nodup := by simp
    refine v_assign (v := (.map (some mb101))) X X<|M<|zl<|W.sr<|v_move (v := v63) X X<|v_len (f64.up (((le68.trans le77).trans le84).trans le90)) X Tryz.underlying46 X<|v_mvI X X<|M<|zw ?_
    refine zQ [22, 108, 109, 110, 111, 112, 113, 114] (G := Nat × List (Nat × Obj) × Heap) (fun ⟨k, o_20, h103⟩ => [(108, .int .i64 (k : Int))]) (fun ⟨k, o_20, h103⟩ w' => Le h89 h103 ∧ St h w h103 w' [[], [], o_20] ∧ (OM (fun n : Int => .int .i64 n) (fun b : Bool => .bool b) (trM ((standS x).take k)) o_20 (.map (some mb101))) ∧ (((trM ((standS x).take k)).map (·.1)).Nodup) ∧ (k ≤ (standS x).length)) (fun ⟨k, o_20, h103⟩ => (standS x).length - k) ⟨0, o97, h89⟩ ⟨rfl, trivial⟩ ⟨Le.refl _, st100, (by have q := f99; exact q), (by have q := nd102; exact q), zZ⟩ ?_
    rintro ⟨k, o_20, h103⟩ _ w106 ⟨le104, st105, hM_20, hN_20, hk⟩
    refine W.sr<|v_lss X X X<|M<|zl ?_
    refine zh rfl (fun c107 => ?_) (fun c107 => ?_)
    ·
     replace c107 := of_decide_eq_true c107
     refine zo<|U<|zl<|zw<|W.sr ?_
     have hn : ∃ y_, ((standS x))[k]? = some y_ := ⟨_, List.getElem?_eq_getElem (by omega)⟩
     obtain ⟨n, hn⟩ := hn
     obtain ⟨b108, o109, _, he111, hc110, hr_n⟩ := Sl.elem (f64.up ((((le68.trans le77).trans le84).trans le90).trans le104)) hn
     obtain rfl := hr_n
     refine v_index_el he111 X X (hk := X) (hu := Tryz.underlying46) (hz := Tryz.sizeOf3) X<|v_load_cells1 (j := 0) st105.sub hc110 X X X Tryz.isAgg3 X<|v_asI X X<|M<|zg<|v_move (v := (.map (some mb101))) X X<|v_mvI X X<|OpsL.mapUpdate (i := 2) st105 hM_20 X hN_20 (key_int Tryz.underlying3) Tryz.underlying49 X (k := n) X (u := true) X ?_
     intro o112 w113 _ e114 f115 nd116 st117
     subst e114
     refine zm<|zt<|U<|zg<|v_add X X t_om X<|v_mvI X X<|M ?_
     refine ⟨⟨k + 1, o112, h103⟩, ⟨rfl, trivial⟩, ?_, ⟨le104, st117, ?_, ?_, ?_⟩, ?_⟩
     ·exact zU
     ·have q := f115
      rw [tr_fill (standS_nodup hok) hn] at q; exact q
     ·have q := nd116
      rw [tr_fill (standS_nodup hok) hn] at q; exact q
     ·first | omega | (simp; omega)
     ·show (standS x).length - ((k + 1)) < (standS x).length - k
      omega
    ·
     replace c107 := of_decide_eq_false c107
     refine zS<|zi<|zi<|zM<|U<|zl ?_
     have f118 : OM (fun n : Int => .int .i64 n) (fun b : Bool => .bool b) ((trM (standS x))) o_20 (.map (some mb101)) := by have q := hM_20; rw [List.take_of_length_le (by omega)] at q; exact q
     have nd119 : (((trM (standS x))).map (·.1)).Nodup := by have q := hN_20; rw [List.take_of_length_le (by omega)] at q; exact q
     refine zg<|zy st105 Tryz.zeroValue34 X X ?_
     intro b120 w121 st122
     refine M<|W.sr<|v_asB X X<|M<|zl<|W.sr<|v_field_addr X Tryz.underlying28 X Tryz.sizeOf26 X X<|v_load_cells1 (j := 1) st122.sub (hc11.up ((((((((((le16.trans le22).trans le31).trans le47).trans le54).trans le60).trans le68).trans le77).trans le84).trans le90).trans le104)) X X X Tryz.isAgg26 X<|v_len (x_f1.up ((((((((((((le4.trans le10).trans le16).trans le22).trans le31).trans le47).trans le54).trans le60).trans le68).trans le77).trans le84).trans le90).trans le104)) X Tryz.underlying26 X<|v_mvI X X<|M<|zw ?_
     refine zQ [24, 26, 118, 119, 120, 121, 122, 123, 124, 125, 126, 127, 128, 129, 130, 131, 132, 133, 134, 135, 136, 137, 138, 139, 140] (G := Nat × Decision × Heap) (fun ⟨k, wn, h123⟩ => [(24, .bool ((x.decisions.take k).any (someS x p (wordD t p)))), (118, .int .i64 (k : Int))]) (fun ⟨k, wn, h123⟩ w' => Le h103 h123 ∧ St h w h123 w' [[], [], o_20, [(b120, .cells (List.toArray [.int .i64 (wn.number), .int .u8 (wn.kind), strV (wn.form), .int .i64 (wn.at_.chapter), .int .i64 (wn.at_.line), .int .i64 (wn.at_.word), strV (wn.to.stem), .int .u8 (wn.to.mark), .int .i64 (wn.of_)]) 34)]] ∧ (k ≤ x.decisions.length) ∧ (wn = wonF (x.decisions.take k) (winD x p (wordD t p)).number) ∧ ((0 ≤ wn.kind ∧ wn.kind ≤ 255) ∧ wn.form.length ≤ 281474976710656 ∧ wn.to.stem.length ≤ 281474976710656 ∧ (0 ≤ wn.to.mark ∧ wn.to.mark ≤ 255))) (fun ⟨k, wn, h123⟩ => x.decisions.length - k) ⟨0, zDecision, h103⟩ ⟨rfl, rfl, trivial⟩ ⟨Le.refl _, st122, zZ, (by rfl), (by refine ⟨?_, ?_, ?_, ?_⟩ <;> (simp [zDecision, zHead]; done))⟩ ?_
     rintro ⟨k, wn, h123⟩ _ w126 ⟨le124, st125, hk, hw, hb⟩
     obtain ⟨hb1, hb2, hb3, hb4⟩ := hb
     refine W.sr<|v_lss X X X<|M<|zl ?_
     refine zh rfl (fun c127 => ?_) (fun c127 => ?_)
     ·
      replace c127 := of_decide_eq_true c127
      refine zo<|U<|zl<|zw<|W.sr ?_
      have hd : ∃ y_, (x.decisions)[k]? = some y_ := ⟨_, List.getElem?_eq_getElem (by omega)⟩
      obtain ⟨d, hd⟩ := hd
      obtain ⟨b128, o129, _, he131, hc130, hr_d⟩ := Sl.elem (x_f1.up (((((((((((((le4.trans le10).trans le16).trans le22).trans le31).trans le47).trans le54).trans le60).trans le68).trans le77).trans le84).trans le90).trans le104).trans le124)) hd
      obtain ⟨rfl, lu132, ls133, ls134, lu135⟩ := hr_d
      simp only [big] at ls133
      simp only [big] at ls134
      refine v_index_el he131 X X (hk := X) (hu := Tryz.underlying26) (hz := Tryz.sizeOf34) X<|v_load_call st125.sub hc130 X Tryz.isAgg34 Tryz.sizeOf34 X X<|zy st125 Tryz.zeroValue34 X X ?_
      intro b136 w137 st138
      refine zp st138 (k := 4) X X X (E X (E X (E X (E X (E X (E X (E X (E X (E X zJ))))))))) Tryz.sizeOf34 X X X ?_
      intro w139 st140
      obtain ⟨h141, le142, hb143, st145⟩ := st140.freeze (k := 4) rfl
      have hc144 := Cells.of hb143
      refine M<|zl<|W.sr<|v_field_addr X Tryz.underlying34 X Tryz.sizeOf3 X X<|v_load_cells1 (j := 0) st145.sub hc144 X X X Tryz.isAgg3 X<|v_mvI X X<|v_eql X X X<|M ?_
      refine zh rfl (fun c146 => ?_) (fun c146 => ?_)
      ·
       replace c146 := of_decide_eq_true c146
       refine zg<|v_load_call st145.sub hc144 X Tryz.isAgg34 Tryz.sizeOf34 X X<|zp st145 (k := 3) X X X (E X (E X (E X (E X (E X (E X (E X (E X (E X zJ))))))))) Tryz.sizeOf34 X X X ?_
       intro w147 st148
       refine M<|zg<|v_mvB X X<|v_mvB X X ?_
       refine zk (d := 128) rfl (fun g149 => ?_) (fun g149 => ?_)
       ·
        refine Z X X X X X<|Z X X X X X<|Z X X X X X<|Z X X X X X<|Z X X X X X<|zd X X (d := 133) X X<|zd X X (d := 133) X X<|zd X X (d := 133) X X<|zd X X (d := 133) X X<|Z X X X X X<|v_pickT (v := (.bool _)) X X X<|v_asB X X<|zm<|zt<|U<|zg<|v_add X X t_om X<|v_mvI X X<|M ?_
        refine ⟨⟨k + 1, d, h141⟩, ⟨?_, rfl, trivial⟩, ?_, ⟨(le124.trans le142), st148.take 4, ?_, ?_, ?_⟩, ?_⟩
        ·exact zj (by rw [any_snoc hd]; simp_all [someS, tr_look])
        ·exact zU
        ·first | omega | (simp; omega)
        ·rw [wonF_snoc hd, if_pos (by assumption)]
        ·exact ⟨by assumption, by assumption, by assumption, by assumption⟩
        ·show x.decisions.length - ((k + 1)) < x.decisions.length - k
         omega
       ·
        refine Y X X (d := 128) X<|v_move (v := (.map (some mb101))) X X<|Y X X (d := 128) X<|v_field_addr X Tryz.underlying34 X Tryz.sizeOf3 X X<|Y X X (d := 128) X<|v_load_cells1 (j := 0) st148.sub hc144 X X X Tryz.isAgg3 X<|Y X X (d := 128) X<|ze X X (r_look (k := (d.number)) (zu := false) (key_int Tryz.underlying3) Tryz.underlying49 f118 (st148.ent (k := 2) X) Tryz.zeroValue4 X X X)<|Y X X (d := 128) X<|v_mvB X X ?_
        refine zk (d := 133) rfl (fun g150 => ?_) (fun g150 => ?_)
        ·
         refine Y X X (d := 133) X<|v_load_call st148.sub hc144 X Tryz.isAgg34 Tryz.sizeOf34 X X<|Y X X (d := 133) X<|v_load_call st148.sub (hc49.up ((((((((le54.trans le60).trans le68).trans le77).trans le84).trans le90).trans le104).trans le124).trans le142)) X Tryz.isAgg30 Tryz.sizeOf30 X X<|Y X X (d := 133) X<|v_mvS X X<|Y X X (d := 133) X<|O st148 X X X Tryz.call21 X (c_postilref04_Concerns st148.sub (d := d) t_u8 zT zT t_u8 (p := p) _ zT) ?_
         intro r151 w152 h153 le154 st155 q156
         obtain rfl := q156
         refine Y X X (d := 128) X<|v_pickT (v := (.bool _)) X X X<|v_pickF (v := (.bool _)) X X X<|v_asB X X<|zm<|zt<|U<|zg<|v_add X X t_om X<|v_mvI X X<|M ?_
         refine ⟨⟨k + 1, d, h153⟩, ⟨?_, rfl, trivial⟩, ?_, ⟨((le124.trans le142).trans le154), st155.take 4, ?_, ?_, ?_⟩, ?_⟩
         ·exact zj (by rw [any_snoc hd]; simp_all [someS, tr_look])
         ·exact zU
         ·first | omega | (simp; omega)
         ·rw [wonF_snoc hd, if_pos (by assumption)]
         ·exact ⟨by assumption, by assumption, by assumption, by assumption⟩
         ·show x.decisions.length - ((k + 1)) < x.decisions.length - k
          omega
        ·
         refine Z X X X X X<|Z X X X X X<|Z X X X X X<|Z X X X X X<|Y X X (d := 128) X<|v_pickF (v := (.bool _)) X X X<|v_pickF (v := (.bool _)) X X X<|v_asB X X<|zm<|zt<|U<|zg<|v_add X X t_om X<|v_mvI X X<|M ?_
         refine ⟨⟨k + 1, d, h141⟩, ⟨?_, rfl, trivial⟩, ?_, ⟨(le124.trans le142), st148.take 4, ?_, ?_, ?_⟩, ?_⟩
         ·exact zj (by rw [any_snoc hd]; simp_all [someS, tr_look])
         ·exact zU
         ·first | omega | (simp; omega)
         ·rw [wonF_snoc hd, if_pos (by assumption)]
         ·exact ⟨by assumption, by assumption, by assumption, by assumption⟩
         ·show x.decisions.length - ((k + 1)) < x.decisions.length - k
          omega
      ·
       replace c146 := of_decide_eq_false c146
       refine zo<|U<|zg<|v_mvB X X<|v_mvB X X ?_
       refine zk (d := 128) rfl (fun g157 => ?_) (fun g157 => ?_)
       ·
        refine Z X X X X X<|Z X X X X X<|Z X X X X X<|Z X X X X X<|Z X X X X X<|zd X X (d := 133) X X<|zd X X (d := 133) X X<|zd X X (d := 133) X X<|zd X X (d := 133) X X<|Z X X X X X<|v_pickT (v := (.bool _)) X X X<|v_asB X X<|zm<|zt<|U<|zg<|v_add X X t_om X<|v_mvI X X<|M ?_
        refine ⟨⟨k + 1, wn, h141⟩, ⟨?_, rfl, trivial⟩, ?_, ⟨(le124.trans le142), st145.take 4, ?_, ?_, ?_⟩, ?_⟩
        ·exact zj (by rw [any_snoc hd]; simp_all [someS, tr_look])
        ·exact zU
        ·first | omega | (simp; omega)
        ·rw [wonF_snoc hd, if_neg (by assumption)]; exact hw
        ·exact ⟨by assumption, by assumption, by assumption, by assumption⟩
        ·show x.decisions.length - ((k + 1)) < x.decisions.length - k
         omega
       ·
        refine Y X X (d := 128) X<|v_move (v := (.map (some mb101))) X X<|Y X X (d := 128) X<|v_field_addr X Tryz.underlying34 X Tryz.sizeOf3 X X<|Y X X (d := 128) X<|v_load_cells1 (j := 0) st145.sub hc144 X X X Tryz.isAgg3 X<|Y X X (d := 128) X<|ze X X (r_look (k := (d.number)) (zu := false) (key_int Tryz.underlying3) Tryz.underlying49 f118 (st145.ent (k := 2) X) Tryz.zeroValue4 X X X)<|Y X X (d := 128) X<|v_mvB X X ?_
        refine zk (d := 133) rfl (fun g158 => ?_) (fun g158 => ?_)
        ·
         refine Y X X (d := 133) X<|v_load_call st145.sub hc144 X Tryz.isAgg34 Tryz.sizeOf34 X X<|Y X X (d := 133) X<|v_load_call st145.sub (hc49.up ((((((((le54.trans le60).trans le68).trans le77).trans le84).trans le90).trans le104).trans le124).trans le142)) X Tryz.isAgg30 Tryz.sizeOf30 X X<|Y X X (d := 133) X<|v_mvS X X<|Y X X (d := 133) X<|O st145 X X X Tryz.call21 X (c_postilref04_Concerns st145.sub (d := d) t_u8 zT zT t_u8 (p := p) _ zT) ?_
         intro r159 w160 h161 le162 st163 q164
         obtain rfl := q164
         refine Y X X (d := 128) X<|v_pickT (v := (.bool _)) X X X<|v_pickF (v := (.bool _)) X X X<|v_asB X X<|zm<|zt<|U<|zg<|v_add X X t_om X<|v_mvI X X<|M ?_
         refine ⟨⟨k + 1, wn, h161⟩, ⟨?_, rfl, trivial⟩, ?_, ⟨((le124.trans le142).trans le162), st163.take 4, ?_, ?_, ?_⟩, ?_⟩
         ·exact zj (by rw [any_snoc hd]; simp_all [someS, tr_look])
         ·exact zU
         ·first | omega | (simp; omega)
         ·rw [wonF_snoc hd, if_neg (by assumption)]; exact hw
         ·exact ⟨by assumption, by assumption, by assumption, by assumption⟩
         ·show x.decisions.length - ((k + 1)) < x.decisions.length - k
          omega
        ·
         refine Z X X X X X<|Z X X X X X<|Z X X X X X<|Z X X X X X<|Y X X (d := 128) X<|v_pickF (v := (.bool _)) X X X<|v_pickF (v := (.bool _)) X X X<|v_asB X X<|zm<|zt<|U<|zg<|v_add X X t_om X<|v_mvI X X<|M ?_
         refine ⟨⟨k + 1, wn, h141⟩, ⟨?_, rfl, trivial⟩, ?_, ⟨(le124.trans le142), st145.take 4, ?_, ?_, ?_⟩, ?_⟩
         ·exact zj (by rw [any_snoc hd]; simp_all [someS, tr_look])
         ·exact zU
         ·first | omega | (simp; omega)
         ·rw [wonF_snoc hd, if_neg (by assumption)]; exact hw
         ·exact ⟨by assumption, by assumption, by assumption, by assumption⟩
         ·show x.decisions.length - ((k + 1)) < x.decisions.length - k
          omega
     ·
      replace c127 := of_decide_eq_false c127
      refine zS<|zi<|zi<|zM<|U<|zl<|zl ?_
      obtain ⟨h165, le166, hb167, st169⟩ := st125.freeze (k := 3) rfl
      have hc168 := Cells.of hb167
      refine zg<|v_mvB X X<|v_not X X<|M ?_
      refine zh rfl (fun c170 => ?_) (fun c170 => ?_)
      ·
       refine zl ?_
       have hk2 : x.decisions.take k = x.decisions := List.take_of_length_le (by omega)
       have hno := some_no hok (p := p) (wd := wordD t p) (by rw [← hk2]; simpa using c170)
       refine zad Tryz.mixed t_kr (Cls h165 _) (Cls.drew st169)<|u_mvB X X<|u_mvB X X<|zx X X (d := 144) X<|u_mvI X X<|zx X X (d := 144) X<|u_eql X X X<|u_pickT (v := (.bool _)) X X X<|u_mvB X X ?_
       refine OpsQ.split (d := 148) rfl (fun g171 => ?_) (fun g171 => ?_)
       ·
        replace g171 := of_decide_eq_true g171
        refine zx X X (d := 148) X<|zr X X (fun _ hC => (zA hC.sub (hc79.up ((((le84.trans le90).trans le104).trans le124).trans le166)) X Tryz.isAgg32 Tryz.sizeOf32 X))<|zx X X (d := 148) X<|u_move (v := v93) X X<|zx X X (d := 148) X<|u_move (v := v93) X X<|zx X X (d := 148) X<|u_len (f94.up ((le104.trans le124).trans le166)) X Tryz.underlying62 X<|zx X X (d := 148) X<|u_sub X X t_om X<|zx X X (d := 148) X ?_
        have hs : ∃ y_, ((stepsN x.rules 4 (wordD t p)))[((stepsN x.rules 4 (wordD t p)).length - 1)]? = some y_ := ⟨_, List.getElem?_eq_getElem (by omega)⟩
        obtain ⟨s, hs⟩ := hs
        obtain ⟨b172, o173, _, he175, hc174, hr_s⟩ := Sl.elem (f94.up ((le104.trans le124).trans le166)) hs
        obtain ⟨rfl, ls176⟩ := hr_s
        simp only [big] at ls176
        refine zr rfl rfl (fun _ _ => (zR he175 rfl rfl (hk := (show _ = ((((stepsN x.rules 4 (wordD t p)).length - 1) : Nat) : Int) by omega)) (hu := Tryz.underlying62) (hz := Tryz.sizeOf9))) ?_
        refine zx X X (d := 148) X<|zr X X (fun _ hC => (zf (j := 0) hC.sub hc174 X X X Tryz.isAgg9))<|zx X X (d := 148) X ?_
        refine OpsQ.calls rfl rfl (fun _ => zW rfl Tryz.call34 rfl) (fun _ hC => Rets.quiet hC (zH hC.sub _ zT _ (by omega))) ?_
        refine zx X X (d := 148) X<|zr X X (fun _ _ => (r_steql X X Tryz.eqGuardType32 (Tryz.eq_Head (winD x p (wordD t p)).to (Head.mk (s) (0)))))<|u_pickT (v := (.bool _)) X X X<|u_asB X X<|zac ?_
        rintro w177 ⟨h178, s179⟩
        have st180 := st169.call0 s179
        refine U<|zq<|zc<|za Tryz.results6 ?_
        refine ⟨h178, _, rfl, st180.done, ?_⟩
        refine zj ?_
        have hse : ((stepsN x.rules 4 (wordD t p)).getLast?).getD [] = s := by rw [List.getLast?_eq_getElem?, hs]; rfl
        simp_all
       ·
        replace g171 := of_decide_eq_false g171
        exfalso
        have sure_ : (decide (((winD x p (wordD t p)).number) = 0)) = true := by rw [hno]; rfl
        exact g171 (of_decide_eq_true sure_)
      ·
       refine zo<|U<|zl<|zl ?_
       have hk2 : x.decisions.take k = x.decisions := List.take_of_length_le (by omega)
       have hyes := some_yes hok (p := p) (wd := wordD t p) (by rw [← hk2]; simpa using c170)
       obtain ⟨hw1, hw2, hw3, hw4, hw5⟩ := hyes
       have hwn : wn = winD x p (wordD t p) := by rw [hw, hk2]; exact wonF_at hok.1 hw1
       refine zg<|v_mvI X X<|v_eql X X X<|v_mvB X X ?_
       refine zk (d := 161) rfl (fun g181 => ?_) (fun g181 => ?_)
       ·
        replace g181 := of_decide_eq_true g181
        exfalso
        have sure_ : (decide (((winD x p (wordD t p)).number) = 0)) = false := by exact decide_eq_false (by omega)
        exact of_decide_eq_false sure_ g181
       ·
        replace g181 := of_decide_eq_false g181
        refine Y X X (d := 161) X<|v_field_addr X Tryz.underlying34 X Tryz.sizeOf3 X X<|Y X X (d := 161) X<|v_load_cells1 (j := 0) st169.sub hc168 X X X Tryz.isAgg3 X<|Y X X (d := 161) X<|v_mvI X X<|Y X X (d := 161) X<|v_neq X X X<|v_pickF (v := (.bool _)) X X X<|v_mvB X X ?_
        refine zk (d := 167) rfl (fun g182 => ?_) (fun g182 => ?_)
        ·
         replace g182 := of_decide_eq_true g182
         exfalso
         have sure_ : (decide ((wn.number) ≠ ((winD x p (wordD t p)).number))) = false := by rw [hwn]; simp
         exact of_decide_eq_false sure_ g182
        ·
         replace g182 := of_decide_eq_false g182
         refine Y X X (d := 167) X<|v_move (v := (.map (some mb101))) X X<|Y X X (d := 167) X<|v_mvI X X<|Y X X (d := 167) X<|ze X X (r_look (k := ((winD x p (wordD t p)).number)) (zu := false) (key_int Tryz.underlying3) Tryz.underlying49 f118 (st169.ent (k := 2) X) Tryz.zeroValue4 X X X)<|Y X X (d := 167) X<|v_not X X<|v_pickF (v := (.bool _)) X X X<|v_mvB X X ?_
         refine zk (d := 173) rfl (fun g183 => ?_) (fun g183 => ?_)
         ·
          exfalso
          have sure_ : ((!((look (trM (standS x)) ((winD x p (wordD t p)).number)).getD false))) = false := by rw [tr_look]; simp [hw3]
          exact absurd (g183.symm.trans sure_) (by decide)
         ·
          refine Y X X (d := 173) X<|v_load_call st169.sub (hc79.up ((((le84.trans le90).trans le104).trans le124).trans le166)) X Tryz.isAgg32 Tryz.sizeOf32 X X<|Y X X (d := 173) X<|v_field_addr X Tryz.underlying34 X Tryz.sizeOf32 X X<|Y X X (d := 173) X<|v_load_cellsN (j := 6) st169.sub hc168 (us := [strV (wn.to.stem), .int .u8 (wn.to.mark)]) X X Tryz.isAgg32 Tryz.sizeOf32 X X X<|Y X X (d := 173) X<|ze X X (r_stneq X X Tryz.eqGuardType32 (Tryz.eq_Head (winD x p (wordD t p)).to wn.to))<|v_pickF (v := (.bool _)) X X X<|v_mvB X X ?_
          refine zk (d := 179) rfl (fun g184 => ?_) (fun g184 => ?_)
          ·
           replace g184 := of_decide_eq_true g184
           exfalso
           have sure_ : (decide ((winD x p (wordD t p)).to ≠ wn.to)) = false := by rw [hwn]; simp
           exact of_decide_eq_false sure_ g184
          ·
           replace g184 := of_decide_eq_false g184
           refine Y X X (d := 179) X<|v_load_call st169.sub hc168 X Tryz.isAgg34 Tryz.sizeOf34 X X<|Y X X (d := 179) X<|v_load_call st169.sub (hc49.up ((((((((le54.trans le60).trans le68).trans le77).trans le84).trans le90).trans le104).trans le124).trans le166)) X Tryz.isAgg30 Tryz.sizeOf30 X X<|Y X X (d := 179) X<|v_mvS X X<|Y X X (d := 179) X<|O st169 X X X Tryz.call21 X (c_postilref04_Concerns st169.sub (d := wn) t_u8 zT zT t_u8 (p := p) _ zT) ?_
           intro r185 w186 h187 le188 st189 q190
           obtain rfl := q190
           refine Y X X (d := 179) X<|v_not X X<|v_pickF (v := (.bool _)) X X X<|M ?_
           refine zh rfl (fun c191 => ?_) (fun c191 => ?_)
           ·
            exfalso
            have sure_ : ((!(concB (wn) (p) (((wordD t p)))))) = false := by rw [hwn, hw4]; rfl
            exact absurd (c191.symm.trans sure_) (by decide)
           ·
            refine zo<|U<|zl<|W.sr<|v_field_addr X Tryz.underlying28 X Tryz.sizeOf26 X X<|v_load_cells1 (j := 1) st189.sub (hc11.up (((((((((((((le16.trans le22).trans le31).trans le47).trans le54).trans le60).trans le68).trans le77).trans le84).trans le90).trans le104).trans le124).trans le166).trans le188)) X X X Tryz.isAgg26 X<|v_len (x_f1.up (((((((((((((((le4.trans le10).trans le16).trans le22).trans le31).trans le47).trans le54).trans le60).trans le68).trans le77).trans le84).trans le90).trans le104).trans le124).trans le166).trans le188)) X Tryz.underlying26 X<|v_mvI X X<|M<|zw ?_
            refine zQ [6, 28, 189, 190, 191, 192, 193, 194, 195, 196, 197, 198, 199, 200, 201, 202, 203, 204, 205, 206, 207, 208, 209, 210, 211, 212, 213, 214, 215, 216, 217, 218, 219, 220, 221, 222, 223, 224, 225, 226, 227, 228, 229, 230, 231, 232, 233, 234, 235, 236, 237, 238, 239, 240, 241, 242, 243, 244] (G := Nat × Heap) (fun ⟨k, h192⟩ => [(189, .int .i64 (k : Int))]) (fun ⟨k, h192⟩ w' => Le h187 h192 ∧ St h w h192 w' [[], [], o_20, []] ∧ (k ≤ x.decisions.length)) (fun ⟨k, h192⟩ => x.decisions.length - k) ⟨0, h187⟩ ⟨rfl, trivial⟩ ⟨Le.refl _, st189, zZ⟩ ?_
            rintro ⟨k, h192⟩ _ w195 ⟨le193, st194, hk⟩
            refine W.sr<|v_lss X X X<|M<|zl ?_
            refine zh rfl (fun c196 => ?_) (fun c196 => ?_)
            ·
             replace c196 := of_decide_eq_true c196
             refine zo<|U<|zl<|zw<|W.sr ?_
             have he : ∃ y_, (x.decisions)[k]? = some y_ := ⟨_, List.getElem?_eq_getElem (by omega)⟩
             obtain ⟨e, he⟩ := he
             obtain ⟨b197, o198, _, he200, hc199, hr_e⟩ := Sl.elem (x_f1.up ((((((((((((((((le4.trans le10).trans le16).trans le22).trans le31).trans le47).trans le54).trans le60).trans le68).trans le77).trans le84).trans le90).trans le104).trans le124).trans le166).trans le188).trans le193)) he
             obtain ⟨rfl, lu201, ls202, ls203, lu204⟩ := hr_e
             simp only [big] at ls202
             simp only [big] at ls203
             refine v_index_el he200 X X (hk := X) (hu := Tryz.underlying26) (hz := Tryz.sizeOf34) X<|v_load_call st194.sub hc199 X Tryz.isAgg34 Tryz.sizeOf34 X X<|zy st194 Tryz.zeroValue34 X X ?_
             intro b205 w206 st207
             refine zp st207 (k := 4) X X X (E X (E X (E X (E X (E X (E X (E X (E X (E X zJ))))))))) Tryz.sizeOf34 X X X ?_
             intro w208 st209
             obtain ⟨h210, le211, hb212, st214⟩ := st209.freeze (k := 4) rfl
             have hc213 := Cells.of hb212
             refine M<|zl<|W.sr<|v_field_addr X Tryz.underlying34 X Tryz.sizeOf3 X X<|v_load_cells1 (j := 0) st214.sub hc213 X X X Tryz.isAgg3 X<|v_mvI X X<|v_eql X X X<|v_mvB X X ?_
             refine zk (d := 197) rfl (fun g215 => ?_) (fun g215 => ?_)
             ·
              replace g215 := of_decide_eq_true g215
              refine Z X X X X X<|Z X X X X X<|Z X X X X X<|Z X X X X X<|Z X X X X X<|v_pickT (v := (.bool _)) X X X<|v_mvB X X<|Z X X X X X<|Z X X X X X<|Z X X X X X<|Z X X X X X<|Z X X X X X<|v_pickT (v := (.bool _)) X X X<|M ?_
              refine zh rfl (fun c216 => ?_) (fun c216 => ?_)
              ·
               refine zS<|zi<|zM<|U<|zg<|v_add X X t_om X<|v_mvI X X<|M ?_
               refine ⟨⟨k + 1, h210⟩, ⟨rfl, trivial⟩, ?_, ⟨(le193.trans le211), st214.take 4, ?_⟩, ?_⟩
               ·exact zU
               ·first | omega | (simp; omega)
               ·show x.decisions.length - ((k + 1)) < x.decisions.length - k
                omega
              ·
               cases c216
             ·
              replace g215 := of_decide_eq_false g215
              refine Y X X (d := 197) X<|v_move (v := (.map (some mb101))) X X<|Y X X (d := 197) X<|v_field_addr X Tryz.underlying34 X Tryz.sizeOf3 X X<|Y X X (d := 197) X<|v_load_cells1 (j := 0) st214.sub hc213 X X X Tryz.isAgg3 X<|Y X X (d := 197) X<|ze X X (r_look (k := (e.number)) (zu := false) (key_int Tryz.underlying3) Tryz.underlying49 f118 (st214.ent (k := 2) X) Tryz.zeroValue4 X X X)<|Y X X (d := 197) X<|v_not X X<|v_pickF (v := (.bool _)) X X X<|v_mvB X X ?_
              refine zk (d := 204) rfl (fun g217 => ?_) (fun g217 => ?_)
              ·
               refine Z X X X X X<|Z X X X X X<|Z X X X X X<|Z X X X X X<|Z X X X X X<|v_pickT (v := (.bool _)) X X X<|M ?_
               refine zh rfl (fun c218 => ?_) (fun c218 => ?_)
               ·
                refine zS<|zi<|zM<|U<|zg<|v_add X X t_om X<|v_mvI X X<|M ?_
                refine ⟨⟨k + 1, h210⟩, ⟨rfl, trivial⟩, ?_, ⟨(le193.trans le211), st214.take 4, ?_⟩, ?_⟩
                ·exact zU
                ·first | omega | (simp; omega)
                ·show x.decisions.length - ((k + 1)) < x.decisions.length - k
                 omega
               ·
                cases c218
              ·
               refine Y X X (d := 204) X<|v_load_call st214.sub hc213 X Tryz.isAgg34 Tryz.sizeOf34 X X<|Y X X (d := 204) X<|v_load_call st214.sub (hc49.up (((((((((((le54.trans le60).trans le68).trans le77).trans le84).trans le90).trans le104).trans le124).trans le166).trans le188).trans le193).trans le211)) X Tryz.isAgg30 Tryz.sizeOf30 X X<|Y X X (d := 204) X<|v_mvS X X<|Y X X (d := 204) X<|O st214 X X X Tryz.call21 X (c_postilref04_Concerns st214.sub (d := e) t_u8 zT zT t_u8 (p := p) _ zT) ?_
               intro r219 w220 h221 le222 st223 q224
               obtain rfl := q224
               refine Y X X (d := 204) X<|v_not X X<|v_pickF (v := (.bool _)) X X X<|M ?_
               refine zh rfl (fun c225 => ?_) (fun c225 => ?_)
               ·
                refine zS<|zi<|zM<|U<|zg<|v_add X X t_om X<|v_mvI X X<|M ?_
                refine ⟨⟨k + 1, h221⟩, ⟨rfl, trivial⟩, ?_, ⟨((le193.trans le211).trans le222), st223.take 4, ?_⟩, ?_⟩
                ·exact zU
                ·first | omega | (simp; omega)
                ·show x.decisions.length - ((k + 1)) < x.decisions.length - k
                 omega
               ·
                refine zo<|U<|zw<|zl ?_
                have hem : e ∈ x.decisions := List.mem_of_getElem? he
                have hlx := lexD_law (hw5 e hem (by have q := g217; rw [tr_look] at q; simpa using q) (by simpa using c225) g215)
                rw [← hwn] at hlx
                refine zg<|v_field_addr X Tryz.underlying34 X Tryz.sizeOf5 X X<|v_load_cells1 (j := 1) st223.sub (hc213.up le222) X X X Tryz.isAgg5 X<|v_field_addr X Tryz.underlying34 X Tryz.sizeOf5 X X<|v_load_cells1 (j := 1) st223.sub (hc168.up (((le188.trans le193).trans le211).trans le222)) X X X Tryz.isAgg5 X<|v_gtr X X X<|v_asB X X<|M ?_
                refine zh rfl (fun c226 => ?_) (fun c226 => ?_)
                ·
                 replace c226 := of_decide_eq_true c226
                 exfalso
                 have sure_ : (decide ((e.kind) > (wn.kind))) = false := by exact decide_eq_false hlx.1
                 exact of_decide_eq_false sure_ c226
                ·
                 replace c226 := of_decide_eq_false c226
                 refine W.sr<|v_field_addr X Tryz.underlying34 X Tryz.sizeOf5 X X<|v_load_cells1 (j := 1) st223.sub (hc213.up le222) X X X Tryz.isAgg5 X<|v_field_addr X Tryz.underlying34 X Tryz.sizeOf5 X X<|v_load_cells1 (j := 1) st223.sub (hc168.up (((le188.trans le193).trans le211).trans le222)) X X X Tryz.isAgg5 X<|v_lss X X X<|v_asB X X<|M ?_
                 refine zh rfl (fun c227 => ?_) (fun c227 => ?_)
                 ·
                  replace c227 := of_decide_eq_true c227
                  refine zo<|zt<|zt<|U<|zg<|v_add X X t_om X<|v_mvI X X<|M ?_
                  refine ⟨⟨k + 1, h221⟩, ⟨rfl, trivial⟩, ?_, ⟨((le193.trans le211).trans le222), st223.take 4, ?_⟩, ?_⟩
                  ·exact zU
                  ·first | omega | (simp; omega)
                  ·show x.decisions.length - ((k + 1)) < x.decisions.length - k
                   omega
                 ·
                  replace c227 := of_decide_eq_false c227
                  refine W.sr<|v_field_addr X Tryz.underlying34 X Tryz.sizeOf5 X X<|v_load_cells1 (j := 1) st223.sub (hc213.up le222) X X X Tryz.isAgg5 X<|v_eql X X X<|v_mvB X X ?_
                  refine zk (d := 227) rfl (fun g228 => ?_) (fun g228 => ?_)
                  ·
                   replace g228 := of_decide_eq_true g228
                   refine Y X X (d := 227) X<|v_field_addr X Tryz.underlying34 X Tryz.sizeOf30 X X<|Y X X (d := 227) X<|v_load_cellsN (j := 3) st223.sub (hc213.up le222) (us := [.int .i64 (e.at_.chapter), .int .i64 (e.at_.line), .int .i64 (e.at_.word)]) X X Tryz.isAgg30 Tryz.sizeOf30 X X X<|Y X X (d := 227) X<|v_field_addr X Tryz.underlying34 X Tryz.sizeOf30 X X<|Y X X (d := 227) X<|v_load_cellsN (j := 3) st223.sub (hc168.up (((le188.trans le193).trans le211).trans le222)) (us := [.int .i64 (wn.at_.chapter), .int .i64 (wn.at_.line), .int .i64 (wn.at_.word)]) X X Tryz.isAgg30 Tryz.sizeOf30 X X X<|Y X X (d := 227) X<|ze X X (r_stneq X X Tryz.eqGuardType30 (Tryz.eq_Place e.at_ wn.at_))<|v_pickT (v := (.bool _)) X X X<|v_asB X X<|M ?_
                   refine zh rfl (fun c229 => ?_) (fun c229 => ?_)
                   ·
                    replace c229 := of_decide_eq_true c229
                    refine W.sr<|v_field_addr X Tryz.underlying34 X Tryz.sizeOf30 X X<|v_load_cellsN (j := 3) st223.sub (hc168.up (((le188.trans le193).trans le211).trans le222)) (us := [.int .i64 (wn.at_.chapter), .int .i64 (wn.at_.line), .int .i64 (wn.at_.word)]) X X Tryz.isAgg30 Tryz.sizeOf30 X X X<|v_field_addr X Tryz.underlying34 X Tryz.sizeOf30 X X<|v_load_cellsN (j := 3) st223.sub (hc213.up le222) (us := [.int .i64 (e.at_.chapter), .int .i64 (e.at_.line), .int .i64 (e.at_.word)]) X X Tryz.isAgg30 Tryz.sizeOf30 X X X<|O st223 X X X Tryz.call35 X (c_postilref01_Before st223.sub (a := wn.at_) (b := e.at_)) ?_
                    intro r230 w231 h232 le233 st234 q235
                    obtain rfl := q235
                    refine M ?_
                    refine zh rfl (fun c236 => ?_) (fun c236 => ?_)
                    ·
                     exfalso
                     have sure_ : ((beforeB (wn.at_) (e.at_))) = false := by exact hlx.2.1 c227 g228 c229
                     exact absurd (c236.symm.trans sure_) (by decide)
                    ·
                     refine zo<|zt<|zt<|U<|zg<|v_add X X t_om X<|v_mvI X X<|M ?_
                     refine ⟨⟨k + 1, h232⟩, ⟨rfl, trivial⟩, ?_, ⟨(((le193.trans le211).trans le222).trans le233), st234.take 4, ?_⟩, ?_⟩
                     ·exact zU
                     ·first | omega | (simp; omega)
                     ·show x.decisions.length - ((k + 1)) < x.decisions.length - k
                      omega
                   ·
                    replace c229 := of_decide_eq_false c229
                    refine W.sr<|v_field_addr X Tryz.underlying34 X Tryz.sizeOf3 X X<|v_load_cells1 (j := 0) st223.sub (hc213.up le222) X X X Tryz.isAgg3 X<|v_mvI X X<|v_gtr X X X<|v_asB X X<|M ?_
                    refine zh rfl (fun c237 => ?_) (fun c237 => ?_)
                    ·
                     replace c237 := of_decide_eq_true c237
                     exfalso
                     have sure_ : (decide ((e.number) > ((winD x p (wordD t p)).number))) = false := by refine decide_eq_false ?_; rw [← hwn]; first | exact hlx.2.2 c229 (fun q => g228 q.1) | exact hlx.2.2 c227 (fun q => c229 q.2)
                     exact of_decide_eq_false sure_ c237
                    ·
                     replace c237 := of_decide_eq_false c237
                     refine zo<|zt<|zt<|U<|zg<|v_add X X t_om X<|v_mvI X X<|M ?_
                     refine ⟨⟨k + 1, h221⟩, ⟨rfl, trivial⟩, ?_, ⟨((le193.trans le211).trans le222), st223.take 4, ?_⟩, ?_⟩
                     ·exact zU
                     ·first | omega | (simp; omega)
                     ·show x.decisions.length - ((k + 1)) < x.decisions.length - k
                      omega
                  ·
                   replace g228 := of_decide_eq_false g228
                   refine Z X X X X X<|Z X X X X X<|Z X X X X X<|Z X X X X X<|Z X X X X X<|v_pickF (v := (.bool _)) X X X<|v_asB X X<|M ?_
                   refine zh rfl (fun c238 => ?_) (fun c238 => ?_)
                   ·
                    cases c238
                   ·
                    refine W.sr<|v_field_addr X Tryz.underlying34 X Tryz.sizeOf3 X X<|v_load_cells1 (j := 0) st223.sub (hc213.up le222) X X X Tryz.isAgg3 X<|v_mvI X X<|v_gtr X X X<|v_asB X X<|M ?_
                    refine zh rfl (fun c239 => ?_) (fun c239 => ?_)
                    ·
                     replace c239 := of_decide_eq_true c239
                     exfalso
                     have sure_ : (decide ((e.number) > ((winD x p (wordD t p)).number))) = false := by refine decide_eq_false ?_; rw [← hwn]; first | exact hlx.2.2 c227 (fun q => g228 q.1) | exact hlx.2.2 c226 (fun q => c227 q.2)
                     exact of_decide_eq_false sure_ c239
                    ·
                     replace c239 := of_decide_eq_false c239
                     refine zo<|zt<|zt<|U<|zg<|v_add X X t_om X<|v_mvI X X<|M ?_
                     refine ⟨⟨k + 1, h221⟩, ⟨rfl, trivial⟩, ?_, ⟨((le193.trans le211).trans le222), st223.take 4, ?_⟩, ?_⟩
                     ·exact zU
                     ·first | omega | (simp; omega)
                     ·show x.decisions.length - ((k + 1)) < x.decisions.length - k
                      omega
            ·
             replace c196 := of_decide_eq_false c196
             refine zS<|zi<|zi<|zM<|U<|W.sr<|v_mvB X X<|v_asB X X<|M<|zq<|za Tryz.results6 ?_
             refine ⟨h192, _, rfl, st194.done, ?_⟩
             refine zj ?_
             first | rfl | (simp_all; done)
end Go.Pk
