/- A PART OF THE PROOF: contracts of functions, each walked once (much of it printed by a program of the author's own). -/
import Derived.Test.YtfpiiheehdedmaaGreatDoorT4
import Derived.Test.YtfpiiheehdedmaaGreatDoorT2
set_option linter.unusedSimpArgs false
set_option linter.unusedVariables false
namespace Go.Pk
open Go Go.RowKit Go.Proofs
set_option maxRecDepth 4000 in
theorem zaa {h : Heap} {w : World} (hs : Sub h w) (n : Int) (lo : Int) (hi : Int) : Calls Tryz.prog 153 #[.int .i64 n, .int .i64 lo, .int .i64 hi] w (Rets h w (fun _ _ res_ => res_ = .bool (inB n lo hi))) := by
 refine zz (n := 15) (args := [.int .i64 n, .int .i64 lo, .int .i64 hi]) Tryz.func153 X X X ?_
 have st0 : St h w h w [] := St.start hs
 refine W.sr<|v_asB X X<|Y<|W.sr<|v_mvI X X<|v_mvI X X<|v_geq X X X<|v_mvB X X ?_
 refine zx (d := 10) rfl (fun g1 => ?_) (fun g1 => ?_)
 ·
  replace g1 := of_decide_eq_true g1
  refine M X X (d := 10) X<|v_mvI X X<|M X X (d := 10) X<|v_mvI X X<|M X X (d := 10) X<|zk X X (r_leq X X)<|v_pickT (v := (.bool _)) X X X<|v_asB X X<|Y<|zo<|za Tryz.results153 ?_
  refine ⟨h, _, rfl, st0.done, ?_⟩
  refine zj ?_
  simp [inB, *]
 ·
  replace g1 := of_decide_eq_false g1
  refine Z X X X X X<|Z X X X X X<|Z X X X X X<|v_pickF (v := (.bool _)) X X X<|v_asB X X<|Y<|zo<|za Tryz.results153 ?_
  refine ⟨h, _, rfl, st0.done, ?_⟩
  refine zj ?_
  simp [inB, *]
set_option maxRecDepth 4000 in
theorem c_postilref04_within {h : Heap} {w : World} (hs : Sub h w) (n : Int) (lo : Int) (hi : Int) : Calls Tryz.prog 192 #[.int .i64 n, .int .i64 lo, .int .i64 hi] w (Rets h w (fun _ _ res_ => res_ = .bool (inB n lo hi))) := by
 refine zz (n := 15) (args := [.int .i64 n, .int .i64 lo, .int .i64 hi]) Tryz.func192 X X X ?_
 have st0 : St h w h w [] := St.start hs
 refine W.sr<|v_asB X X<|Y<|W.sr<|v_mvI X X<|v_mvI X X<|v_geq X X X<|v_mvB X X ?_
 refine zx (d := 10) rfl (fun g1 => ?_) (fun g1 => ?_)
 ·
  replace g1 := of_decide_eq_true g1
  refine M X X (d := 10) X<|v_mvI X X<|M X X (d := 10) X<|v_mvI X X<|M X X (d := 10) X<|zk X X (r_leq X X)<|v_pickT (v := (.bool _)) X X X<|v_asB X X<|Y<|zo<|za Tryz.results192 ?_
  refine ⟨h, _, rfl, st0.done, ?_⟩
  refine zj ?_
  simp [inB, *]
 ·
  replace g1 := of_decide_eq_false g1
  refine Z X X X X X<|Z X X X X X<|Z X X X X X<|v_pickF (v := (.bool _)) X X X<|v_asB X X<|Y<|zo<|za Tryz.results192 ?_
  refine ⟨h, _, rfl, st0.done, ?_⟩
  refine zj ?_
  simp [inB, *]
set_option maxRecDepth 4000 in
theorem c_postilref01_Word {h : Heap} {w : World} (hs : Sub h w) (s : Str) (s_le : s.length ≤ 281474976710656) : Calls Tryz.prog 191 #[strV s] w (Rets h w (fun _ _ res_ => res_ = .bool (wordB s))) := by
 refine zz (n := 23) (args := [strV s]) Tryz.func191 X X X ?_
 have st0 : St h w h w [] := St.start hs
 refine W.sr<|v_asB X X<|Y<|zf<|W.sr<|v_asI X X<|Y<|zs ?_
 refine zG [2, 3, 4, 5, 6, 7, 8, 9, 10, 11, 12, 13, 14, 15, 16, 17, 18, 19] (G := Nat × Heap) (fun ⟨k, h1⟩ => [(3, .int .i64 (k : Int))]) (fun ⟨k, h1⟩ w' => Le h h1 ∧ St h w h1 w' [] ∧ (k ≤ s.length) ∧ ((s.take k).all isL = true)) (fun ⟨k, h1⟩ => s.length - k) ⟨0, h⟩ ⟨rfl, trivial⟩ ⟨Le.refl _, st0, zK, zK⟩ ?_
 rintro ⟨k, h1⟩ _ w4 ⟨le2, st3, hk, ht⟩
 refine zf<|W.sr<|v_mvI X X<|v_mvS X X<|v_len_str X Tryz.underlying9 X<|v_lss X X X<|Y ?_
 refine zh rfl (fun c5 => ?_) (fun c5 => ?_)
 ·
  replace c5 := of_decide_eq_true c5
  refine zr<|U<|zf<|zs<|W.sr<|v_mvS X X<|v_mvI X X ?_
  have hy6 : ∃ y_, (s)[k]? = some y_ := ⟨_, List.getElem?_eq_getElem (by omega)⟩
  obtain ⟨y6, hy6⟩ := hy6
  refine zk X X (r_index_str X X (hk := X) (hb := hy6) (hu := Tryz.underlying9))<|v_lss X X X<|v_mvB X X ?_
  refine zx (d := 14) rfl (fun g7 => ?_) (fun g7 => ?_)
  ·
   replace g7 := of_decide_eq_true g7
   refine Z X X X X X<|Z X X X X X<|Z X X X X X<|Z X X X X X<|v_pickT (v := (.bool _)) X X X<|Y ?_
   refine zh rfl (fun c8 => ?_) (fun c8 => ?_)
   ·
    refine W.sr<|v_asB X X<|Y<|zo<|zn<|E<|E<|zn<|E<|za Tryz.results191 ?_
    refine ⟨h1, _, rfl, st3.done, ?_⟩
    refine zj ?_
    have hn := not_all (p := isL) (by assumption) (by simp [isL]; omega)
    simp [wordB, lettersB, hn]
   ·
    cases c8
  ·
   replace g7 := of_decide_eq_false g7
   refine M X X (d := 14) X<|v_mvS X X<|M X X (d := 14) X<|v_mvI X X<|M X X (d := 14) X<|zk X X (r_index_str X X (hk := X) (hb := hy6) (hu := Tryz.underlying9))<|M X X (d := 14) X<|v_gtr X X X<|v_pickF (v := (.bool _)) X X X<|Y ?_
   refine zh rfl (fun c9 => ?_) (fun c9 => ?_)
   ·
    replace c9 := of_decide_eq_true c9
    refine W.sr<|v_asB X X<|Y<|zo<|zn<|E<|E<|zn<|E<|za Tryz.results191 ?_
    refine ⟨h1, _, rfl, st3.done, ?_⟩
    refine zj ?_
    have hn := not_all (p := isL) (by assumption) (by simp [isL]; omega)
    simp [wordB, lettersB, hn]
   ·
    replace c9 := of_decide_eq_false c9
    refine zr<|zw<|U<|zg<|v_mvI X X<|v_add X X t_om X<|v_asI X X<|Y ?_
    refine ⟨⟨k + 1, h1⟩, ⟨rfl, trivial⟩, ?_, ⟨le2, st3, ?_, ?_⟩, ?_⟩
    ·exact zH
    ·first | omega | (simp; omega)
    ·exact all_take_succ ht (by assumption) (by simp [isL, *]; omega)
    ·show s.length - ((k + 1)) < s.length - k
     omega
 ·
  replace c5 := of_decide_eq_false c5
  refine zL<|ze<|ze<|zF<|U<|W.sr<|v_mvS X X<|v_len_str X Tryz.underlying9 X<|zi st3 X X X Tryz.call153 X (zaa st3.sub _ _ _) ?_
  intro r10 w11 h12 le13 st14 q15
  obtain rfl := q15
  refine v_asB X X<|Y<|zo<|za Tryz.results191 ?_
  refine ⟨h12, _, rfl, st14.done, ?_⟩
  refine zj ?_
  have hn := all_of_take ht (by omega)
  simp [wordB, lettersB, hn]
set_option maxRecDepth 4000 in
theorem c_postilref04_letters {h : Heap} {w : World} (hs : Sub h w) (s : Str) (s_le : s.length ≤ 281474976710656) (lo : Int) : Calls Tryz.prog 205 #[strV s, .int .i64 lo] w (Rets h w (fun _ _ res_ => res_ = .bool (lettersB s lo))) := by
 refine zz (n := 26) (args := [strV s, .int .i64 lo]) Tryz.func205 X X X ?_
 have st0 : St h w h w [] := St.start hs
 refine W.sr<|v_asB X X<|Y<|zf<|W.sr<|v_asI X X<|Y<|zs ?_
 refine zG [4, 5, 6, 7, 8, 9, 10, 11, 12, 13, 14, 15, 16, 17, 18, 19, 20, 21] (G := Nat × Heap) (fun ⟨k, h1⟩ => [(5, .int .i64 (k : Int))]) (fun ⟨k, h1⟩ w' => Le h h1 ∧ St h w h1 w' [] ∧ (k ≤ s.length) ∧ ((s.take k).all isL = true)) (fun ⟨k, h1⟩ => s.length - k) ⟨0, h⟩ ⟨rfl, trivial⟩ ⟨Le.refl _, st0, zK, zK⟩ ?_
 rintro ⟨k, h1⟩ _ w4 ⟨le2, st3, hk, ht⟩
 refine zf<|W.sr<|v_mvI X X<|v_mvS X X<|v_len_str X Tryz.underlying9 X<|v_lss X X X<|Y ?_
 refine zh rfl (fun c5 => ?_) (fun c5 => ?_)
 ·
  replace c5 := of_decide_eq_true c5
  refine zr<|U<|zf<|zs<|W.sr<|v_mvS X X<|v_mvI X X ?_
  have hy6 : ∃ y_, (s)[k]? = some y_ := ⟨_, List.getElem?_eq_getElem (by omega)⟩
  obtain ⟨y6, hy6⟩ := hy6
  refine zk X X (r_index_str X X (hk := X) (hb := hy6) (hu := Tryz.underlying9))<|v_lss X X X<|v_mvB X X ?_
  refine zx (d := 16) rfl (fun g7 => ?_) (fun g7 => ?_)
  ·
   replace g7 := of_decide_eq_true g7
   refine Z X X X X X<|Z X X X X X<|Z X X X X X<|Z X X X X X<|v_pickT (v := (.bool _)) X X X<|Y ?_
   refine zh rfl (fun c8 => ?_) (fun c8 => ?_)
   ·
    refine W.sr<|v_asB X X<|Y<|zo<|zn<|E<|E<|zn<|E<|za Tryz.results205 ?_
    refine ⟨h1, _, rfl, st3.done, ?_⟩
    refine zj ?_
    have hn := not_all (p := isL) (by assumption) (by simp [isL]; omega)
    simp [wordB, lettersB, hn]
   ·
    cases c8
  ·
   replace g7 := of_decide_eq_false g7
   refine M X X (d := 16) X<|v_mvS X X<|M X X (d := 16) X<|v_mvI X X<|M X X (d := 16) X<|zk X X (r_index_str X X (hk := X) (hb := hy6) (hu := Tryz.underlying9))<|M X X (d := 16) X<|v_gtr X X X<|v_pickF (v := (.bool _)) X X X<|Y ?_
   refine zh rfl (fun c9 => ?_) (fun c9 => ?_)
   ·
    replace c9 := of_decide_eq_true c9
    refine W.sr<|v_asB X X<|Y<|zo<|zn<|E<|E<|zn<|E<|za Tryz.results205 ?_
    refine ⟨h1, _, rfl, st3.done, ?_⟩
    refine zj ?_
    have hn := not_all (p := isL) (by assumption) (by simp [isL]; omega)
    simp [wordB, lettersB, hn]
   ·
    replace c9 := of_decide_eq_false c9
    refine zr<|zw<|U<|zg<|v_mvI X X<|v_add X X t_om X<|v_asI X X<|Y ?_
    refine ⟨⟨k + 1, h1⟩, ⟨rfl, trivial⟩, ?_, ⟨le2, st3, ?_, ?_⟩, ?_⟩
    ·exact zH
    ·first | omega | (simp; omega)
    ·exact all_take_succ ht (by assumption) (by simp [isL, *]; omega)
    ·show s.length - ((k + 1)) < s.length - k
     omega
 ·
  replace c5 := of_decide_eq_false c5
  refine zL<|ze<|ze<|zF<|U<|W.sr<|v_mvS X X<|v_len_str X Tryz.underlying9 X<|v_mvI X X<|zi st3 X X X Tryz.call192 X (c_postilref04_within st3.sub _ _ _) ?_
  intro r10 w11 h12 le13 st14 q15
  obtain rfl := q15
  refine v_asB X X<|Y<|zo<|za Tryz.results205 ?_
  refine ⟨h12, _, rfl, st14.done, ?_⟩
  refine zj ?_
  have hn := all_of_take ht (by omega)
  simp [wordB, lettersB, hn]
set_option maxRecDepth 4000 in
theorem c_postilref04_Rule {h : Heap} {w : World} (hs : Sub h w) {r : Rule} (r_l1 : r.cut.length ≤ 281474976710656) (r_l2 : r.put.length ≤ 281474976710656) : Calls Tryz.prog 158 #[.agg #[strV r.cut, strV r.put, .int .i64 r.least]] w (Rets h w (fun _ _ res_ => res_ = .bool (ruleB r))) := by
 refine zz (n := 23) (args := [.agg #[strV r.cut, strV r.put, .int .i64 r.least]]) Tryz.func158 X X X ?_
 have st0 : St h w h w [] := St.start hs
 refine W.sr<|zy st0 (cs := [strV (r.cut), strV (r.put), .int .i64 (r.least)]) X X X ?_
 intro b1 w2 h3 le4 hc5 st6
 refine v_asB X X<|Y<|W.sr<|v_field_addr X Tryz.underlying68 X Tryz.sizeOf9 X X<|v_load_cells1 (j := 0) st6.sub hc5 X X X Tryz.isAgg9 X<|zi st6 X X X Tryz.call205 X (c_postilref04_letters st6.sub _ t_str _) ?_
 intro r7 w8 h9 le10 st11 q12
 obtain rfl := q12
 refine v_mvB X X ?_
 refine zx (d := 6) rfl (fun g13 => ?_) (fun g13 => ?_)
 ·
  refine M X X (d := 6) X<|v_field_addr X Tryz.underlying68 X Tryz.sizeOf9 X X<|M X X (d := 6) X<|v_load_cells1 (j := 1) st11.sub (hc5.up le10) X X X Tryz.isAgg9 X<|M X X (d := 6) X<|zi st11 X X X Tryz.call205 X (c_postilref04_letters st11.sub _ t_str _) ?_
  intro r14 w15 h16 le17 st18 q19
  obtain rfl := q19
  refine v_pickT (v := (.bool _)) X X X<|v_mvB X X ?_
  refine zx (d := 11) rfl (fun g20 => ?_) (fun g20 => ?_)
  ·
   refine M X X (d := 11) X<|v_field_addr X Tryz.underlying68 X Tryz.sizeOf9 X X<|M X X (d := 11) X<|v_load_cells1 (j := 0) st18.sub (hc5.up (le10.trans le17)) X X X Tryz.isAgg9 X<|M X X (d := 11) X<|v_field_addr X Tryz.underlying68 X Tryz.sizeOf9 X X<|M X X (d := 11) X<|v_load_cells1 (j := 1) st18.sub (hc5.up (le10.trans le17)) X X X Tryz.isAgg9 X<|M X X (d := 11) X<|zk X X (r_sneq X X)<|v_pickT (v := (.bool _)) X X X<|v_mvB X X ?_
   refine zx (d := 18) rfl (fun g21 => ?_) (fun g21 => ?_)
   ·
    replace g21 := of_decide_eq_true g21
    refine M X X (d := 18) X<|v_field_addr X Tryz.underlying68 X Tryz.sizeOf3 X X<|M X X (d := 18) X<|v_load_cells1 (j := 2) st18.sub (hc5.up (le10.trans le17)) X X X Tryz.isAgg3 X<|M X X (d := 18) X<|zi st18 X X X Tryz.call192 X (c_postilref04_within st18.sub _ _ _) ?_
    intro r22 w23 h24 le25 st26 q27
    obtain rfl := q27
    refine v_pickT (v := (.bool _)) X X X<|v_asB X X<|Y<|zo<|za Tryz.results158 ?_
    refine ⟨h24, _, rfl, st26.done, ?_⟩
    refine zj ?_
    simp_all [ruleB]
   ·
    replace g21 := of_decide_eq_false g21
    refine Z X X X X X<|Z X X X X X<|Z X X X X X<|v_pickF (v := (.bool _)) X X X<|v_asB X X<|Y<|zo<|za Tryz.results158 ?_
    refine ⟨h16, _, rfl, st18.done, ?_⟩
    refine zj ?_
    simp_all [ruleB]
  ·
   refine Z X X X X X<|Z X X X X X<|Z X X X X X<|Z X X X X X<|Z X X X X X<|v_pickF (v := (.bool _)) X X X<|v_mvB X X<|Z X X X X X<|Z X X X X X<|Z X X X X X<|v_pickF (v := (.bool _)) X X X<|v_asB X X<|Y<|zo<|za Tryz.results158 ?_
   refine ⟨h16, _, rfl, st18.done, ?_⟩
   refine zj ?_
   simp_all [ruleB]
 ·
  refine Z X X X X X<|Z X X X X X<|Z X X X X X<|v_pickF (v := (.bool _)) X X X<|v_mvB X X<|Z X X X X X<|Z X X X X X<|Z X X X X X<|Z X X X X X<|Z X X X X X<|v_pickF (v := (.bool _)) X X X<|v_mvB X X<|Z X X X X X<|Z X X X X X<|Z X X X X X<|v_pickF (v := (.bool _)) X X X<|v_asB X X<|Y<|zo<|za Tryz.results158 ?_
  refine ⟨h9, _, rfl, st11.done, ?_⟩
  refine zj ?_
  simp_all [ruleB]
set_option maxRecDepth 4000 in
theorem c_postilref04_Head {h : Heap} {w : World} (hs : Sub h w) {hd : Head} (hd_l1 : hd.stem.length ≤ 281474976710656) (hd_l2 : 0 ≤ hd.mark ∧ hd.mark ≤ 255) : Calls Tryz.prog 147 #[.agg #[strV hd.stem, .int .u8 hd.mark]] w (Rets h w (fun _ _ res_ => res_ = .bool (headB hd))) := by
 refine zz (n := 12) (args := [.agg #[strV hd.stem, .int .u8 hd.mark]]) Tryz.func147 X X X ?_
 have st0 : St h w h w [] := St.start hs
 refine W.sr<|zy st0 (cs := [strV (hd.stem), .int .u8 (hd.mark)]) X X X ?_
 intro b1 w2 h3 le4 hc5 st6
 refine v_asB X X<|Y<|W.sr<|v_field_addr X Tryz.underlying72 X Tryz.sizeOf9 X X<|v_load_cells1 (j := 0) st6.sub hc5 X X X Tryz.isAgg9 X<|zi st6 X X X Tryz.call191 X (c_postilref01_Word st6.sub _ t_str) ?_
 intro r7 w8 h9 le10 st11 q12
 obtain rfl := q12
 refine v_mvB X X ?_
 refine zx (d := 6) rfl (fun g13 => ?_) (fun g13 => ?_)
 ·
  refine M X X (d := 6) X<|v_field_addr X Tryz.underlying72 X Tryz.sizeOf5 X X<|M X X (d := 6) X<|v_load_cells1 (j := 1) st11.sub (hc5.up le10) X X X Tryz.isAgg5 X<|M X X (d := 6) X ?_
  refine zk rfl rfl (r_conv_int rfl rfl Tryz.underlying3 (IntWalk.i64_in _ (by omega))) ?_
  refine M X X (d := 6) X<|zi st11 X X X Tryz.call192 X (c_postilref04_within st11.sub _ _ _) ?_
  intro r14 w15 h16 le17 st18 q19
  obtain rfl := q19
  refine v_pickT (v := (.bool _)) X X X<|v_asB X X<|Y<|zo<|za Tryz.results147 ?_
  refine ⟨h16, _, rfl, st18.done, ?_⟩
  refine zj ?_
  simp_all [headB]
 ·
  refine Z X X X X X<|Z X X X X X<|Z X X X X X<|Z X X X X X<|v_pickF (v := (.bool _)) X X X<|v_asB X X<|Y<|zo<|za Tryz.results147 ?_
  refine ⟨h9, _, rfl, st11.done, ?_⟩
  refine zj ?_
  simp_all [headB]
set_option maxRecDepth 4000 in
theorem c_postilref01_Before {h : Heap} {w : World} (hs : Sub h w) {a : Place} {b : Place} : Calls Tryz.prog 146 #[.agg #[.int .i64 a.chapter, .int .i64 a.line, .int .i64 a.word], .agg #[.int .i64 b.chapter, .int .i64 b.line, .int .i64 b.word]] w (Rets h w (fun _ _ res_ => res_ = .bool (beforeB a b))) := by
 refine zz (n := 30) (args := [.agg #[.int .i64 a.chapter, .int .i64 a.line, .int .i64 a.word], .agg #[.int .i64 b.chapter, .int .i64 b.line, .int .i64 b.word]]) Tryz.func146 X X X ?_
 have st0 : St h w h w [] := St.start hs
 refine W.sr<|zy st0 (cs := [.int .i64 (a.chapter), .int .i64 (a.line), .int .i64 (a.word)]) X X X ?_
 intro b1 w2 h3 le4 hc5 st6
 refine zy st6 (cs := [.int .i64 (b.chapter), .int .i64 (b.line), .int .i64 (b.word)]) X X X ?_
 intro b7 w8 h9 le10 hc11 st12
 refine v_asB X X<|Y<|zf<|W.sr<|v_field_addr X Tryz.underlying70 X Tryz.sizeOf3 X X<|v_load_cells1 (j := 0) st12.sub (hc5.up le10) X X X Tryz.isAgg3 X<|v_field_addr X Tryz.underlying70 X Tryz.sizeOf3 X X<|v_load_cells1 (j := 0) st12.sub hc11 X X X Tryz.isAgg3 X<|v_neq X X X<|Y ?_
 refine zh rfl (fun c13 => ?_) (fun c13 => ?_)
 ·
  replace c13 := of_decide_eq_true c13
  refine W.sr<|v_field_addr X Tryz.underlying70 X Tryz.sizeOf3 X X<|v_load_cells1 (j := 0) st12.sub (hc5.up le10) X X X Tryz.isAgg3 X<|v_field_addr X Tryz.underlying70 X Tryz.sizeOf3 X X<|v_load_cells1 (j := 0) st12.sub hc11 X X X Tryz.isAgg3 X<|v_lss X X X<|v_asB X X<|Y<|zo<|E<|za Tryz.results146 ?_
  refine ⟨h9, _, rfl, st12.done, ?_⟩
  refine zj ?_
  simp_all [beforeB]
 ·
  replace c13 := of_decide_eq_false c13
  refine zr<|U<|zf<|W.sr<|v_field_addr X Tryz.underlying70 X Tryz.sizeOf3 X X<|v_load_cells1 (j := 1) st12.sub (hc5.up le10) X X X Tryz.isAgg3 X<|v_field_addr X Tryz.underlying70 X Tryz.sizeOf3 X X<|v_load_cells1 (j := 1) st12.sub hc11 X X X Tryz.isAgg3 X<|v_neq X X X<|Y ?_
  refine zh rfl (fun c14 => ?_) (fun c14 => ?_)
  ·
   replace c14 := of_decide_eq_true c14
   refine W.sr<|v_field_addr X Tryz.underlying70 X Tryz.sizeOf3 X X<|v_load_cells1 (j := 1) st12.sub (hc5.up le10) X X X Tryz.isAgg3 X<|v_field_addr X Tryz.underlying70 X Tryz.sizeOf3 X X<|v_load_cells1 (j := 1) st12.sub hc11 X X X Tryz.isAgg3 X<|v_lss X X X<|v_asB X X<|Y<|zo<|E<|za Tryz.results146 ?_
   refine ⟨h9, _, rfl, st12.done, ?_⟩
   refine zj ?_
   simp_all [beforeB]
  ·
   replace c14 := of_decide_eq_false c14
   refine zr<|U<|W.sr<|v_field_addr X Tryz.underlying70 X Tryz.sizeOf3 X X<|v_load_cells1 (j := 2) st12.sub (hc5.up le10) X X X Tryz.isAgg3 X<|v_field_addr X Tryz.underlying70 X Tryz.sizeOf3 X X<|v_load_cells1 (j := 2) st12.sub hc11 X X X Tryz.isAgg3 X<|v_lss X X X<|v_asB X X<|Y<|zo<|za Tryz.results146 ?_
   refine ⟨h9, _, rfl, st12.done, ?_⟩
   refine zj ?_
   simp_all [beforeB]
end Go.Pk

namespace Go.Pk
open Go Go.RowKit Go.Proofs
set_option maxRecDepth 4000 in
theorem c_postilref01_Text {h : Heap} {w : World} (hs : Sub h w) {t : Text} {t_v0 : Value} (t_f0 : Sl LChapter h t_v0 t.chapters) : Calls Tryz.prog 190 #[.agg #[t_v0]] w (Rets h w (fun _ _ res_ => res_ = .bool (textB t))) := by
 refine zz (n := 85) (args := [.agg #[t_v0]]) Tryz.func190 X X X ?_
 have st0 : St h w h w [] := St.start hs
 have t_f0_b := t_f0.le
 refine W.sr<|zy st0 (cs := [t_v0]) X X X ?_
 intro b1 w2 h3 le4 hc5 st6
 refine v_asB X X<|Y<|zf<|W.sr<|v_field_addr X Tryz.underlying24 X Tryz.sizeOf22 X X<|v_load_cells1 (j := 0) st6.sub hc5 X X X Tryz.isAgg22 X<|v_len (t_f0.up le4) X Tryz.underlying22 X<|zi st6 X X X Tryz.call153 X (zaa st6.sub _ _ _) ?_
 intro r7 w8 h9 le10 st11 q12
 obtain rfl := q12
 refine v_not X X<|Y ?_
 refine zh rfl (fun c13 => ?_) (fun c13 => ?_)
 ·
  refine W.sr<|v_asB X X<|Y<|zo<|E<|za Tryz.results190 ?_
  refine ⟨h9, _, rfl, st11.done, ?_⟩
  refine zj ?_
  simp_all [textB]
 ·
  refine zr<|U<|zf<|W.sr<|v_asI X X<|Y<|zs ?_
  refine zG [2, 3, 4, 5, 6, 7, 13, 14, 15, 16, 17, 18, 19, 20, 21, 22, 23, 24, 25, 26, 27, 28, 29, 30, 31, 32, 33, 34, 35, 36, 37, 38, 39, 40, 41, 42, 43, 44, 45, 46, 47, 48, 49, 50, 51, 52, 53, 54, 55, 56, 57, 58, 59, 60, 61, 62, 63, 64, 65, 66, 67, 68, 69, 70, 71, 72, 73, 74, 75, 76, 77, 78, 79, 80, 81, 82, 83, 84] (G := Nat × Heap) (fun ⟨i, h14⟩ => [(3, .int .i64 (i : Int))]) (fun ⟨i, h14⟩ w' => Le h9 h14 ∧ St h w h14 w' [] ∧ (i ≤ t.chapters.length) ∧ ((t.chapters.take i).all chapterB = true) ∧ (((t.chapters.take i).map (·.id)).Nodup)) (fun ⟨i, h14⟩ => t.chapters.length - i) ⟨0, h9⟩ ⟨rfl, trivial⟩ ⟨Le.refl _, st11, zK, zK, zK⟩ ?_
  rintro ⟨i, h14⟩ _ w17 ⟨le15, st16, hi, hA, hN⟩
  refine zf<|W.sr<|v_mvI X X<|v_field_addr X Tryz.underlying24 X Tryz.sizeOf22 X X<|v_load_cells1 (j := 0) st16.sub (hc5.up (le10.trans le15)) X X X Tryz.isAgg22 X<|v_len (t_f0.up ((le4.trans le10).trans le15)) X Tryz.underlying22 X<|v_lss X X X<|Y ?_
  refine zh rfl (fun c18 => ?_) (fun c18 => ?_)
  ·
   replace c18 := of_decide_eq_true c18
   refine zr<|U<|zf<|zs<|W.sr<|v_field_addr X Tryz.underlying24 X Tryz.sizeOf22 X X<|v_load_cells1 (j := 0) st16.sub (hc5.up (le10.trans le15)) X X X Tryz.isAgg22 X<|v_mvI X X ?_
   have hc : ∃ y_, (t.chapters)[i]? = some y_ := ⟨_, List.getElem?_eq_getElem (by omega)⟩
   obtain ⟨c, hc⟩ := hc
   obtain ⟨b19, o20, _, he22, hc21, hr_c⟩ := Sl.elem (t_f0.up ((le4.trans le10).trans le15)) hc
   obtain ⟨v23, rfl, f24⟩ := hr_c
   have f24_b := f24.le
   refine v_index_el he22 X X (hk := X) (hu := Tryz.underlying22) (hz := Tryz.sizeOf152) X<|v_load_call st16.sub hc21 X Tryz.isAgg152 Tryz.sizeOf152 X X<|zD st16 Tryz.zeroValue152 X X ?_
   intro b25 w26 st27
   refine zC st27 (k := 0) X X X (zp X (zp f24.one zQ)) Tryz.sizeOf152 X X X ?_
   intro w28 st29
   obtain ⟨h30, le31, hb32, st34⟩ := st29.freeze (k := 0) rfl
   have hc33 := Cells.of hb32
   refine Y<|zf<|W.sr<|v_field_addr X Tryz.underlying152 X Tryz.sizeOf3 X X<|v_load_cells1 (j := 0) st34.sub hc33 X X X Tryz.isAgg3 X<|zi st34 X X X Tryz.call153 X (zaa st34.sub _ _ _) ?_
   intro r35 w36 h37 le38 st39 q40
   obtain rfl := q40
   refine v_not X X<|v_mvB X X ?_
   refine zx (d := 29) rfl (fun g41 => ?_) (fun g41 => ?_)
   ·
    refine Z X X X X X<|Z X X X X X<|Z X X X X X<|Z X X X X X<|Z X X X X X<|v_pickT (v := (.bool _)) X X X<|Y ?_
    refine zh rfl (fun c42 => ?_) (fun c42 => ?_)
    ·
     refine W.sr<|v_asB X X<|Y<|zo<|E<|zn<|E<|E<|zn<|E<|za Tryz.results190 ?_
     refine ⟨h37, _, rfl, st39.done, ?_⟩
     refine zj ?_
     have q0 : chapterB c = false := by simp_all [chapterB]
     have q := not_all (p := chapterB) hc q0
     simp [textB, q]
    ·
     cases c42
   ·
    refine M X X (d := 29) X<|v_field_addr X Tryz.underlying152 X Tryz.sizeOf150 X X<|M X X (d := 29) X<|v_load_cells1 (j := 1) st39.sub (hc33.up le38) X X X Tryz.isAgg150 X<|M X X (d := 29) X<|v_len (f24.up (le31.trans le38)) X Tryz.underlying150 X<|M X X (d := 29) X<|zi st39 X X X Tryz.call153 X (zaa st39.sub _ _ _) ?_
    intro r43 w44 h45 le46 st47 q48
    obtain rfl := q48
    refine M X X (d := 29) X<|v_not X X<|v_pickF (v := (.bool _)) X X X<|Y ?_
    refine zh rfl (fun c49 => ?_) (fun c49 => ?_)
    ·
     refine W.sr<|v_asB X X<|Y<|zo<|E<|zn<|E<|E<|zn<|E<|za Tryz.results190 ?_
     refine ⟨h45, _, rfl, st47.done, ?_⟩
     refine zj ?_
     have q0 : chapterB c = false := by simp_all [chapterB]
     have q := not_all (p := chapterB) hc q0
     simp [textB, q]
    ·
     refine zr<|U<|zf<|W.sr<|v_asI X X<|Y<|zs ?_
     refine zG [2, 5, 36, 37, 38, 39, 40, 41, 42, 43, 44, 45, 46, 47, 48, 49] (G := Nat × Heap) (fun ⟨k1, h50⟩ => [(5, .int .i64 (k1 : Int))]) (fun ⟨k1, h50⟩ w' => Le h45 h50 ∧ St h w h50 w' [[]] ∧ (k1 ≤ i) ∧ (∀ j c2, j < k1 → t.chapters[j]? = some c2 → c2.id ≠ c.id)) (fun ⟨k1, h50⟩ => i - k1) ⟨0, h45⟩ ⟨rfl, trivial⟩ ⟨Le.refl _, st47, zK, (by intro j _ hj; omega)⟩ ?_
     rintro ⟨k1, h50⟩ _ w53 ⟨le51, st52, hk1, hd⟩
     refine zf<|W.sr<|v_mvI X X<|v_mvI X X<|v_lss X X X<|Y ?_
     refine zh rfl (fun c54 => ?_) (fun c54 => ?_)
     ·
      replace c54 := of_decide_eq_true c54
      refine zr<|U<|zf<|zs<|zf<|zS Tryz.mixed t_kr (Cls h50 _) (Cls.drew st52)<|u_field_addr X Tryz.underlying24 X Tryz.sizeOf22 X X<|zm X X (fun _ hC => (zc (j := 0) hC.sub (hc5.up (((((le10.trans le15).trans le31).trans le38).trans le46).trans le51)) X X X Tryz.isAgg22))<|u_mvI X X ?_
      have hcc : ∃ y_, (t.chapters)[k1]? = some y_ := ⟨_, List.getElem?_eq_getElem (by omega)⟩
      obtain ⟨cc, hcc⟩ := hcc
      obtain ⟨b55, o56, _, he58, hc57, hr_cc⟩ := Sl.elem (t_f0.up ((((((le4.trans le10).trans le15).trans le31).trans le38).trans le46).trans le51)) hcc
      obtain ⟨v59, rfl, f60⟩ := hr_cc
      have f60_b := f60.le
      refine u_index_el he58 X X (hk := X) (hu := Tryz.underlying22) (hz := Tryz.sizeOf152) X<|u_field_addr X Tryz.underlying152 X Tryz.sizeOf3 X X<|zm X X (fun _ hC => (zc (j := 0) hC.sub hc57 X X X Tryz.isAgg3))<|u_field_addr X Tryz.underlying152 X Tryz.sizeOf3 X X<|zm X X (fun _ hC => (zc (j := 0) hC.sub (hc33.up ((le38.trans le46).trans le51)) X X X Tryz.isAgg3))<|u_eql X X X<|zI ?_
      rintro w61 ⟨h62, s63⟩
      have st64 := st52.call0 s63
      refine U ?_
      refine zh rfl (fun c65 => ?_) (fun c65 => ?_)
      ·
       replace c65 := of_decide_eq_true c65
       refine W.sr<|v_asB X X<|Y<|zo<|zn<|E<|E<|zn<|E<|zn<|E<|E<|zn<|E<|za Tryz.results190 ?_
       refine ⟨h62, _, rfl, st64.done, ?_⟩
       refine zj ?_
       have q := not_nodup (f := (·.id)) hcc hc (by omega) (by assumption)
       simp [textB, q]
      ·
       replace c65 := of_decide_eq_false c65
       refine zr<|zw<|U<|zg<|v_mvI X X<|v_add X X t_om X<|v_asI X X<|Y ?_
       refine ⟨⟨k1 + 1, h62⟩, ⟨rfl, trivial⟩, ?_, ⟨(le51.trans s63.le), st64, ?_, ?_⟩, ?_⟩
       ·exact zH
       ·first | omega | (simp; omega)
       ·intro j c2 h1 h2
        rcases Nat.lt_or_ge j k1 with h3 | h3
        ·exact hd j c2 h3 h2
        ·obtain rfl : j = k1 := by omega
         rw [h2] at hcc; cases hcc; assumption
       ·show i - ((k1 + 1)) < i - k1
        omega
     ·
      replace c54 := of_decide_eq_false c54
      refine zL<|ze<|ze<|zF<|U<|W.sr<|v_asI X X<|Y<|zs ?_
      refine zG [2, 6, 7, 50, 51, 52, 53, 54, 55, 56, 57, 58, 59, 60, 61, 62, 63, 64, 65, 66, 67, 68, 69, 70, 71, 72, 73, 74, 75, 76, 77, 78, 79, 80, 81, 82, 83, 84] (G := Nat × Heap) (fun ⟨k2, h66⟩ => [(6, .int .i64 (k2 : Int))]) (fun ⟨k2, h66⟩ w' => Le h50 h66 ∧ St h w h66 w' [[]] ∧ (k2 ≤ c.lines.length) ∧ ((c.lines.take k2).all lineB = true)) (fun ⟨k2, h66⟩ => c.lines.length - k2) ⟨0, h50⟩ ⟨rfl, trivial⟩ ⟨Le.refl _, st52, zK, zK⟩ ?_
      rintro ⟨k2, h66⟩ _ w69 ⟨le67, st68, hk2, hl⟩
      refine zf<|W.sr<|v_mvI X X<|v_field_addr X Tryz.underlying152 X Tryz.sizeOf150 X X<|v_load_cells1 (j := 1) st68.sub (hc33.up (((le38.trans le46).trans le51).trans le67)) X X X Tryz.isAgg150 X<|v_len (f24.up ((((le31.trans le38).trans le46).trans le51).trans le67)) X Tryz.underlying150 X<|v_lss X X X<|Y ?_
      refine zh rfl (fun c70 => ?_) (fun c70 => ?_)
      ·
       replace c70 := of_decide_eq_true c70
       refine zr<|U<|zf<|zs<|zf<|W.sr<|v_field_addr X Tryz.underlying152 X Tryz.sizeOf150 X X<|v_load_cells1 (j := 1) st68.sub (hc33.up (((le38.trans le46).trans le51).trans le67)) X X X Tryz.isAgg150 X<|v_mvI X X ?_
       have hln : ∃ y_, (c.lines)[k2]? = some y_ := ⟨_, List.getElem?_eq_getElem (by omega)⟩
       obtain ⟨ln, hln⟩ := hln
       obtain ⟨b71, o72, _, he74, hc73, hr_ln⟩ := Sl.elem (f24.up ((((le31.trans le38).trans le46).trans le51).trans le67)) hln
       obtain ⟨v75, rfl, f76⟩ := hr_ln
       have f76_b := f76.le
       refine v_index_el he74 X X (hk := X) (hu := Tryz.underlying150) (hz := Tryz.sizeOf60) X<|v_load_cells1 (j := 0) st68.sub hc73 X X X Tryz.isAgg60 X<|v_len f76 X Tryz.underlying60 X<|zi st68 X X X Tryz.call153 X (zaa st68.sub _ _ _) ?_
       intro r77 w78 h79 le80 st81 q82
       obtain rfl := q82
       refine v_not X X<|Y ?_
       refine zh rfl (fun c83 => ?_) (fun c83 => ?_)
       ·
        refine W.sr<|v_asB X X<|Y<|zo<|E<|zn<|E<|E<|zn<|zn<|E<|E<|zn<|E<|za Tryz.results190 ?_
        refine ⟨h79, _, rfl, st81.done, ?_⟩
        refine zj ?_
        have q1 : lineB ln = false := by simp_all [lineB]
        have q2 := not_all (p := lineB) hln q1
        have q0 : chapterB c = false := by simp [chapterB, q2]
        have q := not_all (p := chapterB) hc q0
        simp [textB, q]
       ·
        refine zr<|U<|W.sr<|v_asI X X<|Y<|zs ?_
        refine zG [2, 7, 65, 66, 67, 68, 69, 70, 71, 72, 73, 74, 75, 76, 77, 78, 79, 80, 81, 82, 83, 84] (G := Nat × Heap) (fun ⟨k3, h84⟩ => [(7, .int .i64 (k3 : Int))]) (fun ⟨k3, h84⟩ w' => Le h79 h84 ∧ St h w h84 w' [[]] ∧ (k3 ≤ ln.length) ∧ ((ln.take k3).all wordB = true)) (fun ⟨k3, h84⟩ => ln.length - k3) ⟨0, h79⟩ ⟨rfl, trivial⟩ ⟨Le.refl _, st81, zK, zK⟩ ?_
        rintro ⟨k3, h84⟩ _ w87 ⟨le85, st86, hk3, hw⟩
        refine zf<|W.sr<|v_mvI X X<|v_field_addr X Tryz.underlying152 X Tryz.sizeOf150 X X<|v_load_cells1 (j := 1) st86.sub (hc33.up (((((le38.trans le46).trans le51).trans le67).trans le80).trans le85)) X X X Tryz.isAgg150 X<|v_mvI X X<|v_index_el he74 X X (hk := X) (hu := Tryz.underlying150) (hz := Tryz.sizeOf60) X<|v_load_cells1 (j := 0) st86.sub (hc73.up (le80.trans le85)) X X X Tryz.isAgg60 X<|v_len (f76.up (le80.trans le85)) X Tryz.underlying60 X<|v_lss X X X<|Y ?_
        refine zh rfl (fun c88 => ?_) (fun c88 => ?_)
        ·
         replace c88 := of_decide_eq_true c88
         refine zr<|U<|zf<|zs<|W.sr<|v_field_addr X Tryz.underlying152 X Tryz.sizeOf150 X X<|v_load_cells1 (j := 1) st86.sub (hc33.up (((((le38.trans le46).trans le51).trans le67).trans le80).trans le85)) X X X Tryz.isAgg150 X<|v_mvI X X<|v_index_el he74 X X (hk := X) (hu := Tryz.underlying150) (hz := Tryz.sizeOf60) X<|v_load_cells1 (j := 0) st86.sub (hc73.up (le80.trans le85)) X X X Tryz.isAgg60 X<|v_mvI X X ?_
         have hy89 : ∃ y_, (ln)[k3]? = some y_ := ⟨_, List.getElem?_eq_getElem (by omega)⟩
         obtain ⟨y89, hy89⟩ := hy89
         obtain ⟨b90, o91, _, he93, hc92, hr_y89⟩ := Sl.elem (f76.up (le80.trans le85)) hy89
         obtain ⟨rfl, ls94⟩ := hr_y89
         simp only [big] at ls94
         refine v_index_el he93 X X (hk := X) (hu := Tryz.underlying60) (hz := Tryz.sizeOf9) X<|v_load_cells1 (j := 0) st86.sub hc92 X X X Tryz.isAgg9 X<|zi st86 X X X Tryz.call191 X (c_postilref01_Word st86.sub _ t_str) ?_
         intro r95 w96 h97 le98 st99 q100
         obtain rfl := q100
         refine v_not X X<|Y ?_
         refine zh rfl (fun c101 => ?_) (fun c101 => ?_)
         ·
          refine W.sr<|v_asB X X<|Y<|zo<|zn<|E<|E<|zn<|zn<|E<|E<|zn<|zn<|E<|E<|zn<|E<|za Tryz.results190 ?_
          refine ⟨h97, _, rfl, st99.done, ?_⟩
          refine zj ?_
          have q3 := not_all (p := wordB) (by assumption) (by simpa using c101)
          have q1 : lineB ln = false := by simp [lineB, q3]
          have q2 := not_all (p := lineB) hln q1
          have q0 : chapterB c = false := by simp [chapterB, q2]
          have q := not_all (p := chapterB) hc q0
          simp [textB, q]
         ·
          refine zr<|zw<|U<|zg<|v_mvI X X<|v_add X X t_om X<|v_asI X X<|Y ?_
          refine ⟨⟨k3 + 1, h97⟩, ⟨rfl, trivial⟩, ?_, ⟨(le85.trans le98), st99, ?_, ?_⟩, ?_⟩
          ·exact zH
          ·first | omega | (simp; omega)
          ·exact all_take_succ hw (by assumption) (by simp_all)
          ·show ln.length - ((k3 + 1)) < ln.length - k3
           omega
        ·
         replace c88 := of_decide_eq_false c88
         refine zL<|ze<|ze<|zF<|zw<|U<|zg<|v_mvI X X<|v_add X X t_om X<|v_asI X X<|Y ?_
         refine ⟨⟨k2 + 1, h84⟩, ⟨rfl, trivial⟩, ?_, ⟨((le67.trans le80).trans le85), st86, ?_, ?_⟩, ?_⟩
         ·exact zH
         ·first | omega | (simp; omega)
         ·exact all_take_succ hl hln (by simp_all [lineB, all_of_take hw (by omega)])
         ·show c.lines.length - ((k2 + 1)) < c.lines.length - k2
          omega
      ·
       replace c70 := of_decide_eq_false c70
       refine zL<|ze<|ze<|zF<|zw<|U<|zg<|v_mvI X X<|v_add X X t_om X<|v_asI X X<|Y ?_
       have HCH : chapterB c = true := by
        have q := all_of_take hl (by omega)
        simp_all [chapterB]
       refine ⟨⟨i + 1, h66⟩, ⟨rfl, trivial⟩, ?_, ⟨(((((le15.trans le31).trans le38).trans le46).trans le51).trans le67), st68.take 0, ?_, ?_, ?_⟩, ?_⟩
       ·exact zH
       ·first | omega | (simp; omega)
       ·exact all_take_succ hA hc HCH
       ·exact nodup_take_succ hN hc (by omega) (fun j c2 h1 h2 => hd j c2 (by omega) h2)
       ·show t.chapters.length - ((i + 1)) < t.chapters.length - i
        omega
  ·
   replace c18 := of_decide_eq_false c18
   refine zL<|ze<|ze<|zF<|U<|W.sr<|v_asB X X<|Y<|zo<|za Tryz.results190 ?_
   refine ⟨h14, _, rfl, st16.done, ?_⟩
   refine zj ?_
   have q := all_of_take hA (by omega)
   have q2 : t.chapters.take i = t.chapters := List.take_of_length_le (by omega)
   rw [q2] at hN
   simp_all [textB]
set_option maxRecDepth 4000 in
theorem c_postilref01_Check {h : Heap} {w : World} (hs : Sub h w) {t : Text} {t_v0 : Value} (t_f0 : Sl LChapter h t_v0 t.chapters) : Calls Tryz.prog 145 #[.agg #[t_v0]] w (Rets h w (fun _ _ res_ => res_ = .int .i64 ((if textB t then 0 else 10)))) := by
 refine zz (n := 6) (args := [.agg #[t_v0]]) Tryz.func145 X X X ?_
 have st0 : St h w h w [] := St.start hs
 have t_f0_b := t_f0.le
 refine W.sr<|zy st0 (cs := [t_v0]) X X X ?_
 intro b1 w2 h3 le4 hc5 st6
 refine v_asI X X<|Y<|zf<|W.sr<|v_load_call st6.sub hc5 X Tryz.isAgg24 Tryz.sizeOf24 X X<|zi st6 X X X Tryz.call190 X (c_postilref01_Text st6.sub (t := t) (t_f0.up le4)) ?_
 intro r7 w8 h9 le10 st11 q12
 obtain rfl := q12
 refine v_not X X<|Y ?_
 refine zh rfl (fun c13 => ?_) (fun c13 => ?_)
 ·
  refine W.sr<|v_asI X X<|Y<|zo<|E<|za Tryz.results145 ?_
  refine ⟨h9, _, rfl, st11.done, ?_⟩
  refine zB ?_
  simp_all
 ·
  refine zr<|U<|W.sr<|v_asI X X<|Y<|zo<|za Tryz.results145 ?_
  refine ⟨h9, _, rfl, st11.done, ?_⟩
  refine zB ?_
  simp_all
set_option maxRecDepth 4000 in
theorem c_postilref01_line {h : Heap} {w : World} (hs : Sub h w) {t : Text} {t_v0 : Value} (t_f0 : Sl LChapter h t_v0 t.chapters) {p : Place} : Calls Tryz.prog 152 #[.agg #[t_v0], .agg #[.int .i64 p.chapter, .int .i64 p.line, .int .i64 p.word]] w (Rets h w (fun h' _ res_ => ∃ u0, res_ = .tuple #[u0, .bool ((lineAt t p).isSome)] ∧ Sl LStr h' u0 ((lineAt t p).getD []))) := by
 refine zz (n := 40) (args := [.agg #[t_v0], .agg #[.int .i64 p.chapter, .int .i64 p.line, .int .i64 p.word]]) Tryz.func152 X X X ?_
 have st0 : St h w h w [] := St.start hs
 have t_f0_b := t_f0.le
 refine W.sr<|zy st0 (cs := [t_v0]) X X X ?_
 intro b1 w2 h3 le4 hc5 st6
 refine zy st6 (cs := [.int .i64 (p.chapter), .int .i64 (p.line), .int .i64 (p.word)]) X X X ?_
 intro b7 w8 h9 le10 hc11 st12
 refine v_asL X X<|v_asB X X<|Y<|zf<|zf<|zS Tryz.mixed t_kr (Cls h9 _) (Cls.drew st12)<|u_field_addr X Tryz.underlying70 X Tryz.sizeOf3 X X<|zm X X (fun _ hC => (zc (j := 0) hC.sub hc11 X X X Tryz.isAgg3))<|u_field_addr X Tryz.underlying24 X Tryz.sizeOf22 X X<|zm X X (fun _ hC => (zc (j := 0) hC.sub (hc5.up le10) X X X Tryz.isAgg22))<|u_len (t_f0.up (le4.trans le10)) X Tryz.underlying22 X<|u_sub X X t_om X<|zU X X (fun _ => zT X Tryz.call153 X) (fun _ hC => Rets.quiet hC (zaa hC.sub _ _ _))<|u_not X X<|u_mvB X X ?_
 refine zW (d := 14) rfl (fun g13 => ?_) (fun g13 => ?_)
 ·
  refine O X X (d := 14) X X X<|O X X (d := 14) X X X<|O X X (d := 14) X X X<|O X X (d := 14) X X X<|O X X (d := 14) X X X<|O X X (d := 14) X X X<|O X X (d := 14) X X X<|O X X (d := 14) X X X<|O X X (d := 14) X X X<|O X X (d := 14) X X X<|O X X (d := 14) X X X<|O X X (d := 14) X X X<|O X X (d := 14) X X X<|u_pickT (v := (.bool _)) X X X<|zI ?_
  rintro w14 ⟨h15, s16⟩
  have st17 := st12.call0 s16
  refine U ?_
  refine zh rfl (fun c18 => ?_) (fun c18 => ?_)
  ·
   refine W.sr<|v_asL X X<|v_asB X X<|Y<|zo<|E<|zV Tryz.results152 ?_
   refine ⟨h15, _, rfl, st17.done, ?_⟩
   refine ⟨_, tup2 rfl (zj ?_), Sl.to (Sl.nil _ _) ?_⟩
   all_goals have q := g13
   all_goals simp [inB] at q
   ·have q2 : lineAt t p = none := line_none1 (by omega)
    simp [q2]
   ·have q2 : lineAt t p = none := line_none1 (by omega)
    simp [q2]
  ·
   cases c18
 ·
  refine zb X X (d := 14) X<|u_field_addr X Tryz.underlying70 X Tryz.sizeOf3 X X<|zb X X (d := 14) X<|zm X X (fun _ hC => (zc (j := 1) hC.sub hc11 X X X Tryz.isAgg3))<|zb X X (d := 14) X<|u_field_addr X Tryz.underlying24 X Tryz.sizeOf22 X X<|zb X X (d := 14) X<|zm X X (fun _ hC => (zc (j := 0) hC.sub (hc5.up le10) X X X Tryz.isAgg22))<|zb X X (d := 14) X<|u_field_addr X Tryz.underlying70 X Tryz.sizeOf3 X X<|zb X X (d := 14) X<|zm X X (fun _ hC => (zc (j := 0) hC.sub hc11 X X X Tryz.isAgg3))<|zb X X (d := 14) X ?_
  have q1 : 0 ≤ p.chapter ∧ p.chapter < t.chapters.length := by
   have q := g13
   simp [inB] at q
   omega
  have hc : ∃ y_, (t.chapters)[p.chapter.toNat]? = some y_ := ⟨_, List.getElem?_eq_getElem (by omega)⟩
  obtain ⟨c, hc⟩ := hc
  obtain ⟨b19, o20, _, he22, hc21, hr_c⟩ := Sl.elem (t_f0.up (le4.trans le10)) hc
  obtain ⟨v23, rfl, f24⟩ := hr_c
  have f24_b := f24.le
  refine zm rfl rfl (fun _ _ => (zE he22 rfl rfl (hk := (show _ = ((p.chapter.toNat : Nat) : Int) by omega)) (hu := Tryz.underlying22) (hz := Tryz.sizeOf152))) ?_
  refine zb X X (d := 14) X<|u_field_addr X Tryz.underlying152 X Tryz.sizeOf150 X X<|zb X X (d := 14) X<|zm X X (fun _ hC => (zc (j := 1) hC.sub hc21 X X X Tryz.isAgg150))<|zb X X (d := 14) X<|u_len f24 X Tryz.underlying150 X<|zb X X (d := 14) X<|u_sub X X t_om X<|zb X X (d := 14) X<|zU X X (fun _ => zT X Tryz.call153 X) (fun _ hC => Rets.quiet hC (zaa hC.sub _ _ _))<|zb X X (d := 14) X<|u_not X X<|u_pickF (v := (.bool _)) X X X<|zI ?_
  rintro w25 ⟨h26, s27⟩
  have st28 := st12.call0 s27
  refine U ?_
  refine zh rfl (fun c29 => ?_) (fun c29 => ?_)
  ·
   refine W.sr<|v_asL X X<|v_asB X X<|Y<|zo<|E<|zV Tryz.results152 ?_
   refine ⟨h26, _, rfl, st28.done, ?_⟩
   refine ⟨_, tup2 rfl (zj ?_), Sl.to (Sl.nil _ _) ?_⟩
   all_goals have q := c29
   all_goals simp [inB] at q
   ·have q2 : lineAt t p = none := line_none2 hc (by omega)
    simp [q2]
   ·have q2 : lineAt t p = none := line_none2 hc (by omega)
    simp [q2]
  ·
   refine zr<|U<|zf ?_
   have q2 : 0 ≤ p.line ∧ p.line < c.lines.length := by
    have q := c29
    simp [inB] at q
    omega
   refine zS Tryz.mixed t_kr (Cls h26 _) (Cls.drew st28)<|u_field_addr X Tryz.underlying24 X Tryz.sizeOf22 X X<|zm X X (fun _ hC => (zc (j := 0) hC.sub (hc5.up (le10.trans s27.le)) X X X Tryz.isAgg22))<|u_field_addr X Tryz.underlying70 X Tryz.sizeOf3 X X<|zm X X (fun _ hC => (zc (j := 0) hC.sub (hc11.up s27.le) X X X Tryz.isAgg3)) ?_
   refine zm rfl rfl (fun _ _ => (zE he22 rfl rfl (hk := (show _ = ((p.chapter.toNat : Nat) : Int) by omega)) (hu := Tryz.underlying22) (hz := Tryz.sizeOf152))) ?_
   refine u_field_addr X Tryz.underlying152 X Tryz.sizeOf150 X X<|zm X X (fun _ hC => (zc (j := 1) hC.sub (hc21.up s27.le) X X X Tryz.isAgg150))<|u_field_addr X Tryz.underlying70 X Tryz.sizeOf3 X X<|zm X X (fun _ hC => (zc (j := 1) hC.sub (hc11.up s27.le) X X X Tryz.isAgg3)) ?_
   have hln : ∃ y_, (c.lines)[p.line.toNat]? = some y_ := ⟨_, List.getElem?_eq_getElem (by omega)⟩
   obtain ⟨ln, hln⟩ := hln
   obtain ⟨b30, o31, _, he33, hc32, hr_ln⟩ := Sl.elem (f24.up s27.le) hln
   obtain ⟨v34, rfl, f35⟩ := hr_ln
   have f35_b := f35.le
   refine zm rfl rfl (fun _ _ => (zE he33 rfl rfl (hk := (show _ = ((p.line.toNat : Nat) : Int) by omega)) (hu := Tryz.underlying150) (hz := Tryz.sizeOf60))) ?_
   refine zm X X (fun _ hC => (zc (j := 0) hC.sub hc32 X X X Tryz.isAgg60))<|u_assign (v := v34) X X<|u_asB X X<|zI ?_
   rintro w36 ⟨h37, s38⟩
   have st39 := st28.call0 s38
   refine U<|zo<|zV Tryz.results152 ?_
   refine ⟨h37, _, rfl, st39.done, ?_⟩
   refine ⟨_, tup2 rfl (zj ?_), Sl.to (f35.up s38.le) ?_⟩
   ·simp [line_some hc q1.1 hln q2.1]
   ·simp [line_some hc q1.1 hln q2.1]
set_option maxRecDepth 4000 in
theorem c_postilref01_Place {h : Heap} {w : World} (hs : Sub h w) {t : Text} {t_v0 : Value} (t_f0 : Sl LChapter h t_v0 t.chapters) {p : Place} : Calls Tryz.prog 113 #[.agg #[t_v0], .agg #[.int .i64 p.chapter, .int .i64 p.line, .int .i64 p.word]] w (Rets h w (fun _ _ res_ => res_ = .bool (placeB t p))) := by
 refine zz (n := 22) (args := [.agg #[t_v0], .agg #[.int .i64 p.chapter, .int .i64 p.line, .int .i64 p.word]]) Tryz.func113 X X X ?_
 have st0 : St h w h w [] := St.start hs
 have t_f0_b := t_f0.le
 refine W.sr<|zy st0 (cs := [t_v0]) X X X ?_
 intro b1 w2 h3 le4 hc5 st6
 refine zy st6 (cs := [.int .i64 (p.chapter), .int .i64 (p.line), .int .i64 (p.word)]) X X X ?_
 intro b7 w8 h9 le10 hc11 st12
 refine v_asB X X<|Y<|W.sr<|v_load_call st12.sub (hc5.up le10) X Tryz.isAgg24 Tryz.sizeOf24 X X<|v_load_call st12.sub hc11 X Tryz.isAgg70 Tryz.sizeOf70 X X<|zi st12 X X X Tryz.call152 X (c_postilref01_line st12.sub (t := t) (t_f0.up (le4.trans le10)) (p := p)) ?_
 intro r13 w14 h15 le16 st17 q18
 obtain ⟨v19, rfl, f20⟩ := q18
 have f20_b := f20.le
 refine v_mvT X X<|v_extract (v := v19) X X X<|v_extract (v := (.bool _)) X X X<|v_assign (v := v19) X X<|v_asB X X<|Y<|W.sr<|v_mvB X X<|v_mvB X X ?_
 refine zx (d := 14) rfl (fun g21 => ?_) (fun g21 => ?_)
 ·
  refine M X X (d := 14) X<|v_field_addr X Tryz.underlying70 X Tryz.sizeOf3 X X<|M X X (d := 14) X<|v_load_cells1 (j := 2) st17.sub (hc11.up le16) X X X Tryz.isAgg3 X<|M X X (d := 14) X<|v_move (v := v19) X X<|M X X (d := 14) X<|v_len f20 X Tryz.underlying60 X<|M X X (d := 14) X<|v_sub X X t_om X<|M X X (d := 14) X<|zi st17 X X X Tryz.call153 X (zaa st17.sub _ _ _) ?_
  intro r22 w23 h24 le25 st26 q27
  obtain rfl := q27
  refine v_pickT (v := (.bool _)) X X X<|v_asB X X<|Y<|zo<|za Tryz.results113 ?_
  refine ⟨h24, _, rfl, st26.done, ?_⟩
  refine zj ?_
  simp_all [place_eq]
 ·
  refine Z X X X X X<|Z X X X X X<|Z X X X X X<|Z X X X X X<|Z X X X X X<|Z X X X X X<|v_pickF (v := (.bool _)) X X X<|v_asB X X<|Y<|zo<|za Tryz.results113 ?_
  refine ⟨h15, _, rfl, st17.done, ?_⟩
  refine zj ?_
  simp_all [place_eq]
set_option maxRecDepth 4000 in
theorem c_postilref04_Decision {h : Heap} {w : World} (hs : Sub h w) {t : Text} {t_v0 : Value} (t_f0 : Sl LChapter h t_v0 t.chapters) {d : Decision} (d_l2 : 0 ≤ d.kind ∧ d.kind ≤ 255) (d_l3 : d.form.length ≤ 281474976710656) (d_l7 : d.to.stem.length ≤ 281474976710656) (d_l8 : 0 ≤ d.to.mark ∧ d.to.mark ≤ 255) : Calls Tryz.prog 159 #[.agg #[t_v0], .agg #[.int .i64 d.number, .int .u8 d.kind, strV d.form, .int .i64 d.at_.chapter, .int .i64 d.at_.line, .int .i64 d.at_.word, strV d.to.stem, .int .u8 d.to.mark, .int .i64 d.of_]] w (Rets h w (fun _ _ res_ => res_ = .bool (decisionB t d))) := by
 refine zz (n := 102) (args := [.agg #[t_v0], .agg #[.int .i64 d.number, .int .u8 d.kind, strV d.form, .int .i64 d.at_.chapter, .int .i64 d.at_.line, .int .i64 d.at_.word, strV d.to.stem, .int .u8 d.to.mark, .int .i64 d.of_]]) Tryz.func159 X X X ?_
 have st0 : St h w h w [] := St.start hs
 have t_f0_b := t_f0.le
 refine W.sr<|zy st0 (cs := [t_v0]) X X X ?_
 intro b1 w2 h3 le4 hc5 st6
 refine zy st6 (cs := [.int .i64 (d.number), .int .u8 (d.kind), strV (d.form), .int .i64 (d.at_.chapter), .int .i64 (d.at_.line), .int .i64 (d.at_.word), strV (d.to.stem), .int .u8 (d.to.mark), .int .i64 (d.of_)]) X X X ?_
 intro b7 w8 h9 le10 hc11 st12
 refine v_asB X X<|Y<|zf<|W.sr<|v_field_addr X Tryz.underlying74 X Tryz.sizeOf3 X X<|v_load_cells1 (j := 0) st12.sub hc11 X X X Tryz.isAgg3 X<|zi st12 X X X Tryz.call192 X (c_postilref04_within st12.sub _ _ _) ?_
 intro r13 w14 h15 le16 st17 q18
 obtain rfl := q18
 refine v_not X X<|Y ?_
 refine zh rfl (fun c19 => ?_) (fun c19 => ?_)
 ·
  refine W.sr<|v_asB X X<|Y<|zo<|E<|za Tryz.results159 ?_
  refine ⟨h15, _, rfl, st17.done, ?_⟩
  refine zj ?_
  simp_all [decisionB]
 ·
  have qn : 1 ≤ d.number ∧ d.number ≤ 999 := by
   have q := c19
   simp [inB] at q
   omega
  refine zr<|U<|W.sr<|zk X X (r_build (cs := [.int .i64 0, .int .i64 0, .int .i64 0]) t_kr)<|zk X X (r_build (cs := [strV [], .int .u8 0]) t_kr)<|v_load_call st17.sub (hc5.up (le10.trans le16)) X Tryz.isAgg24 Tryz.sizeOf24 X X<|v_field_addr X Tryz.underlying74 X Tryz.sizeOf70 X X<|v_load_cellsN (j := 3) st17.sub (hc11.up le16) (us := [.int .i64 (d.at_.chapter), .int .i64 (d.at_.line), .int .i64 (d.at_.word)]) X X Tryz.isAgg70 Tryz.sizeOf70 X X X<|zi st17 X X X Tryz.call113 X (c_postilref01_Place st17.sub (t := t) (t_f0.up ((le4.trans le10).trans le16)) (p := d.at_)) ?_
  intro r20 w21 h22 le23 st24 q25
  obtain rfl := q25
  refine zD st24 Tryz.zeroValue70 X X ?_
  intro b26 w27 st28
  refine zD st28 Tryz.zeroValue72 X X ?_
  intro b29 w30 st31
  refine zC st31 (k := 0) X X X (zp X (zp X (zp X zQ))) Tryz.sizeOf70 X X X ?_
  intro w32 st33
  obtain ⟨h34, le35, hb36, st38⟩ := st33.freeze (k := 0) rfl
  have hc37 := Cells.of hb36
  refine zC st38 (k := 1) X X X (zp X (zp X zQ)) Tryz.sizeOf72 X X X ?_
  intro w39 st40
  obtain ⟨h41, le42, hb43, st45⟩ := st40.freeze (k := 1) rfl
  have hc44 := Cells.of hb43
  refine v_asB X X<|Y<|zf<|W.sr<|v_field_addr X Tryz.underlying74 X Tryz.sizeOf5 X X<|v_load_cells1 (j := 1) st45.sub (hc11.up (((le16.trans le23).trans le35).trans le42)) X X X Tryz.isAgg5 X<|Y<|zs<|W.sr<|v_eql X X X<|v_asB X X<|Y ?_
  refine zh rfl (fun c46 => ?_) (fun c46 => ?_)
  ·
   replace c46 := of_decide_eq_true c46
   refine W.sr<|v_field_addr X Tryz.underlying74 X Tryz.sizeOf9 X X<|v_load_cells1 (j := 2) st45.sub (hc11.up (((le16.trans le23).trans le35).trans le42)) X X X Tryz.isAgg9 X<|zi st45 X X X Tryz.call191 X (c_postilref01_Word st45.sub _ t_str) ?_
   intro r47 w48 h49 le50 st51 q52
   obtain rfl := q52
   refine v_mvB X X ?_
   refine zx (d := 25) rfl (fun g53 => ?_) (fun g53 => ?_)
   ·
    refine M X X (d := 25) X<|v_field_addr X Tryz.underlying74 X Tryz.sizeOf70 X X<|M X X (d := 25) X<|v_load_cellsN (j := 3) st51.sub (hc11.up ((((le16.trans le23).trans le35).trans le42).trans le50)) (us := [.int .i64 (d.at_.chapter), .int .i64 (d.at_.line), .int .i64 (d.at_.word)]) X X Tryz.isAgg70 Tryz.sizeOf70 X X X<|M X X (d := 25) X<|v_load_call st51.sub (hc37.up (le42.trans le50)) X Tryz.isAgg70 Tryz.sizeOf70 X X<|M X X (d := 25) X<|zk X X (r_steql X X Tryz.eqGuardType70 (Tryz.eq_Place d.at_ zPlace))<|v_pickT (v := (.bool _)) X X X<|v_mvB X X ?_
    refine zx (d := 31) rfl (fun g54 => ?_) (fun g54 => ?_)
    ·
     replace g54 := of_decide_eq_true g54
     refine M X X (d := 31) X<|v_field_addr X Tryz.underlying74 X Tryz.sizeOf72 X X<|M X X (d := 31) X<|v_load_cellsN (j := 6) st51.sub (hc11.up ((((le16.trans le23).trans le35).trans le42).trans le50)) (us := [strV (d.to.stem), .int .u8 (d.to.mark)]) X X Tryz.isAgg72 Tryz.sizeOf72 X X X<|M X X (d := 31) X<|zi st51 X X X Tryz.call147 X (c_postilref04_Head st51.sub (hd := d.to) t_str t_u8) ?_
     intro r55 w56 h57 le58 st59 q60
     obtain rfl := q60
     refine v_pickT (v := (.bool _)) X X X<|v_mvB X X ?_
     refine zx (d := 36) rfl (fun g61 => ?_) (fun g61 => ?_)
     ·
      refine M X X (d := 36) X<|v_field_addr X Tryz.underlying74 X Tryz.sizeOf3 X X<|M X X (d := 36) X<|v_load_cells1 (j := 8) st59.sub (hc11.up (((((le16.trans le23).trans le35).trans le42).trans le50).trans le58)) X X X Tryz.isAgg3 X<|M X X (d := 36) X<|v_eql X X X<|v_pickT (v := (.bool _)) X X X<|v_asB X X<|Y<|zo<|zn<|E<|za Tryz.results159 ?_
      refine ⟨h57, _, rfl, st59.done, ?_⟩
      refine zj ?_
      simp_all [decisionB]
     ·
      refine Z X X X X X<|Z X X X X X<|Z X X X X X<|v_pickF (v := (.bool _)) X X X<|v_asB X X<|Y<|zo<|zn<|E<|za Tryz.results159 ?_
      refine ⟨h57, _, rfl, st59.done, ?_⟩
      refine zj ?_
      simp_all [decisionB]
    ·
     replace g54 := of_decide_eq_false g54
     refine Z X X X X X<|Z X X X X X<|Z X X X X X<|v_pickF (v := (.bool _)) X X X<|v_mvB X X<|Z X X X X X<|Z X X X X X<|Z X X X X X<|v_pickF (v := (.bool _)) X X X<|v_asB X X<|Y<|zo<|zn<|E<|za Tryz.results159 ?_
     refine ⟨h49, _, rfl, st51.done, ?_⟩
     refine zj ?_
     simp_all [decisionB]
   ·
    refine Z X X X X X<|Z X X X X X<|Z X X X X X<|Z X X X X X<|v_pickF (v := (.bool _)) X X X<|v_mvB X X<|Z X X X X X<|Z X X X X X<|Z X X X X X<|v_pickF (v := (.bool _)) X X X<|v_mvB X X<|Z X X X X X<|Z X X X X X<|Z X X X X X<|v_pickF (v := (.bool _)) X X X<|v_asB X X<|Y<|zo<|zn<|E<|za Tryz.results159 ?_
    refine ⟨h49, _, rfl, st51.done, ?_⟩
    refine zj ?_
    simp_all [decisionB]
  ·
   replace c46 := of_decide_eq_false c46
   refine W.sr<|v_eql X X X<|v_asB X X<|Y ?_
   refine zh rfl (fun c62 => ?_) (fun c62 => ?_)
   ·
    replace c62 := of_decide_eq_true c62
    refine W.sr<|v_field_addr X Tryz.underlying74 X Tryz.sizeOf9 X X<|v_load_cells1 (j := 2) st45.sub (hc11.up (((le16.trans le23).trans le35).trans le42)) X X X Tryz.isAgg9 X<|zi st45 X X X Tryz.call191 X (c_postilref01_Word st45.sub _ t_str) ?_
    intro r63 w64 h65 le66 st67 q68
    obtain rfl := q68
    refine v_mvB X X ?_
    refine zx (d := 46) rfl (fun g69 => ?_) (fun g69 => ?_)
    ·
     refine M X X (d := 46) X<|v_mvB X X<|v_pickT (v := (.bool _)) X X X<|v_mvB X X ?_
     refine zx (d := 49) rfl (fun g70 => ?_) (fun g70 => ?_)
     ·
      refine M X X (d := 49) X<|v_field_addr X Tryz.underlying74 X Tryz.sizeOf72 X X<|M X X (d := 49) X<|v_load_cellsN (j := 6) st67.sub (hc11.up ((((le16.trans le23).trans le35).trans le42).trans le66)) (us := [strV (d.to.stem), .int .u8 (d.to.mark)]) X X Tryz.isAgg72 Tryz.sizeOf72 X X X<|M X X (d := 49) X<|zi st67 X X X Tryz.call147 X (c_postilref04_Head st67.sub (hd := d.to) t_str t_u8) ?_
      intro r71 w72 h73 le74 st75 q76
      obtain rfl := q76
      refine v_pickT (v := (.bool _)) X X X<|v_mvB X X ?_
      refine zx (d := 54) rfl (fun g77 => ?_) (fun g77 => ?_)
      ·
       refine M X X (d := 54) X<|v_field_addr X Tryz.underlying74 X Tryz.sizeOf3 X X<|M X X (d := 54) X<|v_load_cells1 (j := 8) st75.sub (hc11.up (((((le16.trans le23).trans le35).trans le42).trans le66).trans le74)) X X X Tryz.isAgg3 X<|M X X (d := 54) X<|v_eql X X X<|v_pickT (v := (.bool _)) X X X<|v_asB X X<|Y<|zo<|zn<|E<|za Tryz.results159 ?_
       refine ⟨h73, _, rfl, st75.done, ?_⟩
       refine zj ?_
       simp_all [decisionB]
      ·
       refine Z X X X X X<|Z X X X X X<|Z X X X X X<|v_pickF (v := (.bool _)) X X X<|v_asB X X<|Y<|zo<|zn<|E<|za Tryz.results159 ?_
       refine ⟨h73, _, rfl, st75.done, ?_⟩
       refine zj ?_
       simp_all [decisionB]
     ·
      refine Z X X X X X<|Z X X X X X<|Z X X X X X<|v_pickF (v := (.bool _)) X X X<|v_mvB X X<|Z X X X X X<|Z X X X X X<|Z X X X X X<|v_pickF (v := (.bool _)) X X X<|v_asB X X<|Y<|zo<|zn<|E<|za Tryz.results159 ?_
      refine ⟨h65, _, rfl, st67.done, ?_⟩
      refine zj ?_
      simp_all [decisionB]
    ·
     refine Z X X X X X<|v_pickF (v := (.bool _)) X X X<|v_mvB X X<|Z X X X X X<|Z X X X X X<|Z X X X X X<|v_pickF (v := (.bool _)) X X X<|v_mvB X X<|Z X X X X X<|Z X X X X X<|Z X X X X X<|v_pickF (v := (.bool _)) X X X<|v_asB X X<|Y<|zo<|zn<|E<|za Tryz.results159 ?_
     refine ⟨h65, _, rfl, st67.done, ?_⟩
     refine zj ?_
     simp_all [decisionB]
   ·
    replace c62 := of_decide_eq_false c62
    refine W.sr<|v_eql X X X<|v_asB X X<|Y ?_
    refine zh rfl (fun c78 => ?_) (fun c78 => ?_)
    ·
     replace c78 := of_decide_eq_true c78
     refine W.sr<|v_field_addr X Tryz.underlying74 X Tryz.sizeOf9 X X<|v_load_cells1 (j := 2) st45.sub (hc11.up (((le16.trans le23).trans le35).trans le42)) X X X Tryz.isAgg9 X<|v_seql X X X<|v_mvB X X ?_
     refine zx (d := 64) rfl (fun g79 => ?_) (fun g79 => ?_)
     ·
      replace g79 := of_decide_eq_true g79
      refine M X X (d := 64) X<|v_mvB X X<|v_pickT (v := (.bool _)) X X X<|v_mvB X X ?_
      refine zx (d := 67) rfl (fun g80 => ?_) (fun g80 => ?_)
      ·
       refine M X X (d := 67) X<|v_field_addr X Tryz.underlying74 X Tryz.sizeOf72 X X<|M X X (d := 67) X<|v_load_cellsN (j := 6) st45.sub (hc11.up (((le16.trans le23).trans le35).trans le42)) (us := [strV (d.to.stem), .int .u8 (d.to.mark)]) X X Tryz.isAgg72 Tryz.sizeOf72 X X X<|M X X (d := 67) X<|zi st45 X X X Tryz.call147 X (c_postilref04_Head st45.sub (hd := d.to) t_str t_u8) ?_
       intro r81 w82 h83 le84 st85 q86
       obtain rfl := q86
       refine v_pickT (v := (.bool _)) X X X<|v_mvB X X ?_
       refine zx (d := 72) rfl (fun g87 => ?_) (fun g87 => ?_)
       ·
        refine M X X (d := 72) X<|v_field_addr X Tryz.underlying74 X Tryz.sizeOf3 X X<|M X X (d := 72) X<|v_load_cells1 (j := 8) st85.sub (hc11.up ((((le16.trans le23).trans le35).trans le42).trans le84)) X X X Tryz.isAgg3 X<|M X X (d := 72) X<|v_eql X X X<|v_pickT (v := (.bool _)) X X X<|v_asB X X<|Y<|zo<|zn<|E<|za Tryz.results159 ?_
        refine ⟨h83, _, rfl, st85.done, ?_⟩
        refine zj ?_
        simp_all [decisionB]
       ·
        refine Z X X X X X<|Z X X X X X<|Z X X X X X<|v_pickF (v := (.bool _)) X X X<|v_asB X X<|Y<|zo<|zn<|E<|za Tryz.results159 ?_
        refine ⟨h83, _, rfl, st85.done, ?_⟩
        refine zj ?_
        simp_all [decisionB]
      ·
       refine Z X X X X X<|Z X X X X X<|Z X X X X X<|v_pickF (v := (.bool _)) X X X<|v_mvB X X<|Z X X X X X<|Z X X X X X<|Z X X X X X<|v_pickF (v := (.bool _)) X X X<|v_asB X X<|Y<|zo<|zn<|E<|za Tryz.results159 ?_
       refine ⟨h41, _, rfl, st45.done, ?_⟩
       refine zj ?_
       simp_all [decisionB]
     ·
      replace g79 := of_decide_eq_false g79
      refine Z X X X X X<|v_pickF (v := (.bool _)) X X X<|v_mvB X X<|Z X X X X X<|Z X X X X X<|Z X X X X X<|v_pickF (v := (.bool _)) X X X<|v_mvB X X<|Z X X X X X<|Z X X X X X<|Z X X X X X<|v_pickF (v := (.bool _)) X X X<|v_asB X X<|Y<|zo<|zn<|E<|za Tryz.results159 ?_
      refine ⟨h41, _, rfl, st45.done, ?_⟩
      refine zj ?_
      simp_all [decisionB]
    ·
     replace c78 := of_decide_eq_false c78
     refine W.sr<|v_eql X X X<|v_asB X X<|Y ?_
     refine zh rfl (fun c88 => ?_) (fun c88 => ?_)
     ·
      replace c88 := of_decide_eq_true c88
      refine W.sr<|v_field_addr X Tryz.underlying74 X Tryz.sizeOf9 X X<|v_load_cells1 (j := 2) st45.sub (hc11.up (((le16.trans le23).trans le35).trans le42)) X X X Tryz.isAgg9 X<|v_seql X X X<|v_mvB X X ?_
      refine zx (d := 82) rfl (fun g89 => ?_) (fun g89 => ?_)
      ·
       replace g89 := of_decide_eq_true g89
       refine M X X (d := 82) X<|v_field_addr X Tryz.underlying74 X Tryz.sizeOf70 X X<|M X X (d := 82) X<|v_load_cellsN (j := 3) st45.sub (hc11.up (((le16.trans le23).trans le35).trans le42)) (us := [.int .i64 (d.at_.chapter), .int .i64 (d.at_.line), .int .i64 (d.at_.word)]) X X Tryz.isAgg70 Tryz.sizeOf70 X X X<|M X X (d := 82) X<|v_load_call st45.sub (hc37.up le42) X Tryz.isAgg70 Tryz.sizeOf70 X X<|M X X (d := 82) X<|zk X X (r_steql X X Tryz.eqGuardType70 (Tryz.eq_Place d.at_ zPlace))<|v_pickT (v := (.bool _)) X X X<|v_mvB X X ?_
       refine zx (d := 88) rfl (fun g90 => ?_) (fun g90 => ?_)
       ·
        replace g90 := of_decide_eq_true g90
        refine M X X (d := 88) X<|v_field_addr X Tryz.underlying74 X Tryz.sizeOf72 X X<|M X X (d := 88) X<|v_load_cellsN (j := 6) st45.sub (hc11.up (((le16.trans le23).trans le35).trans le42)) (us := [strV (d.to.stem), .int .u8 (d.to.mark)]) X X Tryz.isAgg72 Tryz.sizeOf72 X X X<|M X X (d := 88) X<|v_load_call st45.sub hc44 X Tryz.isAgg72 Tryz.sizeOf72 X X<|M X X (d := 88) X<|zk X X (r_steql X X Tryz.eqGuardType72 (Tryz.eq_Head d.to zHead))<|v_pickT (v := (.bool _)) X X X<|v_mvB X X ?_
        refine zx (d := 94) rfl (fun g91 => ?_) (fun g91 => ?_)
        ·
         replace g91 := of_decide_eq_true g91
         refine M X X (d := 94) X<|v_field_addr X Tryz.underlying74 X Tryz.sizeOf3 X X<|M X X (d := 94) X<|v_load_cells1 (j := 8) st45.sub (hc11.up (((le16.trans le23).trans le35).trans le42)) X X X Tryz.isAgg3 X<|M X X (d := 94) X<|v_field_addr X Tryz.underlying74 X Tryz.sizeOf3 X X<|M X X (d := 94) X<|v_load_cells1 (j := 0) st45.sub (hc11.up (((le16.trans le23).trans le35).trans le42)) X X X Tryz.isAgg3 X<|M X X (d := 94) X<|v_sub X X t_om X<|M X X (d := 94) X<|zi st45 X X X Tryz.call192 X (c_postilref04_within st45.sub _ _ _) ?_
         intro r92 w93 h94 le95 st96 q97
         obtain rfl := q97
         refine v_pickT (v := (.bool _)) X X X<|v_asB X X<|Y<|zo<|zn<|E<|za Tryz.results159 ?_
         refine ⟨h94, _, rfl, st96.done, ?_⟩
         refine zj ?_
         simp_all [decisionB]
        ·
         replace g91 := of_decide_eq_false g91
         refine Z X X X X X<|Z X X X X X<|Z X X X X X<|Z X X X X X<|Z X X X X X<|Z X X X X X<|v_pickF (v := (.bool _)) X X X<|v_asB X X<|Y<|zo<|zn<|E<|za Tryz.results159 ?_
         refine ⟨h41, _, rfl, st45.done, ?_⟩
         refine zj ?_
         simp_all [decisionB]
       ·
        replace g90 := of_decide_eq_false g90
        refine Z X X X X X<|Z X X X X X<|Z X X X X X<|Z X X X X X<|v_pickF (v := (.bool _)) X X X<|v_mvB X X<|Z X X X X X<|Z X X X X X<|Z X X X X X<|Z X X X X X<|Z X X X X X<|Z X X X X X<|v_pickF (v := (.bool _)) X X X<|v_asB X X<|Y<|zo<|zn<|E<|za Tryz.results159 ?_
        refine ⟨h41, _, rfl, st45.done, ?_⟩
        refine zj ?_
        simp_all [decisionB]
      ·
       replace g89 := of_decide_eq_false g89
       refine Z X X X X X<|Z X X X X X<|Z X X X X X<|Z X X X X X<|v_pickF (v := (.bool _)) X X X<|v_mvB X X<|Z X X X X X<|Z X X X X X<|Z X X X X X<|Z X X X X X<|v_pickF (v := (.bool _)) X X X<|v_mvB X X<|Z X X X X X<|Z X X X X X<|Z X X X X X<|Z X X X X X<|Z X X X X X<|Z X X X X X<|v_pickF (v := (.bool _)) X X X<|v_asB X X<|Y<|zo<|zn<|E<|za Tryz.results159 ?_
       refine ⟨h41, _, rfl, st45.done, ?_⟩
       refine zj ?_
       simp_all [decisionB]
     ·
      replace c88 := of_decide_eq_false c88
      refine zr<|zw<|U<|W.sr<|v_asB X X<|Y<|zo<|za Tryz.results159 ?_
      refine ⟨h41, _, rfl, st45.done, ?_⟩
      refine zj ?_
      simp_all [decisionB]
set_option maxRecDepth 4000 in
theorem c_postilref04_Lexicon {h : Heap} {w : World} (hs : Sub h w) {t : Text} {t_v0 : Value} (t_f0 : Sl LChapter h t_v0 t.chapters) {x : Lexicon} {x_v0 : Value} (x_f0 : Sl LRule h x_v0 x.rules) {x_v1 : Value} (x_f1 : Sl LDecision h x_v1 x.decisions) : Calls Tryz.prog 116 #[.agg #[t_v0], .agg #[x_v0, x_v1]] w (Rets h w (fun _ _ res_ => res_ = .bool (lexiconB t x))) := by
 refine zz (n := 65) (args := [.agg #[t_v0], .agg #[x_v0, x_v1]]) Tryz.func116 X X X ?_
 have st0 : St h w h w [] := St.start hs
 have t_f0_b := t_f0.le
 have x_f0_b := x_f0.le
 have x_f1_b := x_f1.le
 refine W.sr<|zy st0 (cs := [t_v0]) X X X ?_
 intro b1 w2 h3 le4 hc5 st6
 refine zy st6 (cs := [x_v0, x_v1]) X X X ?_
 intro b7 w8 h9 le10 hc11 st12
 refine v_asB X X<|Y<|zf<|W.sr<|v_field_addr X Tryz.underlying28 X Tryz.sizeOf25 X X<|v_load_cells1 (j := 0) st12.sub hc11 X X X Tryz.isAgg25 X<|v_len (x_f0.up (le4.trans le10)) X Tryz.underlying25 X<|v_gtr X X X<|v_mvB X X ?_
 refine zx (d := 12) rfl (fun g13 => ?_) (fun g13 => ?_)
 ·
  replace g13 := of_decide_eq_true g13
  refine Z X X X X X<|Z X X X X X<|Z X X X X X<|Z X X X X X<|v_pickT (v := (.bool _)) X X X<|Y ?_
  refine zh rfl (fun c14 => ?_) (fun c14 => ?_)
  ·
   refine W.sr<|v_asB X X<|Y<|zo<|E<|za Tryz.results116 ?_
   refine ⟨h9, _, rfl, st12.done, ?_⟩
   refine zj ?_
   have q := g13
   simp [lexiconB]
   intros
   omega
  ·
   cases c14
 ·
  replace g13 := of_decide_eq_false g13
  refine M X X (d := 12) X<|v_field_addr X Tryz.underlying28 X Tryz.sizeOf26 X X<|M X X (d := 12) X<|v_load_cells1 (j := 1) st12.sub hc11 X X X Tryz.isAgg26 X<|M X X (d := 12) X<|v_len (x_f1.up (le4.trans le10)) X Tryz.underlying26 X<|M X X (d := 12) X<|v_gtr X X X<|v_pickF (v := (.bool _)) X X X<|Y ?_
  refine zh rfl (fun c15 => ?_) (fun c15 => ?_)
  ·
   replace c15 := of_decide_eq_true c15
   refine W.sr<|v_asB X X<|Y<|zo<|E<|za Tryz.results116 ?_
   refine ⟨h9, _, rfl, st12.done, ?_⟩
   refine zj ?_
   have q := c15
   simp [lexiconB]
   intros
   omega
  ·
   replace c15 := of_decide_eq_false c15
   refine zr<|U<|zf<|W.sr<|v_asI X X<|Y<|zs ?_
   refine zG [4, 5, 18, 19, 20, 21, 22, 23, 24, 25, 26, 27, 28, 29, 30, 31] (G := Nat × Heap) (fun ⟨i, h16⟩ => [(5, .int .i64 (i : Int))]) (fun ⟨i, h16⟩ w' => Le h9 h16 ∧ St h w h16 w' [] ∧ (i ≤ x.rules.length) ∧ ((x.rules.take i).all ruleB = true)) (fun ⟨i, h16⟩ => x.rules.length - i) ⟨0, h9⟩ ⟨rfl, trivial⟩ ⟨Le.refl _, st12, zK, zK⟩ ?_
   rintro ⟨i, h16⟩ _ w19 ⟨le17, st18, hi, hR⟩
   refine zf<|W.sr<|v_mvI X X<|v_field_addr X Tryz.underlying28 X Tryz.sizeOf25 X X<|v_load_cells1 (j := 0) st18.sub (hc11.up le17) X X X Tryz.isAgg25 X<|v_len (x_f0.up ((le4.trans le10).trans le17)) X Tryz.underlying25 X<|v_lss X X X<|Y ?_
   refine zh rfl (fun c20 => ?_) (fun c20 => ?_)
   ·
    replace c20 := of_decide_eq_true c20
    refine zr<|U<|zf<|zs<|W.sr<|v_field_addr X Tryz.underlying28 X Tryz.sizeOf25 X X<|v_load_cells1 (j := 0) st18.sub (hc11.up le17) X X X Tryz.isAgg25 X<|v_mvI X X ?_
    have hr : ∃ y_, (x.rules)[i]? = some y_ := ⟨_, List.getElem?_eq_getElem (by omega)⟩
    obtain ⟨r, hr⟩ := hr
    obtain ⟨b21, o22, _, he24, hc23, hr_r⟩ := Sl.elem (x_f0.up ((le4.trans le10).trans le17)) hr
    obtain ⟨rfl, ls25, ls26⟩ := hr_r
    simp only [big] at ls25
    simp only [big] at ls26
    refine v_index_el he24 X X (hk := X) (hu := Tryz.underlying25) (hz := Tryz.sizeOf68) X<|v_load_call st18.sub hc23 X Tryz.isAgg68 Tryz.sizeOf68 X X<|zi st18 X X X Tryz.call158 X (c_postilref04_Rule st18.sub (r := r) t_str t_str) ?_
    intro r27 w28 h29 le30 st31 q32
    obtain rfl := q32
    refine v_not X X<|Y ?_
    refine zh rfl (fun c33 => ?_) (fun c33 => ?_)
    ·
     refine W.sr<|v_asB X X<|Y<|zo<|zn<|E<|E<|zn<|E<|za Tryz.results116 ?_
     refine ⟨h29, _, rfl, st31.done, ?_⟩
     refine zj ?_
     have q := not_all (p := ruleB) hr (by simpa using c33)
     simp [lexiconB, q]
    ·
     refine zr<|zw<|U<|zg<|v_mvI X X<|v_add X X t_om X<|v_asI X X<|Y ?_
     refine ⟨⟨i + 1, h29⟩, ⟨rfl, trivial⟩, ?_, ⟨(le17.trans le30), st31, ?_, ?_⟩, ?_⟩
     ·exact zH
     ·first | omega | (simp; omega)
     ·exact all_take_succ hR hr (by simpa using c33)
     ·show x.rules.length - ((i + 1)) < x.rules.length - i
      omega
   ·
    replace c20 := of_decide_eq_false c20
    refine zL<|ze<|ze<|zF<|U<|zf<|W.sr<|v_asI X X<|Y<|zs ?_
    refine zG [4, 6, 7, 32, 33, 34, 35, 36, 37, 38, 39, 40, 41, 42, 43, 44, 45, 46, 47, 48, 49, 50, 51, 52, 53, 54, 55, 56, 57, 58, 59, 60, 61, 62, 63, 64] (G := Nat × Heap) (fun ⟨i, h34⟩ => [(6, .int .i64 (i : Int))]) (fun ⟨i, h34⟩ w' => Le h16 h34 ∧ St h w h34 w' [] ∧ (i ≤ x.decisions.length) ∧ ((x.decisions.take i).all (decisionB t) = true) ∧ (((x.decisions.take i).map (·.number)).Nodup)) (fun ⟨i, h34⟩ => x.decisions.length - i) ⟨0, h16⟩ ⟨rfl, trivial⟩ ⟨Le.refl _, st18, zK, zK, zK⟩ ?_
    rintro ⟨i, h34⟩ _ w37 ⟨le35, st36, hi, hD, hN⟩
    refine zf<|W.sr<|v_mvI X X<|v_field_addr X Tryz.underlying28 X Tryz.sizeOf26 X X<|v_load_cells1 (j := 1) st36.sub (hc11.up (le17.trans le35)) X X X Tryz.isAgg26 X<|v_len (x_f1.up (((le4.trans le10).trans le17).trans le35)) X Tryz.underlying26 X<|v_lss X X X<|Y ?_
    refine zh rfl (fun c38 => ?_) (fun c38 => ?_)
    ·
     replace c38 := of_decide_eq_true c38
     refine zr<|U<|zf<|zs<|zf<|zf<|zS Tryz.mixed t_kr (Cls h34 _) (Cls.drew st36)<|zm X X (fun _ hC => (zM hC.sub (hc5.up ((le10.trans le17).trans le35)) X Tryz.isAgg24 Tryz.sizeOf24 X))<|u_field_addr X Tryz.underlying28 X Tryz.sizeOf26 X X<|zm X X (fun _ hC => (zc (j := 1) hC.sub (hc11.up (le17.trans le35)) X X X Tryz.isAgg26))<|u_mvI X X ?_
     have hd : ∃ y_, (x.decisions)[i]? = some y_ := ⟨_, List.getElem?_eq_getElem (by omega)⟩
     obtain ⟨d, hd⟩ := hd
     obtain ⟨b39, o40, _, he42, hc41, hr_d⟩ := Sl.elem (x_f1.up (((le4.trans le10).trans le17).trans le35)) hd
     obtain ⟨rfl, lu43, ls44, ls45, lu46⟩ := hr_d
     simp only [big] at ls44
     simp only [big] at ls45
     refine u_index_el he42 X X (hk := X) (hu := Tryz.underlying26) (hz := Tryz.sizeOf74) X<|zm X X (fun _ hC => (zM hC.sub hc41 X Tryz.isAgg74 Tryz.sizeOf74 X))<|zU X X (fun _ => zT X Tryz.call159 X) (fun _ hC => Rets.quiet hC (c_postilref04_Decision hC.sub (t := t) (t_f0.up (((le4.trans le10).trans le17).trans le35)) (d := d) t_u8 t_str t_str t_u8))<|u_not X X<|zI ?_
     rintro w47 ⟨h48, s49⟩
     have st50 := st36.call0 s49
     refine U ?_
     refine zh rfl (fun c51 => ?_) (fun c51 => ?_)
     ·
      refine W.sr<|v_asB X X<|Y<|zo<|E<|zn<|E<|E<|zn<|E<|za Tryz.results116 ?_
      refine ⟨h48, _, rfl, st50.done, ?_⟩
      refine zj ?_
      have q := not_all (p := decisionB t) hd (by simpa using c51)
      simp [lexiconB, q]
     ·
      refine zr<|U<|W.sr<|v_asI X X<|Y<|zs ?_
      refine zG [4, 7, 47, 48, 49, 50, 51, 52, 53, 54, 55, 56, 57, 58, 59, 60, 61, 62, 63, 64] (G := Nat × Heap) (fun ⟨k, h52⟩ => [(7, .int .i64 (k : Int))]) (fun ⟨k, h52⟩ w' => Le h48 h52 ∧ St h w h52 w' [] ∧ (k ≤ i) ∧ (∀ j c2, j < k → x.decisions[j]? = some c2 → c2.number ≠ d.number)) (fun ⟨k, h52⟩ => i - k) ⟨0, h48⟩ ⟨rfl, trivial⟩ ⟨Le.refl _, st50, zK, (by intro j _ hj; omega)⟩ ?_
      rintro ⟨k, h52⟩ _ w55 ⟨le53, st54, hk, hq⟩
      refine zf<|W.sr<|v_mvI X X<|v_mvI X X<|v_lss X X X<|Y ?_
      refine zh rfl (fun c56 => ?_) (fun c56 => ?_)
      ·
       replace c56 := of_decide_eq_true c56
       refine zr<|U<|zf<|zs<|zf<|zS Tryz.mixed t_kr (Cls h52 _) (Cls.drew st54)<|u_field_addr X Tryz.underlying28 X Tryz.sizeOf26 X X<|zm X X (fun _ hC => (zc (j := 1) hC.sub (hc11.up (((le17.trans le35).trans s49.le).trans le53)) X X X Tryz.isAgg26))<|u_mvI X X ?_
       have he : ∃ y_, (x.decisions)[k]? = some y_ := ⟨_, List.getElem?_eq_getElem (by omega)⟩
       obtain ⟨e, he⟩ := he
       obtain ⟨b57, o58, _, he60, hc59, hr_e⟩ := Sl.elem (x_f1.up (((((le4.trans le10).trans le17).trans le35).trans s49.le).trans le53)) he
       obtain ⟨rfl, lu61, ls62, ls63, lu64⟩ := hr_e
       simp only [big] at ls62
       simp only [big] at ls63
       refine u_index_el he60 X X (hk := X) (hu := Tryz.underlying26) (hz := Tryz.sizeOf74) X<|u_field_addr X Tryz.underlying74 X Tryz.sizeOf3 X X<|zm X X (fun _ hC => (zc (j := 0) hC.sub hc59 X X X Tryz.isAgg3))<|u_field_addr X Tryz.underlying28 X Tryz.sizeOf26 X X<|zm X X (fun _ hC => (zc (j := 1) hC.sub (hc11.up (((le17.trans le35).trans s49.le).trans le53)) X X X Tryz.isAgg26))<|u_mvI X X<|u_index_el he42 X X (hk := X) (hu := Tryz.underlying26) (hz := Tryz.sizeOf74) X<|u_field_addr X Tryz.underlying74 X Tryz.sizeOf3 X X<|zm X X (fun _ hC => (zc (j := 0) hC.sub (hc41.up (s49.le.trans le53)) X X X Tryz.isAgg3))<|u_eql X X X<|zI ?_
       rintro w65 ⟨h66, s67⟩
       have st68 := st54.call0 s67
       refine U ?_
       refine zh rfl (fun c69 => ?_) (fun c69 => ?_)
       ·
        replace c69 := of_decide_eq_true c69
        refine W.sr<|v_asB X X<|Y<|zo<|zn<|E<|E<|zn<|zn<|E<|E<|zn<|E<|za Tryz.results116 ?_
        refine ⟨h66, _, rfl, st68.done, ?_⟩
        refine zj ?_
        have q := not_nodup (f := (·.number)) he hd (by omega) (by assumption)
        simp [lexiconB, q]
       ·
        replace c69 := of_decide_eq_false c69
        refine zr<|zw<|U<|zg<|v_mvI X X<|v_add X X t_om X<|v_asI X X<|Y ?_
        refine ⟨⟨k + 1, h66⟩, ⟨rfl, trivial⟩, ?_, ⟨(le53.trans s67.le), st68, ?_, ?_⟩, ?_⟩
        ·exact zH
        ·first | omega | (simp; omega)
        ·intro j c2 h1 h2
         rcases Nat.lt_or_ge j k with h3 | h3
         ·exact hq j c2 h3 h2
         ·obtain rfl : j = k := by omega
          rw [h2] at he; cases he; assumption
        ·show i - ((k + 1)) < i - k
         omega
      ·
       replace c56 := of_decide_eq_false c56
       refine zL<|ze<|ze<|zF<|zw<|U<|zg<|v_mvI X X<|v_add X X t_om X<|v_asI X X<|Y ?_
       have HD : decisionB t d = true := by simpa using c51
       refine ⟨⟨i + 1, h52⟩, ⟨rfl, trivial⟩, ?_, ⟨((le35.trans s49.le).trans le53), st54, ?_, ?_, ?_⟩, ?_⟩
       ·exact zH
       ·first | omega | (simp; omega)
       ·exact all_take_succ hD hd HD
       ·exact nodup_take_succ hN hd (by omega) (fun j c2 h1 h2 => hq j c2 (by omega) h2)
       ·show x.decisions.length - ((i + 1)) < x.decisions.length - i
        omega
    ·
     replace c38 := of_decide_eq_false c38
     refine zL<|ze<|ze<|zF<|U<|W.sr<|v_asB X X<|Y<|zo<|za Tryz.results116 ?_
     refine ⟨h34, _, rfl, st36.done, ?_⟩
     refine zj ?_
     have q1 := all_of_take hR (by omega)
     have q2 := all_of_take hD (by omega)
     have q3 : x.decisions.take i = x.decisions := List.take_of_length_le (by omega)
     rw [q3] at hN
     simp [lexiconB, q1, q2, hN]
     omega
set_option maxRecDepth 4000 in
theorem c_postilref04_Check {h : Heap} {w : World} (hs : Sub h w) {t : Text} {t_v0 : Value} (t_f0 : Sl LChapter h t_v0 t.chapters) {x : Lexicon} {x_v0 : Value} (x_f0 : Sl LRule h x_v0 x.rules) {x_v1 : Value} (x_f1 : Sl LDecision h x_v1 x.decisions) : Calls Tryz.prog 104 #[.agg #[t_v0], .agg #[x_v0, x_v1]] w (Rets h w (fun _ _ res_ => res_ = .int .i64 (checkN t x))) := by
 refine zz (n := 15) (args := [.agg #[t_v0], .agg #[x_v0, x_v1]]) Tryz.func104 X X X ?_
 have st0 : St h w h w [] := St.start hs
 have t_f0_b := t_f0.le
 have x_f0_b := x_f0.le
 have x_f1_b := x_f1.le
 refine W.sr<|zy st0 (cs := [t_v0]) X X X ?_
 intro b1 w2 h3 le4 hc5 st6
 refine zy st6 (cs := [x_v0, x_v1]) X X X ?_
 intro b7 w8 h9 le10 hc11 st12
 refine v_asI X X<|Y<|zf<|W.sr<|v_load_call st12.sub (hc5.up le10) X Tryz.isAgg24 Tryz.sizeOf24 X X<|zi st12 X X X Tryz.call145 X (c_postilref01_Check st12.sub (t := t) (t_f0.up (le4.trans le10))) ?_
 intro r13 w14 h15 le16 st17 q18
 obtain rfl := q18
 refine v_asI X X<|Y<|W.sr<|v_mvI X X<|v_neq X X X<|Y ?_
 refine zh rfl (fun c19 => ?_) (fun c19 => ?_)
 ·
  replace c19 := of_decide_eq_true c19
  refine W.sr<|v_mvI X X<|v_asI X X<|Y<|zo<|E<|za Tryz.results104 ?_
  refine ⟨h15, _, rfl, st17.done, ?_⟩
  refine zB ?_
  simp_all [checkN]
 ·
  replace c19 := of_decide_eq_false c19
  refine zr<|U<|zf<|W.sr<|v_load_call st17.sub (hc5.up (le10.trans le16)) X Tryz.isAgg24 Tryz.sizeOf24 X X<|v_load_call st17.sub (hc11.up le16) X Tryz.isAgg28 Tryz.sizeOf28 X X<|zi st17 X X X Tryz.call116 X (c_postilref04_Lexicon st17.sub (t := t) (t_f0.up ((le4.trans le10).trans le16)) (x := x) (x_f0.up ((le4.trans le10).trans le16)) (x_f1.up ((le4.trans le10).trans le16))) ?_
  intro r20 w21 h22 le23 st24 q25
  obtain rfl := q25
  refine v_not X X<|Y ?_
  refine zh rfl (fun c26 => ?_) (fun c26 => ?_)
  ·
   refine W.sr<|v_asI X X<|Y<|zo<|E<|za Tryz.results104 ?_
   refine ⟨h22, _, rfl, st24.done, ?_⟩
   refine zB ?_
   simp_all [checkN]
  ·
   refine zr<|U<|W.sr<|v_asI X X<|Y<|zo<|za Tryz.results104 ?_
   refine ⟨h22, _, rfl, st24.done, ?_⟩
   refine zB ?_
   simp_all [checkN]
end Go.Pk

namespace Go.Pk
open Go Go.RowKit Go.Proofs
end Go.Pk

namespace Go.Pk
open Go Go.RowKit Go.Proofs
set_option maxRecDepth 4000 in
theorem c_slices_IndexFunc_Lint_int_st {xs : List Int} {v : Value} {g : FuncId} {caps : List Value} (S : Nat → Heap → World → Prop) (p : Nat → Bool)
  (hS : ∀ k h w, S k h w → Sub h w ∧ Sl LInt h v xs)
  (hf : ∀ k x h w vs, S k h w → xs[k]? = some x → LInt.R h vs x → ∀ u, vs = [u] → Calls Tryz.prog g (u :: caps).toArray w (fun e w' => ∃ h', e = .returned (.bool (p k)) ∧ S (k + 1) h' w'))
  (hg : ∀ a w, (callFunc g a).run Tryz.prog w = .ok (.enter g a) w) {h : Heap} {w : World} (h0 : S 0 h w) :
  Calls Tryz.prog 144 #[v, .func (.func g) #[] caps.toArray] w (fun e w' => ∃ h' k, e = .returned (.int .i64 (if k < xs.length then (k : Int) else -1)) ∧ k ≤ xs.length ∧ (∀ j, j < k → p j = false) ∧ (k < xs.length → p k = true) ∧ S (if k < xs.length then k + 1 else k) h' w') := by
 refine zz (n := 19) (args := [v, .func (.func g) #[] caps.toArray]) Tryz.func144 X X X ?_
 have hb := (hS 0 h w h0).2.le
 refine W.sr<|v_asI X X<|Y<|zf<|W.sr<|v_move (v := v) X X<|v_len (hS 0 h w h0).2 X Tryz.underlying42 X<|v_mvI X X<|Y<|zs ?_
 refine zG [4, 5, 8, 9, 10, 11, 12, 13, 14, 15, 16, 17, 18] (G := Nat × Heap) (fun ⟨k, _⟩ => [(8, .int .i64 (k : Int))]) (fun ⟨k, h'⟩ w' => S k h' w' ∧ k ≤ xs.length ∧ ∀ j, j < k → p j = false) (fun ⟨k, _⟩ => xs.length - k) ⟨0, h⟩ ⟨rfl, trivial⟩ ⟨h0, by omega, by intros; omega⟩ ?_
 rintro ⟨k, h1⟩ _ w1 ⟨hS1, hk, hp⟩
 obtain ⟨hsub, hsl⟩ := hS k h1 w1 hS1
 refine W.sr<|v_lss X X X<|Y<|zf ?_
 refine zh rfl (fun c1 => ?_) (fun c1 => ?_)
 ·replace c1 := of_decide_eq_true c1
  refine zr<|U<|zf<|zs<|W.sr<|v_mvI X X<|v_asI X X<|Y<|W.sr<|v_mvF X X<|v_move (v := v) X X<|v_mvI X X ?_
  have hy : ∃ y, xs[k]? = some y := ⟨_, List.getElem?_eq_getElem (by omega)⟩
  obtain ⟨y, hy⟩ := hy
  obtain ⟨b, o, vs, he, hc, hr⟩ := Sl.elem hsl hy
  refine v_index_el he X X (hk := X) (hu := Tryz.underlying42) (hz := Tryz.sizeOf3) X ?_
  obtain ⟨u, rfl⟩ : ∃ u, vs = [u] := by
   have q := LInt.len hr
   match vs, q with
   | [u], _ => exact ⟨u, rfl⟩
  refine v_load_cells1 (j := 0) hsub hc X X X Tryz.isAgg3 X ?_
  refine zX rfl rfl (zac (fs := []) (cs := caps) rfl rfl hg rfl) ((hf k y h1 w1 _ hS1 hy hr _ rfl).mono ?_)
  rintro e w2 ⟨h2, rfl, hS2⟩
  refine ⟨_, rfl, ?_⟩
  refine Y ?_
  refine zh rfl (fun c2 => ?_) (fun c2 => ?_)
  ·refine zf ?_
   refine zg<|v_mvI X X<|v_asI X X<|Y<|zo ?_
   repeat (first | refine zn ?_ | refine E ?_)
   refine za Tryz.results144 ?_
   have hlt : k < xs.length := by omega
   exact ⟨h2, k, by rw [if_pos hlt]; rfl, hk, hp, fun _ => c2, by rw [if_pos hlt]; exact hS2⟩
  ·refine zr ?_
   refine zw<|U<|zg ?_
   refine zk rfl rfl (r_add rfl rfl (by omega)) ?_
   refine v_mvI X X<|Y ?_
   refine ⟨⟨k + 1, h2⟩, ⟨rfl, trivial⟩, ?_, ⟨hS2, by omega, ?_⟩, ?_⟩
   ·exact zH
   ·intro j hj
    rcases Nat.lt_or_ge j k with h3 | h3
    ·exact hp j h3
    ·obtain rfl : j = k := by omega
     exact c2
   ·show xs.length - (k + 1) < xs.length - k
    omega
 ·replace c1 := of_decide_eq_false c1
  refine zL<|ze<|ze<|zF<|U<|W.sr<|v_asI X X<|Y<|zo<|za Tryz.results144 ?_
  have hlt : ¬ k < xs.length := by omega
  exact ⟨h1, k, by rw [if_neg hlt]; rfl, hk, hp, fun q => absurd q hlt, by rw [if_neg hlt]; exact hS1⟩

set_option maxRecDepth 4000 in
theorem c_slices_ContainsFunc_Lint_int_st {xs : List Int} {v : Value} {g : FuncId} {caps : List Value} (S : Nat → Heap → World → Prop) (p : Nat → Bool)
  (hS : ∀ k h w, S k h w → Sub h w ∧ Sl LInt h v xs)
  (hf : ∀ k x h w vs, S k h w → xs[k]? = some x → LInt.R h vs x → ∀ u, vs = [u] → Calls Tryz.prog g (u :: caps).toArray w (fun e w' => ∃ h', e = .returned (.bool (p k)) ∧ S (k + 1) h' w'))
  (hg : ∀ a w, (callFunc g a).run Tryz.prog w = .ok (.enter g a) w) {h : Heap} {w : World} (h0 : S 0 h w) :
  Calls Tryz.prog 101 #[v, .func (.func g) #[] caps.toArray] w (fun e w' => ∃ h' k, e = .returned (.bool (decide (k < xs.length))) ∧ k ≤ xs.length ∧ (∀ j, j < k → p j = false) ∧ (k < xs.length → p k = true) ∧ S (if k < xs.length then k + 1 else k) h' w') := by
 refine zz (n := 9) (args := [v, .func (.func g) #[] caps.toArray]) Tryz.func101 X X X<|W.sr<|v_asB X X<|Y<|W.sr<|v_move (v := v) X X<|v_mvF X X ?_
 refine zX rfl rfl (zT rfl Tryz.call144 rfl) ((c_slices_IndexFunc_Lint_int_st S p hS hf hg h0).mono ?_)
 rintro e w2 ⟨h2, k, rfl, q1, q2, q3, q4⟩
 refine ⟨_, rfl, ?_⟩
 refine v_geq X X X<|v_asB X X<|Y<|zo<|za Tryz.results101 ?_
 refine ⟨h2, k, congrArg Ending.returned (zj ?_), q1, q2, q3, q4⟩
 by_cases hlt : k < xs.length
 ·simp [hlt]
 ·simp [hlt]
theorem c_slices_ContainsFunc_Lint_int {xs : List Int} {v : Value} {g : FuncId} {caps : List Value} {h : Heap} {w : World} (hs : Sub h w) (hx : Sl LInt h v xs) (q : Int → Bool)
  (hg : ∀ a w, (callFunc g a).run Tryz.prog w = .ok (.enter g a) w)
  (hf : ∀ x h' w' vs, Le h h' → Sub h' w' → x ∈ xs → LInt.R h' vs x → ∀ u, vs = [u] → Calls Tryz.prog g (u :: caps).toArray w' (Rets h' w' fun _ _ r => r = .bool (q x))) :
  Calls Tryz.prog 101 #[v, .func (.func g) #[] caps.toArray] w (Rets h w fun _ _ r => r = .bool (xs.any q)) := by
 refine (c_slices_ContainsFunc_Lint_int_st (fun k h' w' => St h w h' w' [] ∧ k ≤ xs.length) (fun k => ((xs[k]?).map q).getD false) (fun k h' w' hk => ⟨hk.1.sub, hx.up hk.1.le⟩) ?_ hg ⟨St.start hs, Nat.zero_le _⟩).mono ?_
 ·rintro k x h' w' vs ⟨st, _⟩ hk hr u hu
  refine (hf x h' w' vs st.le st.sub (List.mem_of_getElem? hk) hr u hu).mono ?_
  rintro e w'' ⟨h'', r, rfl, s, rfl⟩
  obtain ⟨hlt, _⟩ := List.getElem?_eq_some_iff.1 hk
  exact ⟨h'', by simp [hk], st.call0 s, hlt⟩
 ·rintro e w' ⟨h', k, rfl, q1, q2, q3, q4⟩
  refine ⟨h', _, rfl, q4.1, zj ?_⟩
  by_cases hlt : k < xs.length
  ·have h3 := q3 hlt
   rw [List.getElem?_eq_getElem hlt] at h3
   simp only [Option.map_some, Option.getD_some] at h3
   have : xs.any q = true := List.any_eq_true.2 ⟨_, List.getElem_mem hlt, h3⟩
   simp [hlt, this]
  ·have : xs.any q = false := by
    rw [List.any_eq_false]
    intro x hx'
    obtain ⟨j, hj⟩ := List.mem_iff_getElem?.1 hx'
    obtain ⟨h5, _⟩ := List.getElem?_eq_some_iff.1 hj
    have := q2 j (by omega)
    simpa [hj] using this
   simp [hlt, this]

set_option maxRecDepth 4000 in
theorem c_slices_IndexFunc_Lbyte_byte_st {xs : List Int} {v : Value} {g : FuncId} {caps : List Value} (S : Nat → Heap → World → Prop) (p : Nat → Bool)
  (hS : ∀ k h w, S k h w → Sub h w ∧ Sl LU8 h v xs)
  (hf : ∀ k x h w vs, S k h w → xs[k]? = some x → LU8.R h vs x → ∀ u, vs = [u] → Calls Tryz.prog g (u :: caps).toArray w (fun e w' => ∃ h', e = .returned (.bool (p k)) ∧ S (k + 1) h' w'))
  (hg : ∀ a w, (callFunc g a).run Tryz.prog w = .ok (.enter g a) w) {h : Heap} {w : World} (h0 : S 0 h w) :
  Calls Tryz.prog 187 #[v, .func (.func g) #[] caps.toArray] w (fun e w' => ∃ h' k, e = .returned (.int .i64 (if k < xs.length then (k : Int) else -1)) ∧ k ≤ xs.length ∧ (∀ j, j < k → p j = false) ∧ (k < xs.length → p k = true) ∧ S (if k < xs.length then k + 1 else k) h' w') := by
 refine zz (n := 19) (args := [v, .func (.func g) #[] caps.toArray]) Tryz.func187 X X X ?_
 have hb := (hS 0 h w h0).2.le
 refine W.sr<|v_asI X X<|Y<|zf<|W.sr<|v_move (v := v) X X<|v_len (hS 0 h w h0).2 X Tryz.underlying215 X<|v_mvI X X<|Y<|zs ?_
 refine zG [4, 5, 8, 9, 10, 11, 12, 13, 14, 15, 16, 17, 18] (G := Nat × Heap) (fun ⟨k, _⟩ => [(8, .int .i64 (k : Int))]) (fun ⟨k, h'⟩ w' => S k h' w' ∧ k ≤ xs.length ∧ ∀ j, j < k → p j = false) (fun ⟨k, _⟩ => xs.length - k) ⟨0, h⟩ ⟨rfl, trivial⟩ ⟨h0, by omega, by intros; omega⟩ ?_
 rintro ⟨k, h1⟩ _ w1 ⟨hS1, hk, hp⟩
 obtain ⟨hsub, hsl⟩ := hS k h1 w1 hS1
 refine W.sr<|v_lss X X X<|Y<|zf ?_
 refine zh rfl (fun c1 => ?_) (fun c1 => ?_)
 ·replace c1 := of_decide_eq_true c1
  refine zr<|U<|zf<|zs<|W.sr<|v_mvI X X<|v_asI X X<|Y<|W.sr<|v_mvF X X<|v_move (v := v) X X<|v_mvI X X ?_
  have hy : ∃ y, xs[k]? = some y := ⟨_, List.getElem?_eq_getElem (by omega)⟩
  obtain ⟨y, hy⟩ := hy
  obtain ⟨b, o, vs, he, hc, hr⟩ := Sl.elem hsl hy
  refine v_index_el he X X (hk := X) (hu := Tryz.underlying215) (hz := Tryz.sizeOf5) X ?_
  obtain ⟨u, rfl⟩ : ∃ u, vs = [u] := by
   have q := LU8.len hr
   match vs, q with
   | [u], _ => exact ⟨u, rfl⟩
  refine v_load_cells1 (j := 0) hsub hc X X X Tryz.isAgg5 X ?_
  refine zX rfl rfl (zac (fs := []) (cs := caps) rfl rfl hg rfl) ((hf k y h1 w1 _ hS1 hy hr _ rfl).mono ?_)
  rintro e w2 ⟨h2, rfl, hS2⟩
  refine ⟨_, rfl, ?_⟩
  refine Y ?_
  refine zh rfl (fun c2 => ?_) (fun c2 => ?_)
  ·refine zf ?_
   refine zg<|v_mvI X X<|v_asI X X<|Y<|zo ?_
   repeat (first | refine zn ?_ | refine E ?_)
   refine za Tryz.results187 ?_
   have hlt : k < xs.length := by omega
   exact ⟨h2, k, by rw [if_pos hlt]; rfl, hk, hp, fun _ => c2, by rw [if_pos hlt]; exact hS2⟩
  ·refine zr ?_
   refine zw<|U<|zg ?_
   refine zk rfl rfl (r_add rfl rfl (by omega)) ?_
   refine v_mvI X X<|Y ?_
   refine ⟨⟨k + 1, h2⟩, ⟨rfl, trivial⟩, ?_, ⟨hS2, by omega, ?_⟩, ?_⟩
   ·exact zH
   ·intro j hj
    rcases Nat.lt_or_ge j k with h3 | h3
    ·exact hp j h3
    ·obtain rfl : j = k := by omega
     exact c2
   ·show xs.length - (k + 1) < xs.length - k
    omega
 ·replace c1 := of_decide_eq_false c1
  refine zL<|ze<|ze<|zF<|U<|W.sr<|v_asI X X<|Y<|zo<|za Tryz.results187 ?_
  have hlt : ¬ k < xs.length := by omega
  exact ⟨h1, k, by rw [if_neg hlt]; rfl, hk, hp, fun q => absurd q hlt, by rw [if_neg hlt]; exact hS1⟩

set_option maxRecDepth 4000 in
theorem c_slices_ContainsFunc_Lbyte_byte_st {xs : List Int} {v : Value} {g : FuncId} {caps : List Value} (S : Nat → Heap → World → Prop) (p : Nat → Bool)
  (hS : ∀ k h w, S k h w → Sub h w ∧ Sl LU8 h v xs)
  (hf : ∀ k x h w vs, S k h w → xs[k]? = some x → LU8.R h vs x → ∀ u, vs = [u] → Calls Tryz.prog g (u :: caps).toArray w (fun e w' => ∃ h', e = .returned (.bool (p k)) ∧ S (k + 1) h' w'))
  (hg : ∀ a w, (callFunc g a).run Tryz.prog w = .ok (.enter g a) w) {h : Heap} {w : World} (h0 : S 0 h w) :
  Calls Tryz.prog 139 #[v, .func (.func g) #[] caps.toArray] w (fun e w' => ∃ h' k, e = .returned (.bool (decide (k < xs.length))) ∧ k ≤ xs.length ∧ (∀ j, j < k → p j = false) ∧ (k < xs.length → p k = true) ∧ S (if k < xs.length then k + 1 else k) h' w') := by
 refine zz (n := 9) (args := [v, .func (.func g) #[] caps.toArray]) Tryz.func139 X X X<|W.sr<|v_asB X X<|Y<|W.sr<|v_move (v := v) X X<|v_mvF X X ?_
 refine zX rfl rfl (zT rfl Tryz.call187 rfl) ((c_slices_IndexFunc_Lbyte_byte_st S p hS hf hg h0).mono ?_)
 rintro e w2 ⟨h2, k, rfl, q1, q2, q3, q4⟩
 refine ⟨_, rfl, ?_⟩
 refine v_geq X X X<|v_asB X X<|Y<|zo<|za Tryz.results139 ?_
 refine ⟨h2, k, congrArg Ending.returned (zj ?_), q1, q2, q3, q4⟩
 by_cases hlt : k < xs.length
 ·simp [hlt]
 ·simp [hlt]
theorem c_slices_ContainsFunc_Lbyte_byte {xs : List Int} {v : Value} {g : FuncId} {caps : List Value} {h : Heap} {w : World} (hs : Sub h w) (hx : Sl LU8 h v xs) (q : Int → Bool)
  (hg : ∀ a w, (callFunc g a).run Tryz.prog w = .ok (.enter g a) w)
  (hf : ∀ x h' w' vs, Le h h' → Sub h' w' → x ∈ xs → LU8.R h' vs x → ∀ u, vs = [u] → Calls Tryz.prog g (u :: caps).toArray w' (Rets h' w' fun _ _ r => r = .bool (q x))) :
  Calls Tryz.prog 139 #[v, .func (.func g) #[] caps.toArray] w (Rets h w fun _ _ r => r = .bool (xs.any q)) := by
 refine (c_slices_ContainsFunc_Lbyte_byte_st (fun k h' w' => St h w h' w' [] ∧ k ≤ xs.length) (fun k => ((xs[k]?).map q).getD false) (fun k h' w' hk => ⟨hk.1.sub, hx.up hk.1.le⟩) ?_ hg ⟨St.start hs, Nat.zero_le _⟩).mono ?_
 ·rintro k x h' w' vs ⟨st, _⟩ hk hr u hu
  refine (hf x h' w' vs st.le st.sub (List.mem_of_getElem? hk) hr u hu).mono ?_
  rintro e w'' ⟨h'', r, rfl, s, rfl⟩
  obtain ⟨hlt, _⟩ := List.getElem?_eq_some_iff.1 hk
  exact ⟨h'', by simp [hk], st.call0 s, hlt⟩
 ·rintro e w' ⟨h', k, rfl, q1, q2, q3, q4⟩
  refine ⟨h', _, rfl, q4.1, zj ?_⟩
  by_cases hlt : k < xs.length
  ·have h3 := q3 hlt
   rw [List.getElem?_eq_getElem hlt] at h3
   simp only [Option.map_some, Option.getD_some] at h3
   have : xs.any q = true := List.any_eq_true.2 ⟨_, List.getElem_mem hlt, h3⟩
   simp [hlt, this]
  ·have : xs.any q = false := by
    rw [List.any_eq_false]
    intro x hx'
    obtain ⟨j, hj⟩ := List.mem_iff_getElem?.1 hx'
    obtain ⟨h5, _⟩ := List.getElem?_eq_some_iff.1 hj
    have := q2 j (by omega)
    simpa [hj] using this
   simp [hlt, this]

set_option maxRecDepth 4000 in
theorem c_slices_IndexFunc_Lstring_string_st {xs : List Str} {v : Value} {g : FuncId} {caps : List Value} (S : Nat → Heap → World → Prop) (p : Nat → Bool)
  (hS : ∀ k h w, S k h w → Sub h w ∧ Sl LStr h v xs)
  (hf : ∀ k x h w vs, S k h w → xs[k]? = some x → LStr.R h vs x → ∀ u, vs = [u] → Calls Tryz.prog g (u :: caps).toArray w (fun e w' => ∃ h', e = .returned (.bool (p k)) ∧ S (k + 1) h' w'))
  (hg : ∀ a w, (callFunc g a).run Tryz.prog w = .ok (.enter g a) w) {h : Heap} {w : World} (h0 : S 0 h w) :
  Calls Tryz.prog 123 #[v, .func (.func g) #[] caps.toArray] w (fun e w' => ∃ h' k, e = .returned (.int .i64 (if k < xs.length then (k : Int) else -1)) ∧ k ≤ xs.length ∧ (∀ j, j < k → p j = false) ∧ (k < xs.length → p k = true) ∧ S (if k < xs.length then k + 1 else k) h' w') := by
 refine zz (n := 19) (args := [v, .func (.func g) #[] caps.toArray]) Tryz.func123 X X X ?_
 have hb := (hS 0 h w h0).2.le
 refine W.sr<|v_asI X X<|Y<|zf<|W.sr<|v_move (v := v) X X<|v_len (hS 0 h w h0).2 X Tryz.underlying60 X<|v_mvI X X<|Y<|zs ?_
 refine zG [4, 5, 8, 9, 10, 11, 12, 13, 14, 15, 16, 17, 18] (G := Nat × Heap) (fun ⟨k, _⟩ => [(8, .int .i64 (k : Int))]) (fun ⟨k, h'⟩ w' => S k h' w' ∧ k ≤ xs.length ∧ ∀ j, j < k → p j = false) (fun ⟨k, _⟩ => xs.length - k) ⟨0, h⟩ ⟨rfl, trivial⟩ ⟨h0, by omega, by intros; omega⟩ ?_
 rintro ⟨k, h1⟩ _ w1 ⟨hS1, hk, hp⟩
 obtain ⟨hsub, hsl⟩ := hS k h1 w1 hS1
 refine W.sr<|v_lss X X X<|Y<|zf ?_
 refine zh rfl (fun c1 => ?_) (fun c1 => ?_)
 ·replace c1 := of_decide_eq_true c1
  refine zr<|U<|zf<|zs<|W.sr<|v_mvI X X<|v_asI X X<|Y<|W.sr<|v_mvF X X<|v_move (v := v) X X<|v_mvI X X ?_
  have hy : ∃ y, xs[k]? = some y := ⟨_, List.getElem?_eq_getElem (by omega)⟩
  obtain ⟨y, hy⟩ := hy
  obtain ⟨b, o, vs, he, hc, hr⟩ := Sl.elem hsl hy
  refine v_index_el he X X (hk := X) (hu := Tryz.underlying60) (hz := Tryz.sizeOf9) X ?_
  obtain ⟨u, rfl⟩ : ∃ u, vs = [u] := by
   have q := LStr.len hr
   match vs, q with
   | [u], _ => exact ⟨u, rfl⟩
  refine v_load_cells1 (j := 0) hsub hc X X X Tryz.isAgg9 X ?_
  refine zX rfl rfl (zac (fs := []) (cs := caps) rfl rfl hg rfl) ((hf k y h1 w1 _ hS1 hy hr _ rfl).mono ?_)
  rintro e w2 ⟨h2, rfl, hS2⟩
  refine ⟨_, rfl, ?_⟩
  refine Y ?_
  refine zh rfl (fun c2 => ?_) (fun c2 => ?_)
  ·refine zf ?_
   refine zg<|v_mvI X X<|v_asI X X<|Y<|zo ?_
   repeat (first | refine zn ?_ | refine E ?_)
   refine za Tryz.results123 ?_
   have hlt : k < xs.length := by omega
   exact ⟨h2, k, by rw [if_pos hlt]; rfl, hk, hp, fun _ => c2, by rw [if_pos hlt]; exact hS2⟩
  ·refine zr ?_
   refine zw<|U<|zg ?_
   refine zk rfl rfl (r_add rfl rfl (by omega)) ?_
   refine v_mvI X X<|Y ?_
   refine ⟨⟨k + 1, h2⟩, ⟨rfl, trivial⟩, ?_, ⟨hS2, by omega, ?_⟩, ?_⟩
   ·exact zH
   ·intro j hj
    rcases Nat.lt_or_ge j k with h3 | h3
    ·exact hp j h3
    ·obtain rfl : j = k := by omega
     exact c2
   ·show xs.length - (k + 1) < xs.length - k
    omega
 ·replace c1 := of_decide_eq_false c1
  refine zL<|ze<|ze<|zF<|U<|W.sr<|v_asI X X<|Y<|zo<|za Tryz.results123 ?_
  have hlt : ¬ k < xs.length := by omega
  exact ⟨h1, k, by rw [if_neg hlt]; rfl, hk, hp, fun q => absurd q hlt, by rw [if_neg hlt]; exact hS1⟩

set_option maxRecDepth 4000 in
theorem c_slices_ContainsFunc_Lstring_string_st {xs : List Str} {v : Value} {g : FuncId} {caps : List Value} (S : Nat → Heap → World → Prop) (p : Nat → Bool)
  (hS : ∀ k h w, S k h w → Sub h w ∧ Sl LStr h v xs)
  (hf : ∀ k x h w vs, S k h w → xs[k]? = some x → LStr.R h vs x → ∀ u, vs = [u] → Calls Tryz.prog g (u :: caps).toArray w (fun e w' => ∃ h', e = .returned (.bool (p k)) ∧ S (k + 1) h' w'))
  (hg : ∀ a w, (callFunc g a).run Tryz.prog w = .ok (.enter g a) w) {h : Heap} {w : World} (h0 : S 0 h w) :
  Calls Tryz.prog 176 #[v, .func (.func g) #[] caps.toArray] w (fun e w' => ∃ h' k, e = .returned (.bool (decide (k < xs.length))) ∧ k ≤ xs.length ∧ (∀ j, j < k → p j = false) ∧ (k < xs.length → p k = true) ∧ S (if k < xs.length then k + 1 else k) h' w') := by
 refine zz (n := 9) (args := [v, .func (.func g) #[] caps.toArray]) Tryz.func176 X X X<|W.sr<|v_asB X X<|Y<|W.sr<|v_move (v := v) X X<|v_mvF X X ?_
 refine zX rfl rfl (zT rfl Tryz.call123 rfl) ((c_slices_IndexFunc_Lstring_string_st S p hS hf hg h0).mono ?_)
 rintro e w2 ⟨h2, k, rfl, q1, q2, q3, q4⟩
 refine ⟨_, rfl, ?_⟩
 refine v_geq X X X<|v_asB X X<|Y<|zo<|za Tryz.results176 ?_
 refine ⟨h2, k, congrArg Ending.returned (zj ?_), q1, q2, q3, q4⟩
 by_cases hlt : k < xs.length
 ·simp [hlt]
 ·simp [hlt]
theorem c_slices_ContainsFunc_Lstring_string {xs : List Str} {v : Value} {g : FuncId} {caps : List Value} {h : Heap} {w : World} (hs : Sub h w) (hx : Sl LStr h v xs) (q : Str → Bool)
  (hg : ∀ a w, (callFunc g a).run Tryz.prog w = .ok (.enter g a) w)
  (hf : ∀ x h' w' vs, Le h h' → Sub h' w' → x ∈ xs → LStr.R h' vs x → ∀ u, vs = [u] → Calls Tryz.prog g (u :: caps).toArray w' (Rets h' w' fun _ _ r => r = .bool (q x))) :
  Calls Tryz.prog 176 #[v, .func (.func g) #[] caps.toArray] w (Rets h w fun _ _ r => r = .bool (xs.any q)) := by
 refine (c_slices_ContainsFunc_Lstring_string_st (fun k h' w' => St h w h' w' [] ∧ k ≤ xs.length) (fun k => ((xs[k]?).map q).getD false) (fun k h' w' hk => ⟨hk.1.sub, hx.up hk.1.le⟩) ?_ hg ⟨St.start hs, Nat.zero_le _⟩).mono ?_
 ·rintro k x h' w' vs ⟨st, _⟩ hk hr u hu
  refine (hf x h' w' vs st.le st.sub (List.mem_of_getElem? hk) hr u hu).mono ?_
  rintro e w'' ⟨h'', r, rfl, s, rfl⟩
  obtain ⟨hlt, _⟩ := List.getElem?_eq_some_iff.1 hk
  exact ⟨h'', by simp [hk], st.call0 s, hlt⟩
 ·rintro e w' ⟨h', k, rfl, q1, q2, q3, q4⟩
  refine ⟨h', _, rfl, q4.1, zj ?_⟩
  by_cases hlt : k < xs.length
  ·have h3 := q3 hlt
   rw [List.getElem?_eq_getElem hlt] at h3
   simp only [Option.map_some, Option.getD_some] at h3
   have : xs.any q = true := List.any_eq_true.2 ⟨_, List.getElem_mem hlt, h3⟩
   simp [hlt, this]
  ·have : xs.any q = false := by
    rw [List.any_eq_false]
    intro x hx'
    obtain ⟨j, hj⟩ := List.mem_iff_getElem?.1 hx'
    obtain ⟨h5, _⟩ := List.getElem?_eq_some_iff.1 hj
    have := q2 j (by omega)
    simpa [hj] using this
   simp [hlt, this]

set_option maxRecDepth 4000 in
theorem c_slices_IndexFunc_Lapi_Rule_api_Rule_st {xs : List Rule} {v : Value} {g : FuncId} {caps : List Value} (S : Nat → Heap → World → Prop) (p : Nat → Bool)
  (hS : ∀ k h w, S k h w → Sub h w ∧ Sl LRule h v xs)
  (hf : ∀ k x h w vs, S k h w → xs[k]? = some x → LRule.R h vs x → ∀ u, u = .agg vs.toArray → Calls Tryz.prog g (u :: caps).toArray w (fun e w' => ∃ h', e = .returned (.bool (p k)) ∧ S (k + 1) h' w'))
  (hg : ∀ a w, (callFunc g a).run Tryz.prog w = .ok (.enter g a) w) {h : Heap} {w : World} (h0 : S 0 h w) :
  Calls Tryz.prog 223 #[v, .func (.func g) #[] caps.toArray] w (fun e w' => ∃ h' k, e = .returned (.int .i64 (if k < xs.length then (k : Int) else -1)) ∧ k ≤ xs.length ∧ (∀ j, j < k → p j = false) ∧ (k < xs.length → p k = true) ∧ S (if k < xs.length then k + 1 else k) h' w') := by
 refine zz (n := 19) (args := [v, .func (.func g) #[] caps.toArray]) Tryz.func223 X X X ?_
 have hb := (hS 0 h w h0).2.le
 refine W.sr<|v_asI X X<|Y<|zf<|W.sr<|v_move (v := v) X X<|v_len (hS 0 h w h0).2 X Tryz.underlying25 X<|v_mvI X X<|Y<|zs ?_
 refine zG [4, 5, 8, 9, 10, 11, 12, 13, 14, 15, 16, 17, 18] (G := Nat × Heap) (fun ⟨k, _⟩ => [(8, .int .i64 (k : Int))]) (fun ⟨k, h'⟩ w' => S k h' w' ∧ k ≤ xs.length ∧ ∀ j, j < k → p j = false) (fun ⟨k, _⟩ => xs.length - k) ⟨0, h⟩ ⟨rfl, trivial⟩ ⟨h0, by omega, by intros; omega⟩ ?_
 rintro ⟨k, h1⟩ _ w1 ⟨hS1, hk, hp⟩
 obtain ⟨hsub, hsl⟩ := hS k h1 w1 hS1
 refine W.sr<|v_lss X X X<|Y<|zf ?_
 refine zh rfl (fun c1 => ?_) (fun c1 => ?_)
 ·replace c1 := of_decide_eq_true c1
  refine zr<|U<|zf<|zs<|W.sr<|v_mvI X X<|v_asI X X<|Y<|W.sr<|v_mvF X X<|v_move (v := v) X X<|v_mvI X X ?_
  have hy : ∃ y, xs[k]? = some y := ⟨_, List.getElem?_eq_getElem (by omega)⟩
  obtain ⟨y, hy⟩ := hy
  obtain ⟨b, o, vs, he, hc, hr⟩ := Sl.elem hsl hy
  refine v_index_el he X X (hk := X) (hu := Tryz.underlying25) (hz := Tryz.sizeOf68) X<|v_load_call hsub hc X Tryz.isAgg68 Tryz.sizeOf68 (LRule.len hr) X ?_
  refine zX rfl rfl (zac (fs := []) (cs := caps) rfl rfl hg rfl) ((hf k y h1 w1 _ hS1 hy hr _ rfl).mono ?_)
  rintro e w2 ⟨h2, rfl, hS2⟩
  refine ⟨_, rfl, ?_⟩
  refine Y ?_
  refine zh rfl (fun c2 => ?_) (fun c2 => ?_)
  ·refine zf ?_
   refine zg<|v_mvI X X<|v_asI X X<|Y<|zo ?_
   repeat (first | refine zn ?_ | refine E ?_)
   refine za Tryz.results223 ?_
   have hlt : k < xs.length := by omega
   exact ⟨h2, k, by rw [if_pos hlt]; rfl, hk, hp, fun _ => c2, by rw [if_pos hlt]; exact hS2⟩
  ·refine zr ?_
   refine zw<|U<|zg ?_
   refine zk rfl rfl (r_add rfl rfl (by omega)) ?_
   refine v_mvI X X<|Y ?_
   refine ⟨⟨k + 1, h2⟩, ⟨rfl, trivial⟩, ?_, ⟨hS2, by omega, ?_⟩, ?_⟩
   ·exact zH
   ·intro j hj
    rcases Nat.lt_or_ge j k with h3 | h3
    ·exact hp j h3
    ·obtain rfl : j = k := by omega
     exact c2
   ·show xs.length - (k + 1) < xs.length - k
    omega
 ·replace c1 := of_decide_eq_false c1
  refine zL<|ze<|ze<|zF<|U<|W.sr<|v_asI X X<|Y<|zo<|za Tryz.results223 ?_
  have hlt : ¬ k < xs.length := by omega
  exact ⟨h1, k, by rw [if_neg hlt]; rfl, hk, hp, fun q => absurd q hlt, by rw [if_neg hlt]; exact hS1⟩

set_option maxRecDepth 4000 in
theorem c_slices_ContainsFunc_Lapi_Rule_api_Rule_st {xs : List Rule} {v : Value} {g : FuncId} {caps : List Value} (S : Nat → Heap → World → Prop) (p : Nat → Bool)
  (hS : ∀ k h w, S k h w → Sub h w ∧ Sl LRule h v xs)
  (hf : ∀ k x h w vs, S k h w → xs[k]? = some x → LRule.R h vs x → ∀ u, u = .agg vs.toArray → Calls Tryz.prog g (u :: caps).toArray w (fun e w' => ∃ h', e = .returned (.bool (p k)) ∧ S (k + 1) h' w'))
  (hg : ∀ a w, (callFunc g a).run Tryz.prog w = .ok (.enter g a) w) {h : Heap} {w : World} (h0 : S 0 h w) :
  Calls Tryz.prog 179 #[v, .func (.func g) #[] caps.toArray] w (fun e w' => ∃ h' k, e = .returned (.bool (decide (k < xs.length))) ∧ k ≤ xs.length ∧ (∀ j, j < k → p j = false) ∧ (k < xs.length → p k = true) ∧ S (if k < xs.length then k + 1 else k) h' w') := by
 refine zz (n := 9) (args := [v, .func (.func g) #[] caps.toArray]) Tryz.func179 X X X<|W.sr<|v_asB X X<|Y<|W.sr<|v_move (v := v) X X<|v_mvF X X ?_
 refine zX rfl rfl (zT rfl Tryz.call223 rfl) ((c_slices_IndexFunc_Lapi_Rule_api_Rule_st S p hS hf hg h0).mono ?_)
 rintro e w2 ⟨h2, k, rfl, q1, q2, q3, q4⟩
 refine ⟨_, rfl, ?_⟩
 refine v_geq X X X<|v_asB X X<|Y<|zo<|za Tryz.results179 ?_
 refine ⟨h2, k, congrArg Ending.returned (zj ?_), q1, q2, q3, q4⟩
 by_cases hlt : k < xs.length
 ·simp [hlt]
 ·simp [hlt]
set_option maxRecDepth 4000 in
theorem c_slices_IndexFunc_Lapi_Decision_api_Decision_st {xs : List Decision} {v : Value} {g : FuncId} {caps : List Value} (S : Nat → Heap → World → Prop) (p : Nat → Bool)
  (hS : ∀ k h w, S k h w → Sub h w ∧ Sl LDecision h v xs)
  (hf : ∀ k x h w vs, S k h w → xs[k]? = some x → LDecision.R h vs x → ∀ u, u = .agg vs.toArray → Calls Tryz.prog g (u :: caps).toArray w (fun e w' => ∃ h', e = .returned (.bool (p k)) ∧ S (k + 1) h' w'))
  (hg : ∀ a w, (callFunc g a).run Tryz.prog w = .ok (.enter g a) w) {h : Heap} {w : World} (h0 : S 0 h w) :
  Calls Tryz.prog 225 #[v, .func (.func g) #[] caps.toArray] w (fun e w' => ∃ h' k, e = .returned (.int .i64 (if k < xs.length then (k : Int) else -1)) ∧ k ≤ xs.length ∧ (∀ j, j < k → p j = false) ∧ (k < xs.length → p k = true) ∧ S (if k < xs.length then k + 1 else k) h' w') := by
 refine zz (n := 19) (args := [v, .func (.func g) #[] caps.toArray]) Tryz.func225 X X X ?_
 have hb := (hS 0 h w h0).2.le
 refine W.sr<|v_asI X X<|Y<|zf<|W.sr<|v_move (v := v) X X<|v_len (hS 0 h w h0).2 X Tryz.underlying26 X<|v_mvI X X<|Y<|zs ?_
 refine zG [4, 5, 8, 9, 10, 11, 12, 13, 14, 15, 16, 17, 18] (G := Nat × Heap) (fun ⟨k, _⟩ => [(8, .int .i64 (k : Int))]) (fun ⟨k, h'⟩ w' => S k h' w' ∧ k ≤ xs.length ∧ ∀ j, j < k → p j = false) (fun ⟨k, _⟩ => xs.length - k) ⟨0, h⟩ ⟨rfl, trivial⟩ ⟨h0, by omega, by intros; omega⟩ ?_
 rintro ⟨k, h1⟩ _ w1 ⟨hS1, hk, hp⟩
 obtain ⟨hsub, hsl⟩ := hS k h1 w1 hS1
 refine W.sr<|v_lss X X X<|Y<|zf ?_
 refine zh rfl (fun c1 => ?_) (fun c1 => ?_)
 ·replace c1 := of_decide_eq_true c1
  refine zr<|U<|zf<|zs<|W.sr<|v_mvI X X<|v_asI X X<|Y<|W.sr<|v_mvF X X<|v_move (v := v) X X<|v_mvI X X ?_
  have hy : ∃ y, xs[k]? = some y := ⟨_, List.getElem?_eq_getElem (by omega)⟩
  obtain ⟨y, hy⟩ := hy
  obtain ⟨b, o, vs, he, hc, hr⟩ := Sl.elem hsl hy
  refine v_index_el he X X (hk := X) (hu := Tryz.underlying26) (hz := Tryz.sizeOf74) X<|v_load_call hsub hc X Tryz.isAgg74 Tryz.sizeOf74 (LDecision.len hr) X ?_
  refine zX rfl rfl (zac (fs := []) (cs := caps) rfl rfl hg rfl) ((hf k y h1 w1 _ hS1 hy hr _ rfl).mono ?_)
  rintro e w2 ⟨h2, rfl, hS2⟩
  refine ⟨_, rfl, ?_⟩
  refine Y ?_
  refine zh rfl (fun c2 => ?_) (fun c2 => ?_)
  ·refine zf ?_
   refine zg<|v_mvI X X<|v_asI X X<|Y<|zo ?_
   repeat (first | refine zn ?_ | refine E ?_)
   refine za Tryz.results225 ?_
   have hlt : k < xs.length := by omega
   exact ⟨h2, k, by rw [if_pos hlt]; rfl, hk, hp, fun _ => c2, by rw [if_pos hlt]; exact hS2⟩
  ·refine zr ?_
   refine zw<|U<|zg ?_
   refine zk rfl rfl (r_add rfl rfl (by omega)) ?_
   refine v_mvI X X<|Y ?_
   refine ⟨⟨k + 1, h2⟩, ⟨rfl, trivial⟩, ?_, ⟨hS2, by omega, ?_⟩, ?_⟩
   ·exact zH
   ·intro j hj
    rcases Nat.lt_or_ge j k with h3 | h3
    ·exact hp j h3
    ·obtain rfl : j = k := by omega
     exact c2
   ·show xs.length - (k + 1) < xs.length - k
    omega
 ·replace c1 := of_decide_eq_false c1
  refine zL<|ze<|ze<|zF<|U<|W.sr<|v_asI X X<|Y<|zo<|za Tryz.results225 ?_
  have hlt : ¬ k < xs.length := by omega
  exact ⟨h1, k, by rw [if_neg hlt]; rfl, hk, hp, fun q => absurd q hlt, by rw [if_neg hlt]; exact hS1⟩

set_option maxRecDepth 4000 in
theorem c_slices_ContainsFunc_Lapi_Decision_api_Decision_st {xs : List Decision} {v : Value} {g : FuncId} {caps : List Value} (S : Nat → Heap → World → Prop) (p : Nat → Bool)
  (hS : ∀ k h w, S k h w → Sub h w ∧ Sl LDecision h v xs)
  (hf : ∀ k x h w vs, S k h w → xs[k]? = some x → LDecision.R h vs x → ∀ u, u = .agg vs.toArray → Calls Tryz.prog g (u :: caps).toArray w (fun e w' => ∃ h', e = .returned (.bool (p k)) ∧ S (k + 1) h' w'))
  (hg : ∀ a w, (callFunc g a).run Tryz.prog w = .ok (.enter g a) w) {h : Heap} {w : World} (h0 : S 0 h w) :
  Calls Tryz.prog 184 #[v, .func (.func g) #[] caps.toArray] w (fun e w' => ∃ h' k, e = .returned (.bool (decide (k < xs.length))) ∧ k ≤ xs.length ∧ (∀ j, j < k → p j = false) ∧ (k < xs.length → p k = true) ∧ S (if k < xs.length then k + 1 else k) h' w') := by
 refine zz (n := 9) (args := [v, .func (.func g) #[] caps.toArray]) Tryz.func184 X X X<|W.sr<|v_asB X X<|Y<|W.sr<|v_move (v := v) X X<|v_mvF X X ?_
 refine zX rfl rfl (zT rfl Tryz.call225 rfl) ((c_slices_IndexFunc_Lapi_Decision_api_Decision_st S p hS hf hg h0).mono ?_)
 rintro e w2 ⟨h2, k, rfl, q1, q2, q3, q4⟩
 refine ⟨_, rfl, ?_⟩
 refine v_geq X X X<|v_asB X X<|Y<|zo<|za Tryz.results184 ?_
 refine ⟨h2, k, congrArg Ending.returned (zj ?_), q1, q2, q3, q4⟩
 by_cases hlt : k < xs.length
 ·simp [hlt]
 ·simp [hlt]
set_option maxRecDepth 4000 in
theorem c_slices_IndexFunc_Lapi_Voter_api_Voter_st {xs : List Voter} {v : Value} {g : FuncId} {caps : List Value} (S : Nat → Heap → World → Prop) (p : Nat → Bool)
  (hS : ∀ k h w, S k h w → Sub h w ∧ Sl LVoter h v xs)
  (hf : ∀ k x h w vs, S k h w → xs[k]? = some x → LVoter.R h vs x → ∀ u, u = .agg vs.toArray → Calls Tryz.prog g (u :: caps).toArray w (fun e w' => ∃ h', e = .returned (.bool (p k)) ∧ S (k + 1) h' w'))
  (hg : ∀ a w, (callFunc g a).run Tryz.prog w = .ok (.enter g a) w) {h : Heap} {w : World} (h0 : S 0 h w) :
  Calls Tryz.prog 268 #[v, .func (.func g) #[] caps.toArray] w (fun e w' => ∃ h' k, e = .returned (.int .i64 (if k < xs.length then (k : Int) else -1)) ∧ k ≤ xs.length ∧ (∀ j, j < k → p j = false) ∧ (k < xs.length → p k = true) ∧ S (if k < xs.length then k + 1 else k) h' w') := by
 refine zz (n := 19) (args := [v, .func (.func g) #[] caps.toArray]) Tryz.func268 X X X ?_
 have hb := (hS 0 h w h0).2.le
 refine W.sr<|v_asI X X<|Y<|zf<|W.sr<|v_move (v := v) X X<|v_len (hS 0 h w h0).2 X Tryz.underlying30 X<|v_mvI X X<|Y<|zs ?_
 refine zG [4, 5, 8, 9, 10, 11, 12, 13, 14, 15, 16, 17, 18] (G := Nat × Heap) (fun ⟨k, _⟩ => [(8, .int .i64 (k : Int))]) (fun ⟨k, h'⟩ w' => S k h' w' ∧ k ≤ xs.length ∧ ∀ j, j < k → p j = false) (fun ⟨k, _⟩ => xs.length - k) ⟨0, h⟩ ⟨rfl, trivial⟩ ⟨h0, by omega, by intros; omega⟩ ?_
 rintro ⟨k, h1⟩ _ w1 ⟨hS1, hk, hp⟩
 obtain ⟨hsub, hsl⟩ := hS k h1 w1 hS1
 refine W.sr<|v_lss X X X<|Y<|zf ?_
 refine zh rfl (fun c1 => ?_) (fun c1 => ?_)
 ·replace c1 := of_decide_eq_true c1
  refine zr<|U<|zf<|zs<|W.sr<|v_mvI X X<|v_asI X X<|Y<|W.sr<|v_mvF X X<|v_move (v := v) X X<|v_mvI X X ?_
  have hy : ∃ y, xs[k]? = some y := ⟨_, List.getElem?_eq_getElem (by omega)⟩
  obtain ⟨y, hy⟩ := hy
  obtain ⟨b, o, vs, he, hc, hr⟩ := Sl.elem hsl hy
  refine v_index_el he X X (hk := X) (hu := Tryz.underlying30) (hz := Tryz.sizeOf79) X<|v_load_call hsub hc X Tryz.isAgg79 Tryz.sizeOf79 (LVoter.len hr) X ?_
  refine zX rfl rfl (zac (fs := []) (cs := caps) rfl rfl hg rfl) ((hf k y h1 w1 _ hS1 hy hr _ rfl).mono ?_)
  rintro e w2 ⟨h2, rfl, hS2⟩
  refine ⟨_, rfl, ?_⟩
  refine Y ?_
  refine zh rfl (fun c2 => ?_) (fun c2 => ?_)
  ·refine zf ?_
   refine zg<|v_mvI X X<|v_asI X X<|Y<|zo ?_
   repeat (first | refine zn ?_ | refine E ?_)
   refine za Tryz.results268 ?_
   have hlt : k < xs.length := by omega
   exact ⟨h2, k, by rw [if_pos hlt]; rfl, hk, hp, fun _ => c2, by rw [if_pos hlt]; exact hS2⟩
  ·refine zr ?_
   refine zw<|U<|zg ?_
   refine zk rfl rfl (r_add rfl rfl (by omega)) ?_
   refine v_mvI X X<|Y ?_
   refine ⟨⟨k + 1, h2⟩, ⟨rfl, trivial⟩, ?_, ⟨hS2, by omega, ?_⟩, ?_⟩
   ·exact zH
   ·intro j hj
    rcases Nat.lt_or_ge j k with h3 | h3
    ·exact hp j h3
    ·obtain rfl : j = k := by omega
     exact c2
   ·show xs.length - (k + 1) < xs.length - k
    omega
 ·replace c1 := of_decide_eq_false c1
  refine zL<|ze<|ze<|zF<|U<|W.sr<|v_asI X X<|Y<|zo<|za Tryz.results268 ?_
  have hlt : ¬ k < xs.length := by omega
  exact ⟨h1, k, by rw [if_neg hlt]; rfl, hk, hp, fun q => absurd q hlt, by rw [if_neg hlt]; exact hS1⟩

set_option maxRecDepth 4000 in
theorem c_slices_ContainsFunc_Lapi_Voter_api_Voter_st {xs : List Voter} {v : Value} {g : FuncId} {caps : List Value} (S : Nat → Heap → World → Prop) (p : Nat → Bool)
  (hS : ∀ k h w, S k h w → Sub h w ∧ Sl LVoter h v xs)
  (hf : ∀ k x h w vs, S k h w → xs[k]? = some x → LVoter.R h vs x → ∀ u, u = .agg vs.toArray → Calls Tryz.prog g (u :: caps).toArray w (fun e w' => ∃ h', e = .returned (.bool (p k)) ∧ S (k + 1) h' w'))
  (hg : ∀ a w, (callFunc g a).run Tryz.prog w = .ok (.enter g a) w) {h : Heap} {w : World} (h0 : S 0 h w) :
  Calls Tryz.prog 266 #[v, .func (.func g) #[] caps.toArray] w (fun e w' => ∃ h' k, e = .returned (.bool (decide (k < xs.length))) ∧ k ≤ xs.length ∧ (∀ j, j < k → p j = false) ∧ (k < xs.length → p k = true) ∧ S (if k < xs.length then k + 1 else k) h' w') := by
 refine zz (n := 9) (args := [v, .func (.func g) #[] caps.toArray]) Tryz.func266 X X X<|W.sr<|v_asB X X<|Y<|W.sr<|v_move (v := v) X X<|v_mvF X X ?_
 refine zX rfl rfl (zT rfl Tryz.call268 rfl) ((c_slices_IndexFunc_Lapi_Voter_api_Voter_st S p hS hf hg h0).mono ?_)
 rintro e w2 ⟨h2, k, rfl, q1, q2, q3, q4⟩
 refine ⟨_, rfl, ?_⟩
 refine v_geq X X X<|v_asB X X<|Y<|zo<|za Tryz.results266 ?_
 refine ⟨h2, k, congrArg Ending.returned (zj ?_), q1, q2, q3, q4⟩
 by_cases hlt : k < xs.length
 ·simp [hlt]
 ·simp [hlt]
theorem c_slices_ContainsFunc_Lapi_Voter_api_Voter {xs : List Voter} {v : Value} {g : FuncId} {caps : List Value} {h : Heap} {w : World} (hs : Sub h w) (hx : Sl LVoter h v xs) (q : Voter → Bool)
  (hg : ∀ a w, (callFunc g a).run Tryz.prog w = .ok (.enter g a) w)
  (hf : ∀ x h' w' vs, Le h h' → Sub h' w' → x ∈ xs → LVoter.R h' vs x → ∀ u, u = .agg vs.toArray → Calls Tryz.prog g (u :: caps).toArray w' (Rets h' w' fun _ _ r => r = .bool (q x))) :
  Calls Tryz.prog 266 #[v, .func (.func g) #[] caps.toArray] w (Rets h w fun _ _ r => r = .bool (xs.any q)) := by
 refine (c_slices_ContainsFunc_Lapi_Voter_api_Voter_st (fun k h' w' => St h w h' w' [] ∧ k ≤ xs.length) (fun k => ((xs[k]?).map q).getD false) (fun k h' w' hk => ⟨hk.1.sub, hx.up hk.1.le⟩) ?_ hg ⟨St.start hs, Nat.zero_le _⟩).mono ?_
 ·rintro k x h' w' vs ⟨st, _⟩ hk hr u hu
  refine (hf x h' w' vs st.le st.sub (List.mem_of_getElem? hk) hr u hu).mono ?_
  rintro e w'' ⟨h'', r, rfl, s, rfl⟩
  obtain ⟨hlt, _⟩ := List.getElem?_eq_some_iff.1 hk
  exact ⟨h'', by simp [hk], st.call0 s, hlt⟩
 ·rintro e w' ⟨h', k, rfl, q1, q2, q3, q4⟩
  refine ⟨h', _, rfl, q4.1, zj ?_⟩
  by_cases hlt : k < xs.length
  ·have h3 := q3 hlt
   rw [List.getElem?_eq_getElem hlt] at h3
   simp only [Option.map_some, Option.getD_some] at h3
   have : xs.any q = true := List.any_eq_true.2 ⟨_, List.getElem_mem hlt, h3⟩
   simp [hlt, this]
  ·have : xs.any q = false := by
    rw [List.any_eq_false]
    intro x hx'
    obtain ⟨j, hj⟩ := List.mem_iff_getElem?.1 hx'
    obtain ⟨h5, _⟩ := List.getElem?_eq_some_iff.1 hj
    have := q2 j (by omega)
    simpa [hj] using this
   simp [hlt, this]
end Go.Pk

namespace Go.Pk
open Go Go.RowKit Go.Proofs
set_option maxRecDepth 4000 in
theorem c_leaf_in_1 {h : Heap} {w : World} (hs : Sub h w) (n : Int) {lo_b : Nat} {lo : Int} (lo_c : Cells h lo_b 0 [.int .i64 lo]) {hi_b : Nat} {hi : Int} (hi_c : Cells h hi_b 0 [.int .i64 hi]) : Calls Tryz.prog 216 #[.int .i64 n, .pointer (some ⟨lo_b, 0, none⟩), .pointer (some ⟨hi_b, 0, none⟩)] w (Rets h w (fun _ _ res_ => res_ = .bool ((decide (n < lo) || decide (hi < n))))) := by
 refine zz (n := 13) (args := [.int .i64 n, .pointer (some ⟨lo_b, 0, none⟩), .pointer (some ⟨hi_b, 0, none⟩)]) Tryz.func216 X X X ?_
 have st0 : St h w h w [] := St.start hs
 refine W.sr<|v_asB X X<|Y<|W.sr<|v_mvI X X<|v_load_cells1 (j := 0) st0.sub lo_c X X X Tryz.isAgg3 X<|v_lss X X X<|v_mvB X X ?_
 refine zx (d := 8) rfl (fun g1 => ?_) (fun g1 => ?_)
 ·
  replace g1 := of_decide_eq_true g1
  refine Z X X X X X<|Z X X X X X<|Z X X X X X<|v_pickT (v := (.bool _)) X X X<|v_asB X X<|Y<|zo<|za Tryz.results216 ?_
  refine ⟨h, _, rfl, st0.done, ?_⟩
  refine zj ?_
  first | (simp_all; done) | (simp_all; omega)
 ·
  replace g1 := of_decide_eq_false g1
  refine M X X (d := 8) X<|v_mvI X X<|M X X (d := 8) X<|v_load_cells1 (j := 0) st0.sub hi_c X X X Tryz.isAgg3 X<|M X X (d := 8) X<|v_gtr X X X<|v_pickF (v := (.bool _)) X X X<|v_asB X X<|Y<|zo<|za Tryz.results216 ?_
  refine ⟨h, _, rfl, st0.done, ?_⟩
  refine zj ?_
  first | (simp_all; done) | (simp_all; omega)
set_option maxRecDepth 4000 in
theorem c_leaf_in {h : Heap} {w : World} (hs : Sub h w) (lo : Int) (hi : Int) {all__v : Value} {all_ : (List Int)} (all__f : Sl LInt h all__v all_) : Calls Tryz.prog 164 #[.int .i64 lo, .int .i64 hi, all__v] w (Rets h w (fun _ _ res_ => res_ = .bool (inAll all_ lo hi))) := by
 refine zz (n := 11) (args := [.int .i64 lo, .int .i64 hi, all__v]) Tryz.func164 X X X ?_
 have st0 : St h w h w [] := St.start hs
 have all__f_b := all__f.le
 refine W.sr<|zy st0 (cs := [.int .i64 lo]) X X X ?_
 intro b1 w2 h3 le4 hc5 st6
 refine zy st6 (cs := [.int .i64 hi]) X X X ?_
 intro b7 w8 h9 le10 hc11 st12
 refine v_asB X X<|Y<|W.sr<|v_move (v := all__v) X X<|v_make_func X X X ?_
 refine zi st12 rfl rfl rfl Tryz.call101 rfl (c_slices_ContainsFunc_Lint_int st12.sub (all__f.up (le4.trans le10)) (fun x_ => (decide ((x_) < (lo)) || decide ((hi) < (x_)))) Tryz.call216 (fun x_ h_ w_ vs_ le_ hs_ hx_ hr_ u_ hu_ => by cases hu_; cases hr_; exact c_leaf_in_1 hs_ _ (lo := lo) ((hc5.up le10).up le_) (hi := hi) (hc11.up le_))) ?_
 intro r13 w14 h15 le16 st17 q18
 obtain rfl := q18
 refine v_not X X<|v_asB X X<|Y<|zo<|za Tryz.results164 ?_
 refine ⟨h15, _, rfl, st17.done, ?_⟩
 refine zj ?_
 exact inAll_eq all_ lo hi
set_option maxRecDepth 4000 in
theorem c_stem_in_1 {h : Heap} {w : World} (hs : Sub h w) (n : Int) {lo_b : Nat} {lo : Int} (lo_c : Cells h lo_b 0 [.int .i64 lo]) {hi_b : Nat} {hi : Int} (hi_c : Cells h hi_b 0 [.int .i64 hi]) : Calls Tryz.prog 183 #[.int .i64 n, .pointer (some ⟨lo_b, 0, none⟩), .pointer (some ⟨hi_b, 0, none⟩)] w (Rets h w (fun _ _ res_ => res_ = .bool ((decide (n < lo) || decide (hi < n))))) := by
 refine zz (n := 13) (args := [.int .i64 n, .pointer (some ⟨lo_b, 0, none⟩), .pointer (some ⟨hi_b, 0, none⟩)]) Tryz.func183 X X X ?_
 have st0 : St h w h w [] := St.start hs
 refine W.sr<|v_asB X X<|Y<|W.sr<|v_mvI X X<|v_load_cells1 (j := 0) st0.sub lo_c X X X Tryz.isAgg3 X<|v_lss X X X<|v_mvB X X ?_
 refine zx (d := 8) rfl (fun g1 => ?_) (fun g1 => ?_)
 ·
  replace g1 := of_decide_eq_true g1
  refine Z X X X X X<|Z X X X X X<|Z X X X X X<|v_pickT (v := (.bool _)) X X X<|v_asB X X<|Y<|zo<|za Tryz.results183 ?_
  refine ⟨h, _, rfl, st0.done, ?_⟩
  refine zj ?_
  first | (simp_all; done) | (simp_all; omega)
 ·
  replace g1 := of_decide_eq_false g1
  refine M X X (d := 8) X<|v_mvI X X<|M X X (d := 8) X<|v_load_cells1 (j := 0) st0.sub hi_c X X X Tryz.isAgg3 X<|M X X (d := 8) X<|v_gtr X X X<|v_pickF (v := (.bool _)) X X X<|v_asB X X<|Y<|zo<|za Tryz.results183 ?_
  refine ⟨h, _, rfl, st0.done, ?_⟩
  refine zj ?_
  first | (simp_all; done) | (simp_all; omega)
set_option maxRecDepth 4000 in
theorem c_stem_in {h : Heap} {w : World} (hs : Sub h w) (lo : Int) (hi : Int) {all__v : Value} {all_ : (List Int)} (all__f : Sl LInt h all__v all_) : Calls Tryz.prog 135 #[.int .i64 lo, .int .i64 hi, all__v] w (Rets h w (fun _ _ res_ => res_ = .bool (inAll all_ lo hi))) := by
 refine zz (n := 11) (args := [.int .i64 lo, .int .i64 hi, all__v]) Tryz.func135 X X X ?_
 have st0 : St h w h w [] := St.start hs
 have all__f_b := all__f.le
 refine W.sr<|zy st0 (cs := [.int .i64 lo]) X X X ?_
 intro b1 w2 h3 le4 hc5 st6
 refine zy st6 (cs := [.int .i64 hi]) X X X ?_
 intro b7 w8 h9 le10 hc11 st12
 refine v_asB X X<|Y<|W.sr<|v_move (v := all__v) X X<|v_make_func X X X ?_
 refine zi st12 rfl rfl rfl Tryz.call101 rfl (c_slices_ContainsFunc_Lint_int st12.sub (all__f.up (le4.trans le10)) (fun x_ => (decide ((x_) < (lo)) || decide ((hi) < (x_)))) Tryz.call183 (fun x_ h_ w_ vs_ le_ hs_ hx_ hr_ u_ hu_ => by cases hu_; cases hr_; exact c_stem_in_1 hs_ _ (lo := lo) ((hc5.up le10).up le_) (hi := hi) (hc11.up le_))) ?_
 intro r13 w14 h15 le16 st17 q18
 obtain rfl := q18
 refine v_not X X<|v_asB X X<|Y<|zo<|za Tryz.results135 ?_
 refine ⟨h15, _, rfl, st17.done, ?_⟩
 refine zj ?_
 exact inAll_eq all_ lo hi
set_option maxRecDepth 4000 in
theorem c_leaf_word_1 {h : Heap} {w : World} (hs : Sub h w) (b : Int) (b_l : 0 ≤ b ∧ b ≤ 255) : Calls Tryz.prog 222 #[.int .u8 b] w (Rets h w (fun _ _ res_ => res_ = .bool ((decide (b < 97) || decide (122 < b))))) := by
 refine zz (n := 9) (args := [.int .u8 b]) Tryz.func222 X X X ?_
 have st0 : St h w h w [] := St.start hs
 refine W.sr<|v_asB X X<|Y<|W.sr<|v_mvI X X<|v_lss X X X<|v_mvB X X ?_
 refine zx (d := 5) rfl (fun g1 => ?_) (fun g1 => ?_)
 ·
  replace g1 := of_decide_eq_true g1
  refine Z X X X X X<|Z X X X X X<|v_pickT (v := (.bool _)) X X X<|v_asB X X<|Y<|zo<|za Tryz.results222 ?_
  refine ⟨h, _, rfl, st0.done, ?_⟩
  refine zj ?_
  first | (simp_all; done) | (simp_all; omega)
 ·
  replace g1 := of_decide_eq_false g1
  refine M X X (d := 5) X<|v_mvI X X<|M X X (d := 5) X<|v_gtr X X X<|v_pickF (v := (.bool _)) X X X<|v_asB X X<|Y<|zo<|za Tryz.results222 ?_
  refine ⟨h, _, rfl, st0.done, ?_⟩
  refine zj ?_
  first | (simp_all; done) | (simp_all; omega)
set_option maxRecDepth 4000 in
theorem c_leaf_word {h : Heap} {w : World} (hs : Sub h w) (s : Str) (s_le : s.length ≤ 281474976710656) : Calls Tryz.prog 178 #[strV s] w (Rets h w (fun _ _ res_ => res_ = .bool (wordB s))) := by
 refine zz (n := 13) (args := [strV s]) Tryz.func178 X X X ?_
 have st0 : St h w h w [] := St.start hs
 refine W.sr<|v_asB X X<|Y<|W.sr<|v_mvS X X<|v_len_str X Tryz.underlying9 X<|zN (L := LInt) (xs := [(s.length : Int)]) (cs := [.int .i64 (s.length : Int)]) st0 (Enc.cons (L := LInt) (vs := [.int .i64 (s.length : Int)]) (x := (s.length : Int)) (h := h) (X) Enc.nil) X X X Tryz.underlying42 Tryz.info3 X X X t_kr ?_
 intro v1 w2 h5 le6 f3 st4
 refine zi st4 X X X Tryz.call164 X (c_leaf_in st4.sub _ _ f3) ?_
 intro r7 w8 h9 le10 st11 q12
 obtain rfl := q12
 refine v_mvB X X ?_
 refine zx (d := 7) rfl (fun g13 => ?_) (fun g13 => ?_)
 ·
  refine M X X (d := 7) X<|v_mvS X X<|M X X (d := 7) X ?_
  refine OpsL.strBytes st11 (s := s) rfl (by first | assumption | omega | (simp; omega)) rfl Tryz.underlying9 Tryz.underlying215 Tryz.underlying5 Tryz.sizeOf5 ?_
  intro v14 w15 h16 le17 f18 st19
  refine M X X (d := 7) X ?_
  refine zi st19 rfl rfl rfl Tryz.call139 rfl (c_slices_ContainsFunc_Lbyte_byte st19.sub f18 (fun x_ => (decide ((x_) < 97) || decide (122 < (x_)))) Tryz.call222 (fun x_ h_ w_ vs_ le_ hs_ hx_ hr_ u_ hu_ => by cases hu_; obtain ⟨hr1_, hr2_⟩ := hr_; cases hr1_; exact c_leaf_word_1 hs_ _ hr2_)) ?_
  intro r20 w21 h22 le23 st24 q25
  obtain rfl := q25
  refine M X X (d := 7) X<|v_not X X<|v_pickT (v := (.bool _)) X X X<|v_asB X X<|Y<|zo<|za Tryz.results178 ?_
  refine ⟨h22, _, rfl, st24.done, ?_⟩
  refine zj ?_
  simp_all [wordB_eq]
 ·
  refine Z X X X X X<|Z X X X X X<|Z X X X X X<|Z X X X X X<|v_pickF (v := (.bool _)) X X X<|v_asB X X<|Y<|zo<|za Tryz.results178 ?_
  refine ⟨h9, _, rfl, st11.done, ?_⟩
  refine zj ?_
  simp_all [wordB_eq]
set_option maxRecDepth 4000 in
theorem c_leaf_Check_1 {h : Heap} {w : World} (hs : Sub h w) (s : Str) (s_le : s.length ≤ 281474976710656) : Calls Tryz.prog 177 #[strV s] w (Rets h w (fun _ _ res_ => res_ = .bool ((!wordB s)))) := by
 refine zz (n := 6) (args := [strV s]) Tryz.func177 X X X ?_
 have st0 : St h w h w [] := St.start hs
 refine W.sr<|v_asB X X<|Y<|W.sr<|v_mvS X X<|zi st0 X X X Tryz.call178 X (c_leaf_word st0.sub _ t_str) ?_
 intro r1 w2 h3 le4 st5 q6
 obtain rfl := q6
 refine v_not X X<|v_asB X X<|Y<|zo<|za Tryz.results177 ?_
 refine ⟨h3, _, rfl, st5.done, ?_⟩
 refine zj ?_
 rfl
set_option maxRecDepth 4000 in
theorem c_leaf_Check {h : Heap} {w : World} (hs : Sub h w) {t : Text} {t_v0 : Value} (t_f0 : Sl LChapter h t_v0 t.chapters) : Calls Tryz.prog 131 #[.agg #[t_v0]] w (Rets h w (fun _ _ res_ => res_ = .int .i64 ((if textB t then 0 else 10)))) := by
 refine zz (n := 64) (args := [.agg #[t_v0]]) Tryz.func131 X X X ?_
 have st0 : St h w h w [] := St.start hs
 have t_f0_b := t_f0.le
 refine W.sr<|zy st0 (cs := [t_v0]) X X X ?_
 intro b1 w2 h3 le4 hc5 st6
 refine v_asI X X<|Y<|W.scope<|zf<|W.sr<|v_field_addr X Tryz.underlying24 X Tryz.sizeOf22 X X<|v_load_cells1 (j := 0) st6.sub hc5 X X X Tryz.isAgg22 X<|v_len (t_f0.up le4) X Tryz.underlying22 X<|zN (L := LInt) (xs := [(t.chapters.length : Int)]) (cs := [.int .i64 (t.chapters.length : Int)]) st6 (Enc.cons (L := LInt) (vs := [.int .i64 (t.chapters.length : Int)]) (x := (t.chapters.length : Int)) (h := h3) (X) Enc.nil) X X X Tryz.underlying42 Tryz.info3 X X X t_kr ?_
 intro v7 w8 h11 le12 f9 st10
 refine zi st10 X X X Tryz.call164 X (c_leaf_in st10.sub _ _ f9) ?_
 intro r13 w14 h15 le16 st17 q18
 obtain rfl := q18
 refine v_not X X<|Y ?_
 refine zh rfl (fun c19 => ?_) (fun c19 => ?_)
 ·
  refine W.sr<|v_asI X X<|Y<|zo<|E<|NoGo.ret<|za Tryz.results131 ?_
  refine ⟨h15, _, rfl, st17.done, ?_⟩
  refine zB ?_
  simp_all [textB]
 ·
  refine zr<|U<|W.sr<|v_asI X X<|Y<|W.sr<|OpsL.makeMap (κ := Int) (υ := Bool) (ek := (fun n : Int => .int .i64 n)) (eu := (fun b : Bool => .bool b)) st17 X ?_
  intro v20 o21 w22 f23 st24
  obtain ⟨mb25, rfl⟩ := f23.form
  have nd26 : (([] : List (Int × Bool)).map (·.1)).Nodup := by simp
  refine v_assign (v := (.map (some mb25))) X X<|Y<|zf<|W.label<|U<|zf<|W.sr<|v_field_addr X Tryz.underlying24 X Tryz.sizeOf22 X X<|v_load_cells1 (j := 0) st24.sub (hc5.up (le12.trans le16)) X X X Tryz.isAgg22 X<|v_len (t_f0.up ((le4.trans le12).trans le16)) X Tryz.underlying22 X<|v_mvI X X<|Y<|zs ?_
  refine zG [2, 3, 6, 8, 19, 20, 21, 22, 23, 24, 25, 26, 27, 28, 29, 30, 31, 32, 33, 34, 35, 36, 37, 38, 39, 40, 41, 42, 43, 44, 45, 46, 47, 48, 49, 50, 51, 52, 53, 54, 55, 56, 57, 58, 59, 60, 61, 62] (G := Nat × List (Int × Bool) × List (Nat × Obj) × Heap) (fun ⟨i, m, o_4, h27⟩ => [(3, .int .i64 0), (19, .int .i64 (i : Int))]) (fun ⟨i, m, o_4, h27⟩ w' => Le h15 h27 ∧ St h w h27 w' [o_4] ∧ (OM (fun n : Int => .int .i64 n) (fun b : Bool => .bool b) (m) o_4 (.map (some mb25))) ∧ (((m).map (·.1)).Nodup) ∧ (i ≤ t.chapters.length) ∧ ((t.chapters.take i).all chapterB = true) ∧ (((t.chapters.take i).map (·.id)).Nodup) ∧ (∀ k, (look m k).getD false = decide (k ∈ (t.chapters.take i).map (·.id)))) (fun ⟨i, m, o_4, h27⟩ => t.chapters.length - i) ⟨0, [], o21, h15⟩ ⟨rfl, rfl, trivial⟩ ⟨Le.refl _, st24, (by have q := f23; exact q), (by have q := nd26; exact q), zK, zK, zK, (by intro k; simp [look])⟩ ?_
  rintro ⟨i, m, o_4, h27⟩ _ w30 ⟨le28, st29, hM_4, hN_4, hi, hA, hN, hm⟩
  refine W.sr<|v_lss X X X<|Y<|zf ?_
  refine zh rfl (fun c31 => ?_) (fun c31 => ?_)
  ·
   replace c31 := of_decide_eq_true c31
   refine zr<|U<|zf<|zs<|W.sr ?_
   have hc : ∃ y_, (t.chapters)[i]? = some y_ := ⟨_, List.getElem?_eq_getElem (by omega)⟩
   obtain ⟨c, hc⟩ := hc
   obtain ⟨b32, o33, _, he35, hc34, hr_c⟩ := Sl.elem (t_f0.up (((le4.trans le12).trans le16).trans le28)) hc
   obtain ⟨v36, rfl, f37⟩ := hr_c
   have f37_b := f37.le
   refine v_index_el he35 X X (hk := X) (hu := Tryz.underlying22) (hz := Tryz.sizeOf152) X<|v_load_call st29.sub hc34 X Tryz.isAgg152 Tryz.sizeOf152 X X<|zD st29 Tryz.zeroValue152 X X ?_
   intro b38 w39 st40
   refine zC st40 (k := 1) X X X (zp X (zp f37.one zQ)) Tryz.sizeOf152 X X X ?_
   intro w41 st42
   obtain ⟨h43, le44, hb45, st47⟩ := st42.freeze (k := 1) rfl
   have hc46 := Cells.of hb45
   refine Y<|zf<|W.sr<|v_field_addr X Tryz.underlying152 X Tryz.sizeOf3 X X<|v_load_cells1 (j := 0) st47.sub hc46 X X X Tryz.isAgg3 X<|zN (L := LInt) (xs := [(c.id)]) (cs := [.int .i64 (c.id)]) st47 (Enc.cons (L := LInt) (vs := [.int .i64 (c.id)]) (x := (c.id)) (h := h43) (X) Enc.nil) X X X Tryz.underlying42 Tryz.info3 X X X t_kr ?_
   intro v48 w49 h52 le53 f50 st51
   refine zi st51 X X X Tryz.call164 X (c_leaf_in st51.sub _ _ f50) ?_
   intro r54 w55 h56 le57 st58 q59
   obtain rfl := q59
   refine v_not X X<|v_mvB X X ?_
   refine zx (d := 28) rfl (fun g60 => ?_) (fun g60 => ?_)
   ·
    refine Z X X X X X<|Z X X X X X<|Z X X X X X<|Z X X X X X<|v_pickT (v := (.bool _)) X X X<|v_mvB X X<|Z X X X X X<|Z X X X X X<|Z X X X X X<|Z X X X X X<|Z X X X X X<|Z X X X X X<|v_pickT (v := (.bool _)) X X X<|Y ?_
    refine zh rfl (fun c61 => ?_) (fun c61 => ?_)
    ·
     refine W.sr<|v_asI X X<|Y<|zo<|E<|zn<|E<|E<|zn<|E<|NoGo.ret<|za Tryz.results131 ?_
     refine ⟨h56, _, rfl, st58.done, ?_⟩
     refine zB ?_
     have q0 : chapterB c = false := by
      have q := g60
      simp at q
      simp [chapterB, q]
     have q := not_all (p := chapterB) hc q0
     simp [textB, q]
    ·
     cases c61
   ·
    refine M X X (d := 28) X<|v_move (v := (.map (some mb25))) X X<|M X X (d := 28) X<|v_field_addr X Tryz.underlying152 X Tryz.sizeOf3 X X<|M X X (d := 28) X<|v_load_cells1 (j := 0) st58.sub (hc46.up (le53.trans le57)) X X X Tryz.isAgg3 X<|M X X (d := 28) X<|zk X X (r_look (k := (c.id)) (zu := false) (key_int Tryz.underlying3) Tryz.underlying207 hM_4 (st58.ent (k := 0) X) Tryz.zeroValue4 X X X)<|v_pickF (v := (.bool _)) X X X<|v_mvB X X ?_
    refine zx (d := 34) rfl (fun g62 => ?_) (fun g62 => ?_)
    ·
     refine Z X X X X X<|Z X X X X X<|Z X X X X X<|Z X X X X X<|Z X X X X X<|Z X X X X X<|v_pickT (v := (.bool _)) X X X<|Y ?_
     refine zh rfl (fun c63 => ?_) (fun c63 => ?_)
     ·
      refine W.sr<|v_asI X X<|Y<|zo<|E<|zn<|E<|E<|zn<|E<|NoGo.ret<|za Tryz.results131 ?_
      refine ⟨h56, _, rfl, st58.done, ?_⟩
      refine zB ?_
      have q0 := g62
      rw [hm] at q0
      have q := not_nodup_mem (f := (·.id)) hc (by simpa using q0)
      simp [textB, q]
     ·
      cases c63
    ·
     refine M X X (d := 34) X<|v_field_addr X Tryz.underlying152 X Tryz.sizeOf150 X X<|M X X (d := 34) X<|v_load_cells1 (j := 1) st58.sub (hc46.up (le53.trans le57)) X X X Tryz.isAgg150 X<|M X X (d := 34) X<|v_len (f37.up ((le44.trans le53).trans le57)) X Tryz.underlying150 X<|M X X (d := 34) X<|zN (L := LInt) (xs := [(c.lines.length : Int)]) (cs := [.int .i64 (c.lines.length : Int)]) st58 (Enc.cons (L := LInt) (vs := [.int .i64 (c.lines.length : Int)]) (x := (c.lines.length : Int)) (h := h56) (X) Enc.nil) X X X Tryz.underlying42 Tryz.info3 X X X t_kr ?_
     intro v64 w65 h68 le69 f66 st67
     refine M X X (d := 34) X<|zi st67 X X X Tryz.call164 X (c_leaf_in st67.sub _ _ f66) ?_
     intro r70 w71 h72 le73 st74 q75
     obtain rfl := q75
     refine M X X (d := 34) X<|v_not X X<|v_pickF (v := (.bool _)) X X X<|Y ?_
     refine zh rfl (fun c76 => ?_) (fun c76 => ?_)
     ·
      refine W.sr<|v_asI X X<|Y<|zo<|E<|zn<|E<|E<|zn<|E<|NoGo.ret<|za Tryz.results131 ?_
      refine ⟨h72, _, rfl, st74.done, ?_⟩
      refine zB ?_
      have q0 : chapterB c = false := by
       have q := c76
       simp at q
       simp [chapterB, q]
      have q := not_all (p := chapterB) hc q0
      simp [textB, q]
     ·
      refine zr<|U<|W.sr<|v_move (v := (.map (some mb25))) X X<|v_field_addr X Tryz.underlying152 X Tryz.sizeOf3 X X<|v_load_cells1 (j := 0) st74.sub (hc46.up (((le53.trans le57).trans le69).trans le73)) X X X Tryz.isAgg3 X<|OpsL.mapUpdate (i := 0) st74 hM_4 X hN_4 (key_int Tryz.underlying3) Tryz.underlying207 X (k := (c.id)) X (u := true) X ?_
      intro o77 w78 _ e79 f80 nd81 st82
      subst e79
      refine Y<|W.sr<|v_field_addr X Tryz.underlying152 X Tryz.sizeOf150 X X<|v_load_cells1 (j := 1) st82.sub (hc46.up (((le53.trans le57).trans le69).trans le73)) X X X Tryz.isAgg150 X<|v_len (f37.up ((((le44.trans le53).trans le57).trans le69).trans le73)) X Tryz.underlying150 X<|v_mvI X X<|Y<|zs ?_
      refine zG [3, 8, 48, 49, 50, 51, 52, 53, 54, 55, 56, 57, 58, 59, 60, 61] (G := Nat × List (Nat × Obj) × Heap) (fun ⟨k2, o_4, h83⟩ => [(3, .int .i64 0), (48, .int .i64 (k2 : Int))]) (fun ⟨k2, o_4, h83⟩ w' => Le h72 h83 ∧ St h w h83 w' [o_4, []] ∧ (OM (fun n : Int => .int .i64 n) (fun b : Bool => .bool b) (putM m c.id true) o_4 (.map (some mb25))) ∧ (((putM m c.id true).map (·.1)).Nodup) ∧ (k2 ≤ c.lines.length) ∧ ((c.lines.take k2).all lineB = true)) (fun ⟨k2, o_4, h83⟩ => c.lines.length - k2) ⟨0, o77, h72⟩ ⟨rfl, rfl, trivial⟩ ⟨Le.refl _, st82, (by have q := f80; exact q), (by have q := nd81; exact q), zK, zK⟩ ?_
      rintro ⟨k2, o_4, h83⟩ _ w86 ⟨le84, st85, hM_4, hN_4, hk2, hl⟩
      refine W.sr<|v_lss X X X<|Y<|zf ?_
      refine zh rfl (fun c87 => ?_) (fun c87 => ?_)
      ·
       replace c87 := of_decide_eq_true c87
       refine zr<|U<|zf<|zs<|W.sr ?_
       have hln : ∃ y_, (c.lines)[k2]? = some y_ := ⟨_, List.getElem?_eq_getElem (by omega)⟩
       obtain ⟨ln, hln⟩ := hln
       obtain ⟨b88, o89, _, he91, hc90, hr_ln⟩ := Sl.elem (f37.up (((((le44.trans le53).trans le57).trans le69).trans le73).trans le84)) hln
       obtain ⟨v92, rfl, f93⟩ := hr_ln
       have f93_b := f93.le
       refine v_index_el he91 X X (hk := X) (hu := Tryz.underlying150) (hz := Tryz.sizeOf60) X<|v_load_cells1 (j := 0) st85.sub hc90 X X X Tryz.isAgg60 X<|v_assign (v := v92) X X<|Y<|W.sr<|v_move (v := v92) X X<|v_len f93 X Tryz.underlying60 X<|zN (L := LInt) (xs := [(ln.length : Int)]) (cs := [.int .i64 (ln.length : Int)]) st85 (Enc.cons (L := LInt) (vs := [.int .i64 (ln.length : Int)]) (x := (ln.length : Int)) (h := h83) (X) Enc.nil) X X X Tryz.underlying42 Tryz.info3 X X X t_kr ?_
       intro v94 w95 h98 le99 f96 st97
       refine zi st97 X X X Tryz.call164 X (c_leaf_in st97.sub _ _ f96) ?_
       intro r100 w101 h102 le103 st104 q105
       obtain rfl := q105
       refine v_not X X<|v_mvB X X ?_
       refine zx (d := 57) rfl (fun g106 => ?_) (fun g106 => ?_)
       ·
        refine Z X X X X X<|Z X X X X X<|v_pickT (v := (.bool _)) X X X<|Y ?_
        refine zh rfl (fun c107 => ?_) (fun c107 => ?_)
        ·
         refine W.sr<|v_asI X X<|Y<|zL<|Blk.miss X<|ze<|ze<|Blk.miss X<|Blk.miss X<|ze<|ze<|zF<|U<|W.sr<|v_mvI X X<|v_asI X X<|Y<|zo<|NoGo.ret<|za Tryz.results131 ?_
         refine ⟨h102, _, rfl, st104.done, ?_⟩
         refine zB ?_
         have q1 : lineB ln = false := by
          have q := g106
          simp at q
          simp [lineB, q]
         have q2 := not_all (p := lineB) hln q1
         have q0 : chapterB c = false := by simp [chapterB, q2]
         have q := not_all (p := chapterB) hc q0
         simp [textB, q]
        ·
         cases c107
       ·
        refine M X X (d := 57) X<|v_move (v := v92) X X<|M X X (d := 57) X ?_
        refine zi st104 rfl rfl rfl Tryz.call176 rfl (c_slices_ContainsFunc_Lstring_string st104.sub (f93.up (le99.trans le103)) (fun x_ => (!wordB (x_))) Tryz.call177 (fun x_ h_ w_ vs_ le_ hs_ hx_ hr_ u_ hu_ => by cases hu_; obtain ⟨hr1_, hr2_⟩ := hr_; cases hr1_; simp only [big] at hr2_; exact c_leaf_Check_1 hs_ _ hr2_)) ?_
        intro r108 w109 h110 le111 st112 q113
        obtain rfl := q113
        refine v_pickF (v := (.bool _)) X X X<|Y ?_
        refine zh rfl (fun c114 => ?_) (fun c114 => ?_)
        ·
         refine W.sr<|v_asI X X<|Y<|zL<|Blk.miss X<|ze<|ze<|Blk.miss X<|Blk.miss X<|ze<|ze<|zF<|U<|W.sr<|v_mvI X X<|v_asI X X<|Y<|zo<|NoGo.ret<|za Tryz.results131 ?_
         refine ⟨h110, _, rfl, st112.done, ?_⟩
         refine zB ?_
         have q1 : lineB ln = false := by
          have q := c114
          rw [any_not] at q
          simp only [lineB, Bool.and_eq_false_iff]
          right; simpa using q
         have q2 := not_all (p := lineB) hln q1
         have q0 : chapterB c = false := by simp [chapterB, q2]
         have q := not_all (p := chapterB) hc q0
         simp [textB, q]
        ·
         refine zr<|zw<|U<|zg<|v_add X X t_om X<|v_mvI X X<|Y ?_
         refine ⟨⟨k2 + 1, o_4, h110⟩, ⟨rfl, rfl, trivial⟩, ?_, ⟨(((le84.trans le99).trans le103).trans le111), st112, ?_, ?_, ?_, ?_⟩, ?_⟩
         ·exact zH
         ·have q := hM_4
          exact q
         ·have q := hN_4
          exact q
         ·first | omega | (simp; omega)
         ·exact all_take_succ hl hln (by simp_all [lineB])
         ·show c.lines.length - ((k2 + 1)) < c.lines.length - k2
          omega
      ·
       replace c87 := of_decide_eq_false c87
       refine zL<|ze<|ze<|zF<|zw<|U<|zg<|v_add X X t_om X<|v_mvI X X<|Y ?_
       have HCH : chapterB c = true := by
        have q := all_of_take hl (by omega)
        simp_all [chapterB]
       have HD : (look m c.id).getD false = false := by simp_all
       refine ⟨⟨i + 1, putM m c.id true, o_4, h83⟩, ⟨rfl, rfl, trivial⟩, ?_, ⟨((((((le28.trans le44).trans le53).trans le57).trans le69).trans le73).trans le84), st85.take 1, ?_, ?_, ?_, ?_, ?_, ?_⟩, ?_⟩
       ·exact zH
       ·have q := hM_4
        exact q
       ·have q := hN_4
        exact q
       ·first | omega | (simp; omega)
       ·exact all_take_succ hA hc HCH
       ·rw [take_snoc hc, List.map_append, List.nodup_append]
        refine ⟨hN, by simp, ?_⟩
        intro a ha b hb e
        simp only [List.map_cons, List.map_nil, List.mem_singleton] at hb
        subst hb
        subst e
        rw [hm] at HD
        exact absurd ha (by simpa using HD)
       ·intro k
        rw [look_putM, take_snoc hc, List.map_append]
        by_cases e : k = c.id
        ·simp [e]
        ·simp only [if_neg e, hm]
         simp [e]
       ·show t.chapters.length - ((i + 1)) < t.chapters.length - i
        omega
  ·
   replace c31 := of_decide_eq_false c31
   refine zL<|ze<|ze<|zF<|U<|W.sr<|v_mvI X X<|v_asI X X<|Y<|zo<|NoGo.ret<|za Tryz.results131 ?_
   refine ⟨h27, _, rfl, st29.done, ?_⟩
   refine zB ?_
   have q := all_of_take hA (by omega)
   have q2 : t.chapters.take i = t.chapters := List.take_of_length_le (by omega)
   rw [q2] at hN
   simp_all [textB]
end Go.Pk
