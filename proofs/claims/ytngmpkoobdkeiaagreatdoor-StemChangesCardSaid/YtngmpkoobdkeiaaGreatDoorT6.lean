/- A PART OF THE PROOF: contracts of functions, each walked once (much of it printed by a program of the author's own). -/
import Derived.Test.YtngmpkoobdkeiaaGreatDoorT4
import Derived.Test.YtngmpkoobdkeiaaGreatDoorT3
namespace Go.Pk
open Go Go.RowKit Go.Proofs
set_option maxRecDepth 4000 in
theorem zat {h : Heap} {w : World} (hs : Sub h w) (n : Int) (lo : Int) (hi : Int) : Calls Tryz.prog 84 #[.int .i64 n, .int .i64 lo, .int .i64 hi] w (Rets h w (fun _ _ res_ => res_ = .bool (inB n lo hi))) := by
 refine zM (n := 15) (args := [.int .i64 n, .int .i64 lo, .int .i64 hi]) Tryz.func84 X X X ?_
 have st0 : St h w h w [] := St.start hs
 refine zd<|O<|Y X X (zJ X)<|U<|M<|zd<|O<|Y X X (zo X)<|Y X X (zo X)<|Y X X (r_geq X X)<|Y X X (zN X) ?_
 refine zG (d := 10) rfl (fun g1 => ?_) (fun g1 => ?_)
 ·
  replace g1 := of_decide_eq_true g1
  refine za X X (d := 10) X<|Y X X (zo X)<|za X X (d := 10) X<|Y X X (zo X)<|za X X (d := 10) X<|Y X X (r_leq X X)<|Y X X (zK (v := (.bool _)) X X)<|Y X X (zJ X)<|U<|M<|zA<|zi Tryz.results84 ?_
  refine ⟨h, _, rfl, st0.done, ?_⟩
  refine zw ?_
  simp [inB, *]
 ·
  replace g1 := of_decide_eq_false g1
  refine E X X (d := 10) X X X<|E X X (d := 10) X X X<|E X X (d := 10) X X X<|Y X X (zC (v := (.bool _)) X X)<|Y X X (zJ X)<|U<|M<|zA<|zi Tryz.results84 ?_
  refine ⟨h, _, rfl, st0.done, ?_⟩
  refine zw ?_
  simp [inB, *]
set_option maxRecDepth 4000 in
theorem c_postilref04_within {h : Heap} {w : World} (hs : Sub h w) (n : Int) (lo : Int) (hi : Int) : Calls Tryz.prog 115 #[.int .i64 n, .int .i64 lo, .int .i64 hi] w (Rets h w (fun _ _ res_ => res_ = .bool (inB n lo hi))) := by
 refine zM (n := 15) (args := [.int .i64 n, .int .i64 lo, .int .i64 hi]) Tryz.func115 X X X ?_
 have st0 : St h w h w [] := St.start hs
 refine zd<|O<|Y X X (zJ X)<|U<|M<|zd<|O<|Y X X (zo X)<|Y X X (zo X)<|Y X X (r_geq X X)<|Y X X (zN X) ?_
 refine zG (d := 10) rfl (fun g1 => ?_) (fun g1 => ?_)
 ·
  replace g1 := of_decide_eq_true g1
  refine za X X (d := 10) X<|Y X X (zo X)<|za X X (d := 10) X<|Y X X (zo X)<|za X X (d := 10) X<|Y X X (r_leq X X)<|Y X X (zK (v := (.bool _)) X X)<|Y X X (zJ X)<|U<|M<|zA<|zi Tryz.results115 ?_
  refine ⟨h, _, rfl, st0.done, ?_⟩
  refine zw ?_
  simp [inB, *]
 ·
  replace g1 := of_decide_eq_false g1
  refine E X X (d := 10) X X X<|E X X (d := 10) X X X<|E X X (d := 10) X X X<|Y X X (zC (v := (.bool _)) X X)<|Y X X (zJ X)<|U<|M<|zA<|zi Tryz.results115 ?_
  refine ⟨h, _, rfl, st0.done, ?_⟩
  refine zw ?_
  simp [inB, *]
set_option maxRecDepth 4000 in
theorem c_postilref01_Word {h : Heap} {w : World} (hs : Sub h w) (s : Str) (s_le : s.length ≤ 281474976710656) : Calls Tryz.prog 43 #[strV s] w (Rets h w (fun _ _ res_ => res_ = .bool (wordB s))) := by
 refine zM (n := 23) (args := [strV s]) Tryz.func43 X X X ?_
 have st0 : St h w h w [] := St.start hs
 refine zd<|O<|Y X X (zJ X)<|U<|M<|zd<|zd<|O<|Y X X (zx X)<|U<|M<|zF ?_
 refine zX [2, 3, 4, 5, 6, 7, 8, 9, 10, 11, 12, 13, 14, 15, 16, 17, 18, 19] (G := Nat × Heap) (fun ⟨k, h1⟩ => [(3, .int .i64 (k : Int))]) (fun ⟨k, h1⟩ w' => Le h h1 ∧ St h w h1 w' [] ∧ (k ≤ s.length) ∧ ((s.take k).all isL = true)) (fun ⟨k, h1⟩ => s.length - k) ⟨0, h⟩ ⟨rfl, trivial⟩ ⟨Le.refl _, st0, zak, zak⟩ ?_
 rintro ⟨k, h1⟩ _ w4 ⟨le2, st3, hk, ht⟩
 refine zd<|zd<|O<|Y X X (zo X)<|Y X X (r_mvS X)<|Y X X (zar X Tryz.underlying9)<|Y X X (zal X X)<|U<|M ?_
 refine zt rfl (fun c5 => ?_) (fun c5 => ?_)
 ·
  replace c5 := of_decide_eq_true c5
  refine zz<|M<|zd<|zF<|zd<|O<|Y X X (r_mvS X)<|Y X X (zo X) ?_
  have hy6 : ∃ y_, (s)[k]? = some y_ := ⟨_, List.getElem?_eq_getElem (by omega)⟩
  obtain ⟨y6, hy6⟩ := hy6
  refine Y X X (r_index_str X X (hk := X) (hb := hy6) (hu := Tryz.underlying9))<|Y X X (zal X X)<|Y X X (zN X) ?_
  refine zG (d := 14) rfl (fun g7 => ?_) (fun g7 => ?_)
  ·
   replace g7 := of_decide_eq_true g7
   refine E X X (d := 14) X X X<|E X X (d := 14) X X X<|E X X (d := 14) X X X<|E X X (d := 14) X X X<|Y X X (zK (v := (.bool _)) X X)<|U<|M ?_
   refine zt rfl (fun c8 => ?_) (fun c8 => ?_)
   ·
    refine zd<|O<|Y X X (zJ X)<|U<|M<|zA<|zL<|zk<|zk<|zL<|zk<|zi Tryz.results43 ?_
    refine ⟨h1, _, rfl, st3.done, ?_⟩
    refine zw ?_
    have hn := not_all (p := isL) (by assumption) (by simp [isL]; omega)
    simp [wordB, lettersB, hn]
   ·
    cases c8
  ·
   replace g7 := of_decide_eq_false g7
   refine za X X (d := 14) X<|Y X X (r_mvS X)<|za X X (d := 14) X<|Y X X (zo X)<|za X X (d := 14) X<|Y X X (r_index_str X X (hk := X) (hb := hy6) (hu := Tryz.underlying9))<|za X X (d := 14) X<|Y X X (r_gtr X X)<|Y X X (zC (v := (.bool _)) X X)<|U<|M ?_
   refine zt rfl (fun c9 => ?_) (fun c9 => ?_)
   ·
    replace c9 := of_decide_eq_true c9
    refine zd<|O<|Y X X (zJ X)<|U<|M<|zA<|zL<|zk<|zk<|zL<|zk<|zi Tryz.results43 ?_
    refine ⟨h1, _, rfl, st3.done, ?_⟩
    refine zw ?_
    have hn := not_all (p := isL) (by assumption) (by simp [isL]; omega)
    simp [wordB, lettersB, hn]
   ·
    replace c9 := of_decide_eq_false c9
    refine zz<|zI<|M<|O<|Y X X (zo X)<|Y X X (zah X X t_om)<|Y X X (zx X)<|U<|M ?_
    refine ⟨⟨k + 1, h1⟩, ⟨rfl, trivial⟩, ?_, ⟨le2, st3, ?_, ?_⟩, ?_⟩
    ·exact zae
    ·first | omega | (simp; omega)
    ·exact all_take_succ ht (by assumption) (by simp [isL, *]; omega)
    ·show s.length - ((k + 1)) < s.length - k
     omega
 ·
  replace c5 := of_decide_eq_false c5
  refine zab<|zn<|zn<|zT<|M<|zd<|O<|Y X X (r_mvS X)<|Y X X (zar X Tryz.underlying9)<|zm st3 X X X Tryz.call84 X (zat st3.sub _ _ _) ?_
  intro r10 w11 h12 le13 st14 q15
  obtain rfl := q15
  refine Y X X (zJ X)<|U<|M<|zA<|zi Tryz.results43 ?_
  refine ⟨h12, _, rfl, st14.done, ?_⟩
  refine zw ?_
  have hn := all_of_take ht (by omega)
  simp [wordB, lettersB, hn]
set_option maxRecDepth 4000 in
theorem c_postilref04_letters {h : Heap} {w : World} (hs : Sub h w) (s : Str) (s_le : s.length ≤ 281474976710656) (lo : Int) : Calls Tryz.prog 139 #[strV s, .int .i64 lo] w (Rets h w (fun _ _ res_ => res_ = .bool (lettersB s lo))) := by
 refine zM (n := 26) (args := [strV s, .int .i64 lo]) Tryz.func139 X X X ?_
 have st0 : St h w h w [] := St.start hs
 refine zd<|O<|Y X X (zJ X)<|U<|M<|zd<|zd<|O<|Y X X (zx X)<|U<|M<|zF ?_
 refine zX [4, 5, 6, 7, 8, 9, 10, 11, 12, 13, 14, 15, 16, 17, 18, 19, 20, 21] (G := Nat × Heap) (fun ⟨k, h1⟩ => [(5, .int .i64 (k : Int))]) (fun ⟨k, h1⟩ w' => Le h h1 ∧ St h w h1 w' [] ∧ (k ≤ s.length) ∧ ((s.take k).all isL = true)) (fun ⟨k, h1⟩ => s.length - k) ⟨0, h⟩ ⟨rfl, trivial⟩ ⟨Le.refl _, st0, zak, zak⟩ ?_
 rintro ⟨k, h1⟩ _ w4 ⟨le2, st3, hk, ht⟩
 refine zd<|zd<|O<|Y X X (zo X)<|Y X X (r_mvS X)<|Y X X (zar X Tryz.underlying9)<|Y X X (zal X X)<|U<|M ?_
 refine zt rfl (fun c5 => ?_) (fun c5 => ?_)
 ·
  replace c5 := of_decide_eq_true c5
  refine zz<|M<|zd<|zF<|zd<|O<|Y X X (r_mvS X)<|Y X X (zo X) ?_
  have hy6 : ∃ y_, (s)[k]? = some y_ := ⟨_, List.getElem?_eq_getElem (by omega)⟩
  obtain ⟨y6, hy6⟩ := hy6
  refine Y X X (r_index_str X X (hk := X) (hb := hy6) (hu := Tryz.underlying9))<|Y X X (zal X X)<|Y X X (zN X) ?_
  refine zG (d := 16) rfl (fun g7 => ?_) (fun g7 => ?_)
  ·
   replace g7 := of_decide_eq_true g7
   refine E X X (d := 16) X X X<|E X X (d := 16) X X X<|E X X (d := 16) X X X<|E X X (d := 16) X X X<|Y X X (zK (v := (.bool _)) X X)<|U<|M ?_
   refine zt rfl (fun c8 => ?_) (fun c8 => ?_)
   ·
    refine zd<|O<|Y X X (zJ X)<|U<|M<|zA<|zL<|zk<|zk<|zL<|zk<|zi Tryz.results139 ?_
    refine ⟨h1, _, rfl, st3.done, ?_⟩
    refine zw ?_
    have hn := not_all (p := isL) (by assumption) (by simp [isL]; omega)
    simp [wordB, lettersB, hn]
   ·
    cases c8
  ·
   replace g7 := of_decide_eq_false g7
   refine za X X (d := 16) X<|Y X X (r_mvS X)<|za X X (d := 16) X<|Y X X (zo X)<|za X X (d := 16) X<|Y X X (r_index_str X X (hk := X) (hb := hy6) (hu := Tryz.underlying9))<|za X X (d := 16) X<|Y X X (r_gtr X X)<|Y X X (zC (v := (.bool _)) X X)<|U<|M ?_
   refine zt rfl (fun c9 => ?_) (fun c9 => ?_)
   ·
    replace c9 := of_decide_eq_true c9
    refine zd<|O<|Y X X (zJ X)<|U<|M<|zA<|zL<|zk<|zk<|zL<|zk<|zi Tryz.results139 ?_
    refine ⟨h1, _, rfl, st3.done, ?_⟩
    refine zw ?_
    have hn := not_all (p := isL) (by assumption) (by simp [isL]; omega)
    simp [wordB, lettersB, hn]
   ·
    replace c9 := of_decide_eq_false c9
    refine zz<|zI<|M<|O<|Y X X (zo X)<|Y X X (zah X X t_om)<|Y X X (zx X)<|U<|M ?_
    refine ⟨⟨k + 1, h1⟩, ⟨rfl, trivial⟩, ?_, ⟨le2, st3, ?_, ?_⟩, ?_⟩
    ·exact zae
    ·first | omega | (simp; omega)
    ·exact all_take_succ ht (by assumption) (by simp [isL, *]; omega)
    ·show s.length - ((k + 1)) < s.length - k
     omega
 ·
  replace c5 := of_decide_eq_false c5
  refine zab<|zn<|zn<|zT<|M<|zd<|O<|Y X X (r_mvS X)<|Y X X (zar X Tryz.underlying9)<|Y X X (zo X)<|zm st3 X X X Tryz.call115 X (c_postilref04_within st3.sub _ _ _) ?_
  intro r10 w11 h12 le13 st14 q15
  obtain rfl := q15
  refine Y X X (zJ X)<|U<|M<|zA<|zi Tryz.results139 ?_
  refine ⟨h12, _, rfl, st14.done, ?_⟩
  refine zw ?_
  have hn := all_of_take ht (by omega)
  simp [wordB, lettersB, hn]
set_option maxRecDepth 4000 in
theorem c_postilref04_Rule {h : Heap} {w : World} (hs : Sub h w) {r : Rule} (r_l1 : r.cut.length ≤ 281474976710656) (r_l2 : r.put.length ≤ 281474976710656) : Calls Tryz.prog 102 #[.agg #[strV r.cut, strV r.put, .int .i64 r.least]] w (Rets h w (fun _ _ res_ => res_ = .bool (ruleB r))) := by
 refine zM (n := 23) (args := [.agg #[strV r.cut, strV r.put, .int .i64 r.least]]) Tryz.func102 X X X ?_
 have st0 : St h w h w [] := St.start hs
 refine zd<|O<|zr st0 (cs := [strV (r.cut), strV (r.put), .int .i64 (r.least)]) X X X ?_
 intro b1 w2 h3 le4 hc5 st6
 refine Y X X (zJ X)<|U<|M<|zd<|O<|Y X X (zc X Tryz.underlying70 X Tryz.sizeOf9 X)<|Y X X (zb (j := 0) st6.sub hc5 X X X Tryz.isAgg9)<|zm st6 X X X Tryz.call139 X (c_postilref04_letters st6.sub _ zZ _) ?_
 intro r7 w8 h9 le10 st11 q12
 obtain rfl := q12
 refine Y X X (zN X) ?_
 refine zG (d := 6) rfl (fun g13 => ?_) (fun g13 => ?_)
 ·
  refine za X X (d := 6) X<|Y X X (zc X Tryz.underlying70 X Tryz.sizeOf9 X)<|za X X (d := 6) X<|Y X X (zb (j := 1) st11.sub (hc5.up le10) X X X Tryz.isAgg9)<|za X X (d := 6) X<|zm st11 X X X Tryz.call139 X (c_postilref04_letters st11.sub _ zZ _) ?_
  intro r14 w15 h16 le17 st18 q19
  obtain rfl := q19
  refine Y X X (zK (v := (.bool _)) X X)<|Y X X (zN X) ?_
  refine zG (d := 11) rfl (fun g20 => ?_) (fun g20 => ?_)
  ·
   refine za X X (d := 11) X<|Y X X (zc X Tryz.underlying70 X Tryz.sizeOf9 X)<|za X X (d := 11) X<|Y X X (zb (j := 0) st18.sub (hc5.up (le10.trans le17)) X X X Tryz.isAgg9)<|za X X (d := 11) X<|Y X X (zc X Tryz.underlying70 X Tryz.sizeOf9 X)<|za X X (d := 11) X<|Y X X (zb (j := 1) st18.sub (hc5.up (le10.trans le17)) X X X Tryz.isAgg9)<|za X X (d := 11) X<|Y X X (r_sneq X X)<|Y X X (zK (v := (.bool _)) X X)<|Y X X (zN X) ?_
   refine zG (d := 18) rfl (fun g21 => ?_) (fun g21 => ?_)
   ·
    replace g21 := of_decide_eq_true g21
    refine za X X (d := 18) X<|Y X X (zc X Tryz.underlying70 X Tryz.sizeOf3 X)<|za X X (d := 18) X<|Y X X (zb (j := 2) st18.sub (hc5.up (le10.trans le17)) X X X Tryz.isAgg3)<|za X X (d := 18) X<|zm st18 X X X Tryz.call115 X (c_postilref04_within st18.sub _ _ _) ?_
    intro r22 w23 h24 le25 st26 q27
    obtain rfl := q27
    refine Y X X (zK (v := (.bool _)) X X)<|Y X X (zJ X)<|U<|M<|zA<|zi Tryz.results102 ?_
    refine ⟨h24, _, rfl, st26.done, ?_⟩
    refine zw ?_
    simp_all [ruleB]
   ·
    replace g21 := of_decide_eq_false g21
    refine E X X (d := 18) X X X<|E X X (d := 18) X X X<|E X X (d := 18) X X X<|Y X X (zC (v := (.bool _)) X X)<|Y X X (zJ X)<|U<|M<|zA<|zi Tryz.results102 ?_
    refine ⟨h16, _, rfl, st18.done, ?_⟩
    refine zw ?_
    simp_all [ruleB]
  ·
   refine E X X (d := 11) X X X<|E X X (d := 11) X X X<|E X X (d := 11) X X X<|E X X (d := 11) X X X<|E X X (d := 11) X X X<|Y X X (zC (v := (.bool _)) X X)<|Y X X (zN X)<|E X X (d := 18) X X X<|E X X (d := 18) X X X<|E X X (d := 18) X X X<|Y X X (zC (v := (.bool _)) X X)<|Y X X (zJ X)<|U<|M<|zA<|zi Tryz.results102 ?_
   refine ⟨h16, _, rfl, st18.done, ?_⟩
   refine zw ?_
   simp_all [ruleB]
 ·
  refine E X X (d := 6) X X X<|E X X (d := 6) X X X<|E X X (d := 6) X X X<|Y X X (zC (v := (.bool _)) X X)<|Y X X (zN X)<|E X X (d := 11) X X X<|E X X (d := 11) X X X<|E X X (d := 11) X X X<|E X X (d := 11) X X X<|E X X (d := 11) X X X<|Y X X (zC (v := (.bool _)) X X)<|Y X X (zN X)<|E X X (d := 18) X X X<|E X X (d := 18) X X X<|E X X (d := 18) X X X<|Y X X (zC (v := (.bool _)) X X)<|Y X X (zJ X)<|U<|M<|zA<|zi Tryz.results102 ?_
  refine ⟨h9, _, rfl, st11.done, ?_⟩
  refine zw ?_
  simp_all [ruleB]
set_option maxRecDepth 4000 in
theorem c_postilref04_Head {h : Heap} {w : World} (hs : Sub h w) {hd : Head} (hd_l1 : hd.stem.length ≤ 281474976710656) (hd_l2 : 0 ≤ hd.mark ∧ hd.mark ≤ 255) : Calls Tryz.prog 80 #[.agg #[strV hd.stem, .int .u8 hd.mark]] w (Rets h w (fun _ _ res_ => res_ = .bool (headB hd))) := by
 refine zM (n := 12) (args := [.agg #[strV hd.stem, .int .u8 hd.mark]]) Tryz.func80 X X X ?_
 have st0 : St h w h w [] := St.start hs
 refine zd<|O<|zr st0 (cs := [strV (hd.stem), .int .u8 (hd.mark)]) X X X ?_
 intro b1 w2 h3 le4 hc5 st6
 refine Y X X (zJ X)<|U<|M<|zd<|O<|Y X X (zc X Tryz.underlying54 X Tryz.sizeOf9 X)<|Y X X (zb (j := 0) st6.sub hc5 X X X Tryz.isAgg9)<|zm st6 X X X Tryz.call43 X (c_postilref01_Word st6.sub _ zZ) ?_
 intro r7 w8 h9 le10 st11 q12
 obtain rfl := q12
 refine Y X X (zN X) ?_
 refine zG (d := 6) rfl (fun g13 => ?_) (fun g13 => ?_)
 ·
  refine za X X (d := 6) X<|Y X X (zc X Tryz.underlying54 X Tryz.sizeOf5 X)<|za X X (d := 6) X<|Y X X (zb (j := 1) st11.sub (hc5.up le10) X X X Tryz.isAgg5)<|za X X (d := 6) X ?_
  refine Y rfl rfl (r_conv_int rfl rfl Tryz.underlying3 (IntWalk.i64_in _ (by omega))) ?_
  refine za X X (d := 6) X<|zm st11 X X X Tryz.call115 X (c_postilref04_within st11.sub _ _ _) ?_
  intro r14 w15 h16 le17 st18 q19
  obtain rfl := q19
  refine Y X X (zK (v := (.bool _)) X X)<|Y X X (zJ X)<|U<|M<|zA<|zi Tryz.results80 ?_
  refine ⟨h16, _, rfl, st18.done, ?_⟩
  refine zw ?_
  simp_all [headB]
 ·
  refine E X X (d := 6) X X X<|E X X (d := 6) X X X<|E X X (d := 6) X X X<|E X X (d := 6) X X X<|Y X X (zC (v := (.bool _)) X X)<|Y X X (zJ X)<|U<|M<|zA<|zi Tryz.results80 ?_
  refine ⟨h9, _, rfl, st11.done, ?_⟩
  refine zw ?_
  simp_all [headB]
set_option maxRecDepth 4000 in
theorem c_postilref01_Before {h : Heap} {w : World} (hs : Sub h w) {a : Place} {b : Place} : Calls Tryz.prog 159 #[.agg #[.int .i64 a.chapter, .int .i64 a.line, .int .i64 a.word], .agg #[.int .i64 b.chapter, .int .i64 b.line, .int .i64 b.word]] w (Rets h w (fun _ _ res_ => res_ = .bool (beforeB a b))) := by
 refine zM (n := 30) (args := [.agg #[.int .i64 a.chapter, .int .i64 a.line, .int .i64 a.word], .agg #[.int .i64 b.chapter, .int .i64 b.line, .int .i64 b.word]]) Tryz.func159 X X X ?_
 have st0 : St h w h w [] := St.start hs
 refine zd<|O<|zr st0 (cs := [.int .i64 (a.chapter), .int .i64 (a.line), .int .i64 (a.word)]) X X X ?_
 intro b1 w2 h3 le4 hc5 st6
 refine zr st6 (cs := [.int .i64 (b.chapter), .int .i64 (b.line), .int .i64 (b.word)]) X X X ?_
 intro b7 w8 h9 le10 hc11 st12
 refine Y X X (zJ X)<|U<|M<|zd<|zd<|O<|Y X X (zc X Tryz.underlying52 X Tryz.sizeOf3 X)<|Y X X (zb (j := 0) st12.sub (hc5.up le10) X X X Tryz.isAgg3)<|Y X X (zc X Tryz.underlying52 X Tryz.sizeOf3 X)<|Y X X (zb (j := 0) st12.sub hc11 X X X Tryz.isAgg3)<|Y X X (r_neq X X)<|U<|M ?_
 refine zt rfl (fun c13 => ?_) (fun c13 => ?_)
 ·
  replace c13 := of_decide_eq_true c13
  refine zd<|O<|Y X X (zc X Tryz.underlying52 X Tryz.sizeOf3 X)<|Y X X (zb (j := 0) st12.sub (hc5.up le10) X X X Tryz.isAgg3)<|Y X X (zc X Tryz.underlying52 X Tryz.sizeOf3 X)<|Y X X (zb (j := 0) st12.sub hc11 X X X Tryz.isAgg3)<|Y X X (zal X X)<|Y X X (zJ X)<|U<|M<|zA<|zk<|zi Tryz.results159 ?_
  refine ⟨h9, _, rfl, st12.done, ?_⟩
  refine zw ?_
  simp_all [beforeB]
 ·
  replace c13 := of_decide_eq_false c13
  refine zz<|M<|zd<|zd<|O<|Y X X (zc X Tryz.underlying52 X Tryz.sizeOf3 X)<|Y X X (zb (j := 1) st12.sub (hc5.up le10) X X X Tryz.isAgg3)<|Y X X (zc X Tryz.underlying52 X Tryz.sizeOf3 X)<|Y X X (zb (j := 1) st12.sub hc11 X X X Tryz.isAgg3)<|Y X X (r_neq X X)<|U<|M ?_
  refine zt rfl (fun c14 => ?_) (fun c14 => ?_)
  ·
   replace c14 := of_decide_eq_true c14
   refine zd<|O<|Y X X (zc X Tryz.underlying52 X Tryz.sizeOf3 X)<|Y X X (zb (j := 1) st12.sub (hc5.up le10) X X X Tryz.isAgg3)<|Y X X (zc X Tryz.underlying52 X Tryz.sizeOf3 X)<|Y X X (zb (j := 1) st12.sub hc11 X X X Tryz.isAgg3)<|Y X X (zal X X)<|Y X X (zJ X)<|U<|M<|zA<|zk<|zi Tryz.results159 ?_
   refine ⟨h9, _, rfl, st12.done, ?_⟩
   refine zw ?_
   simp_all [beforeB]
  ·
   replace c14 := of_decide_eq_false c14
   refine zz<|M<|zd<|O<|Y X X (zc X Tryz.underlying52 X Tryz.sizeOf3 X)<|Y X X (zb (j := 2) st12.sub (hc5.up le10) X X X Tryz.isAgg3)<|Y X X (zc X Tryz.underlying52 X Tryz.sizeOf3 X)<|Y X X (zb (j := 2) st12.sub hc11 X X X Tryz.isAgg3)<|Y X X (zal X X)<|Y X X (zJ X)<|U<|M<|zA<|zi Tryz.results159 ?_
   refine ⟨h9, _, rfl, st12.done, ?_⟩
   refine zw ?_
   simp_all [beforeB]
end Go.Pk

namespace Go.Pk
open Go Go.RowKit Go.Proofs
set_option maxRecDepth 4000 in
theorem c_postilref01_Text {h : Heap} {w : World} (hs : Sub h w) {t : Text} {t_v0 : Value} (t_f0 : Sl LChapter h t_v0 t.chapters) : Calls Tryz.prog 101 #[.agg #[t_v0]] w (Rets h w (fun _ _ res_ => res_ = .bool (textB t))) := by
 refine zM (n := 85) (args := [.agg #[t_v0]]) Tryz.func101 X X X ?_
 have st0 : St h w h w [] := St.start hs
 have t_f0_b := t_f0.le
 refine zd<|O<|zr st0 (cs := [t_v0]) X X X ?_
 intro b1 w2 h3 le4 hc5 st6
 refine Y X X (zJ X)<|U<|M<|zd<|zd<|O<|Y X X (zc X Tryz.underlying24 X Tryz.sizeOf22 X)<|Y X X (zb (j := 0) st6.sub hc5 X X X Tryz.isAgg22)<|Y X X (zag (t_f0.up le4) X Tryz.underlying22)<|zm st6 X X X Tryz.call84 X (zat st6.sub _ _ _) ?_
 intro r7 w8 h9 le10 st11 q12
 obtain rfl := q12
 refine Y X X (r_not X)<|U<|M ?_
 refine zt rfl (fun c13 => ?_) (fun c13 => ?_)
 ·
  refine zd<|O<|Y X X (zJ X)<|U<|M<|zA<|zk<|zi Tryz.results101 ?_
  refine ⟨h9, _, rfl, st11.done, ?_⟩
  refine zw ?_
  simp_all [textB]
 ·
  refine zz<|M<|zd<|zd<|O<|Y X X (zx X)<|U<|M<|zF ?_
  refine zX [2, 3, 4, 5, 6, 7, 13, 14, 15, 16, 17, 18, 19, 20, 21, 22, 23, 24, 25, 26, 27, 28, 29, 30, 31, 32, 33, 34, 35, 36, 37, 38, 39, 40, 41, 42, 43, 44, 45, 46, 47, 48, 49, 50, 51, 52, 53, 54, 55, 56, 57, 58, 59, 60, 61, 62, 63, 64, 65, 66, 67, 68, 69, 70, 71, 72, 73, 74, 75, 76, 77, 78, 79, 80, 81, 82, 83, 84] (G := Nat × Heap) (fun ⟨i, h14⟩ => [(3, .int .i64 (i : Int))]) (fun ⟨i, h14⟩ w' => Le h9 h14 ∧ St h w h14 w' [] ∧ (i ≤ t.chapters.length) ∧ ((t.chapters.take i).all chapterB = true) ∧ (((t.chapters.take i).map (·.id)).Nodup)) (fun ⟨i, h14⟩ => t.chapters.length - i) ⟨0, h9⟩ ⟨rfl, trivial⟩ ⟨Le.refl _, st11, zak, zak, zak⟩ ?_
  rintro ⟨i, h14⟩ _ w17 ⟨le15, st16, hi, hA, hN⟩
  refine zd<|zd<|O<|Y X X (zo X)<|Y X X (zc X Tryz.underlying24 X Tryz.sizeOf22 X)<|Y X X (zb (j := 0) st16.sub (hc5.up (le10.trans le15)) X X X Tryz.isAgg22)<|Y X X (zag (t_f0.up ((le4.trans le10).trans le15)) X Tryz.underlying22)<|Y X X (zal X X)<|U<|M ?_
  refine zt rfl (fun c18 => ?_) (fun c18 => ?_)
  ·
   replace c18 := of_decide_eq_true c18
   refine zz<|M<|zd<|zF<|zd<|O<|Y X X (zc X Tryz.underlying24 X Tryz.sizeOf22 X)<|Y X X (zb (j := 0) st16.sub (hc5.up (le10.trans le15)) X X X Tryz.isAgg22)<|Y X X (zo X) ?_
   have hc : ∃ y_, (t.chapters)[i]? = some y_ := ⟨_, List.getElem?_eq_getElem (by omega)⟩
   obtain ⟨c, hc⟩ := hc
   obtain ⟨b19, o20, _, he22, hc21, hr_c⟩ := Sl.elem (t_f0.up ((le4.trans le10).trans le15)) hc
   obtain ⟨v23, rfl, f24⟩ := hr_c
   have f24_b := f24.le
   refine Y X X (zp he22 X X (hk := X) (hu := Tryz.underlying22) (hz := Tryz.sizeOf93))<|Y X X (zf st16.sub hc21 X Tryz.isAgg93 Tryz.sizeOf93 X)<|zO st16 Tryz.zeroValue93 X X ?_
   intro b25 w26 st27
   refine zB st27 (k := 0) X X X (zg X (zg f24.one zU)) Tryz.sizeOf93 X X X ?_
   intro w28 st29
   obtain ⟨h30, le31, hb32, st34⟩ := st29.freeze (k := 0) rfl
   have hc33 := Cells.of hb32
   refine U<|M<|zd<|zd<|O<|Y X X (zc X Tryz.underlying93 X Tryz.sizeOf3 X)<|Y X X (zb (j := 0) st34.sub hc33 X X X Tryz.isAgg3)<|zm st34 X X X Tryz.call84 X (zat st34.sub _ _ _) ?_
   intro r35 w36 h37 le38 st39 q40
   obtain rfl := q40
   refine Y X X (r_not X)<|Y X X (zN X) ?_
   refine zG (d := 29) rfl (fun g41 => ?_) (fun g41 => ?_)
   ·
    refine E X X (d := 29) X X X<|E X X (d := 29) X X X<|E X X (d := 29) X X X<|E X X (d := 29) X X X<|E X X (d := 29) X X X<|Y X X (zK (v := (.bool _)) X X)<|U<|M ?_
    refine zt rfl (fun c42 => ?_) (fun c42 => ?_)
    ·
     refine zd<|O<|Y X X (zJ X)<|U<|M<|zA<|zk<|zL<|zk<|zk<|zL<|zk<|zi Tryz.results101 ?_
     refine ⟨h37, _, rfl, st39.done, ?_⟩
     refine zw ?_
     have q0 : chapterB c = false := by simp_all [chapterB]
     have q := not_all (p := chapterB) hc q0
     simp [textB, q]
    ·
     cases c42
   ·
    refine za X X (d := 29) X<|Y X X (zc X Tryz.underlying93 X Tryz.sizeOf91 X)<|za X X (d := 29) X<|Y X X (zb (j := 1) st39.sub (hc33.up le38) X X X Tryz.isAgg91)<|za X X (d := 29) X<|Y X X (zag (f24.up (le31.trans le38)) X Tryz.underlying91)<|za X X (d := 29) X<|zm st39 X X X Tryz.call84 X (zat st39.sub _ _ _) ?_
    intro r43 w44 h45 le46 st47 q48
    obtain rfl := q48
    refine za X X (d := 29) X<|Y X X (r_not X)<|Y X X (zC (v := (.bool _)) X X)<|U<|M ?_
    refine zt rfl (fun c49 => ?_) (fun c49 => ?_)
    ·
     refine zd<|O<|Y X X (zJ X)<|U<|M<|zA<|zk<|zL<|zk<|zk<|zL<|zk<|zi Tryz.results101 ?_
     refine ⟨h45, _, rfl, st47.done, ?_⟩
     refine zw ?_
     have q0 : chapterB c = false := by simp_all [chapterB]
     have q := not_all (p := chapterB) hc q0
     simp [textB, q]
    ·
     refine zz<|M<|zd<|zd<|O<|Y X X (zx X)<|U<|M<|zF ?_
     refine zX [2, 5, 36, 37, 38, 39, 40, 41, 42, 43, 44, 45, 46, 47, 48, 49] (G := Nat × Heap) (fun ⟨k1, h50⟩ => [(5, .int .i64 (k1 : Int))]) (fun ⟨k1, h50⟩ w' => Le h45 h50 ∧ St h w h50 w' [[]] ∧ (k1 ≤ i) ∧ (∀ j c2, j < k1 → t.chapters[j]? = some c2 → c2.id ≠ c.id)) (fun ⟨k1, h50⟩ => i - k1) ⟨0, h45⟩ ⟨rfl, trivial⟩ ⟨Le.refl _, st47, zak, (by intro j _ hj; omega)⟩ ?_
     rintro ⟨k1, h50⟩ _ w53 ⟨le51, st52, hk1, hd⟩
     refine zd<|zd<|O<|Y X X (zo X)<|Y X X (zo X)<|Y X X (zal X X)<|U<|M ?_
     refine zt rfl (fun c54 => ?_) (fun c54 => ?_)
     ·
      replace c54 := of_decide_eq_true c54
      refine zz<|M<|zd<|zF<|zd<|zai Tryz.mixed t_kr (Cls h50 _) (Cls.drew st52)<|ze X X (fun _ _ => (zc X Tryz.underlying24 X Tryz.sizeOf22 X))<|ze X X (fun _ hC => (zb (j := 0) hC.sub (hc5.up (((((le10.trans le15).trans le31).trans le38).trans le46).trans le51)) X X X Tryz.isAgg22))<|ze X X (fun _ _ => (zo X)) ?_
      have hcc : ∃ y_, (t.chapters)[k1]? = some y_ := ⟨_, List.getElem?_eq_getElem (by omega)⟩
      obtain ⟨cc, hcc⟩ := hcc
      obtain ⟨b55, o56, _, he58, hc57, hr_cc⟩ := Sl.elem (t_f0.up ((((((le4.trans le10).trans le15).trans le31).trans le38).trans le46).trans le51)) hcc
      obtain ⟨v59, rfl, f60⟩ := hr_cc
      have f60_b := f60.le
      refine ze X X (fun _ _ => (zp he58 X X (hk := X) (hu := Tryz.underlying22) (hz := Tryz.sizeOf93)))<|ze X X (fun _ _ => (zc X Tryz.underlying93 X Tryz.sizeOf3 X))<|ze X X (fun _ hC => (zb (j := 0) hC.sub hc57 X X X Tryz.isAgg3))<|ze X X (fun _ _ => (zc X Tryz.underlying93 X Tryz.sizeOf3 X))<|ze X X (fun _ hC => (zb (j := 0) hC.sub (hc33.up ((le38.trans le46).trans le51)) X X X Tryz.isAgg3))<|ze X X (fun _ _ => (r_eql X X))<|zac ?_
      rintro w61 ⟨h62, s63⟩
      have st64 := st52.call0 s63
      refine M ?_
      refine zt rfl (fun c65 => ?_) (fun c65 => ?_)
      ·
       replace c65 := of_decide_eq_true c65
       refine zd<|O<|Y X X (zJ X)<|U<|M<|zA<|zL<|zk<|zk<|zL<|zk<|zL<|zk<|zk<|zL<|zk<|zi Tryz.results101 ?_
       refine ⟨h62, _, rfl, st64.done, ?_⟩
       refine zw ?_
       have q := not_nodup (f := (·.id)) hcc hc (by omega) (by assumption)
       simp [textB, q]
      ·
       replace c65 := of_decide_eq_false c65
       refine zz<|zI<|M<|O<|Y X X (zo X)<|Y X X (zah X X t_om)<|Y X X (zx X)<|U<|M ?_
       refine ⟨⟨k1 + 1, h62⟩, ⟨rfl, trivial⟩, ?_, ⟨(le51.trans s63.le), st64, ?_, ?_⟩, ?_⟩
       ·exact zae
       ·first | omega | (simp; omega)
       ·intro j c2 h1 h2
        rcases Nat.lt_or_ge j k1 with h3 | h3
        ·exact hd j c2 h3 h2
        ·obtain rfl : j = k1 := by omega
         rw [h2] at hcc; cases hcc; assumption
       ·show i - ((k1 + 1)) < i - k1
        omega
     ·
      replace c54 := of_decide_eq_false c54
      refine zab<|zn<|zn<|zT<|M<|zd<|O<|Y X X (zx X)<|U<|M<|zF ?_
      refine zX [2, 6, 7, 50, 51, 52, 53, 54, 55, 56, 57, 58, 59, 60, 61, 62, 63, 64, 65, 66, 67, 68, 69, 70, 71, 72, 73, 74, 75, 76, 77, 78, 79, 80, 81, 82, 83, 84] (G := Nat × Heap) (fun ⟨k2, h66⟩ => [(6, .int .i64 (k2 : Int))]) (fun ⟨k2, h66⟩ w' => Le h50 h66 ∧ St h w h66 w' [[]] ∧ (k2 ≤ c.lines.length) ∧ ((c.lines.take k2).all lineB = true)) (fun ⟨k2, h66⟩ => c.lines.length - k2) ⟨0, h50⟩ ⟨rfl, trivial⟩ ⟨Le.refl _, st52, zak, zak⟩ ?_
      rintro ⟨k2, h66⟩ _ w69 ⟨le67, st68, hk2, hl⟩
      refine zd<|zd<|O<|Y X X (zo X)<|Y X X (zc X Tryz.underlying93 X Tryz.sizeOf91 X)<|Y X X (zb (j := 1) st68.sub (hc33.up (((le38.trans le46).trans le51).trans le67)) X X X Tryz.isAgg91)<|Y X X (zag (f24.up ((((le31.trans le38).trans le46).trans le51).trans le67)) X Tryz.underlying91)<|Y X X (zal X X)<|U<|M ?_
      refine zt rfl (fun c70 => ?_) (fun c70 => ?_)
      ·
       replace c70 := of_decide_eq_true c70
       refine zz<|M<|zd<|zF<|zd<|zd<|O<|Y X X (zc X Tryz.underlying93 X Tryz.sizeOf91 X)<|Y X X (zb (j := 1) st68.sub (hc33.up (((le38.trans le46).trans le51).trans le67)) X X X Tryz.isAgg91)<|Y X X (zo X) ?_
       have hln : ∃ y_, (c.lines)[k2]? = some y_ := ⟨_, List.getElem?_eq_getElem (by omega)⟩
       obtain ⟨ln, hln⟩ := hln
       obtain ⟨b71, o72, _, he74, hc73, hr_ln⟩ := Sl.elem (f24.up ((((le31.trans le38).trans le46).trans le51).trans le67)) hln
       obtain ⟨v75, rfl, f76⟩ := hr_ln
       have f76_b := f76.le
       refine Y X X (zp he74 X X (hk := X) (hu := Tryz.underlying91) (hz := Tryz.sizeOf33))<|Y X X (zb (j := 0) st68.sub hc73 X X X Tryz.isAgg33)<|Y X X (zag f76 X Tryz.underlying33)<|zm st68 X X X Tryz.call84 X (zat st68.sub _ _ _) ?_
       intro r77 w78 h79 le80 st81 q82
       obtain rfl := q82
       refine Y X X (r_not X)<|U<|M ?_
       refine zt rfl (fun c83 => ?_) (fun c83 => ?_)
       ·
        refine zd<|O<|Y X X (zJ X)<|U<|M<|zA<|zk<|zL<|zk<|zk<|zL<|zL<|zk<|zk<|zL<|zk<|zi Tryz.results101 ?_
        refine ⟨h79, _, rfl, st81.done, ?_⟩
        refine zw ?_
        have q1 : lineB ln = false := by simp_all [lineB]
        have q2 := not_all (p := lineB) hln q1
        have q0 : chapterB c = false := by simp [chapterB, q2]
        have q := not_all (p := chapterB) hc q0
        simp [textB, q]
       ·
        refine zz<|M<|zd<|O<|Y X X (zx X)<|U<|M<|zF ?_
        refine zX [2, 7, 65, 66, 67, 68, 69, 70, 71, 72, 73, 74, 75, 76, 77, 78, 79, 80, 81, 82, 83, 84] (G := Nat × Heap) (fun ⟨k3, h84⟩ => [(7, .int .i64 (k3 : Int))]) (fun ⟨k3, h84⟩ w' => Le h79 h84 ∧ St h w h84 w' [[]] ∧ (k3 ≤ ln.length) ∧ ((ln.take k3).all wordB = true)) (fun ⟨k3, h84⟩ => ln.length - k3) ⟨0, h79⟩ ⟨rfl, trivial⟩ ⟨Le.refl _, st81, zak, zak⟩ ?_
        rintro ⟨k3, h84⟩ _ w87 ⟨le85, st86, hk3, hw⟩
        refine zd<|zd<|O<|Y X X (zo X)<|Y X X (zc X Tryz.underlying93 X Tryz.sizeOf91 X)<|Y X X (zb (j := 1) st86.sub (hc33.up (((((le38.trans le46).trans le51).trans le67).trans le80).trans le85)) X X X Tryz.isAgg91)<|Y X X (zo X)<|Y X X (zp he74 X X (hk := X) (hu := Tryz.underlying91) (hz := Tryz.sizeOf33))<|Y X X (zb (j := 0) st86.sub (hc73.up (le80.trans le85)) X X X Tryz.isAgg33)<|Y X X (zag (f76.up (le80.trans le85)) X Tryz.underlying33)<|Y X X (zal X X)<|U<|M ?_
        refine zt rfl (fun c88 => ?_) (fun c88 => ?_)
        ·
         replace c88 := of_decide_eq_true c88
         refine zz<|M<|zd<|zF<|zd<|O<|Y X X (zc X Tryz.underlying93 X Tryz.sizeOf91 X)<|Y X X (zb (j := 1) st86.sub (hc33.up (((((le38.trans le46).trans le51).trans le67).trans le80).trans le85)) X X X Tryz.isAgg91)<|Y X X (zo X)<|Y X X (zp he74 X X (hk := X) (hu := Tryz.underlying91) (hz := Tryz.sizeOf33))<|Y X X (zb (j := 0) st86.sub (hc73.up (le80.trans le85)) X X X Tryz.isAgg33)<|Y X X (zo X) ?_
         have hy89 : ∃ y_, (ln)[k3]? = some y_ := ⟨_, List.getElem?_eq_getElem (by omega)⟩
         obtain ⟨y89, hy89⟩ := hy89
         obtain ⟨b90, o91, _, he93, hc92, hr_y89⟩ := Sl.elem (f76.up (le80.trans le85)) hy89
         obtain ⟨rfl, ls94⟩ := hr_y89
         simp only [big] at ls94
         refine Y X X (zp he93 X X (hk := X) (hu := Tryz.underlying33) (hz := Tryz.sizeOf9))<|Y X X (zb (j := 0) st86.sub hc92 X X X Tryz.isAgg9)<|zm st86 X X X Tryz.call43 X (c_postilref01_Word st86.sub _ zZ) ?_
         intro r95 w96 h97 le98 st99 q100
         obtain rfl := q100
         refine Y X X (r_not X)<|U<|M ?_
         refine zt rfl (fun c101 => ?_) (fun c101 => ?_)
         ·
          refine zd<|O<|Y X X (zJ X)<|U<|M<|zA<|zL<|zk<|zk<|zL<|zL<|zk<|zk<|zL<|zL<|zk<|zk<|zL<|zk<|zi Tryz.results101 ?_
          refine ⟨h97, _, rfl, st99.done, ?_⟩
          refine zw ?_
          have q3 := not_all (p := wordB) (by assumption) (by simpa using c101)
          have q1 : lineB ln = false := by simp [lineB, q3]
          have q2 := not_all (p := lineB) hln q1
          have q0 : chapterB c = false := by simp [chapterB, q2]
          have q := not_all (p := chapterB) hc q0
          simp [textB, q]
         ·
          refine zz<|zI<|M<|O<|Y X X (zo X)<|Y X X (zah X X t_om)<|Y X X (zx X)<|U<|M ?_
          refine ⟨⟨k3 + 1, h97⟩, ⟨rfl, trivial⟩, ?_, ⟨(le85.trans le98), st99, ?_, ?_⟩, ?_⟩
          ·exact zae
          ·first | omega | (simp; omega)
          ·exact all_take_succ hw (by assumption) (by simp_all)
          ·show ln.length - ((k3 + 1)) < ln.length - k3
           omega
        ·
         replace c88 := of_decide_eq_false c88
         refine zab<|zn<|zn<|zT<|zI<|M<|O<|Y X X (zo X)<|Y X X (zah X X t_om)<|Y X X (zx X)<|U<|M ?_
         refine ⟨⟨k2 + 1, h84⟩, ⟨rfl, trivial⟩, ?_, ⟨((le67.trans le80).trans le85), st86, ?_, ?_⟩, ?_⟩
         ·exact zae
         ·first | omega | (simp; omega)
         ·exact all_take_succ hl hln (by simp_all [lineB, all_of_take hw (by omega)])
         ·show c.lines.length - ((k2 + 1)) < c.lines.length - k2
          omega
      ·
       replace c70 := of_decide_eq_false c70
       refine zab<|zn<|zn<|zT<|zI<|M<|O<|Y X X (zo X)<|Y X X (zah X X t_om)<|Y X X (zx X)<|U<|M ?_
       have HCH : chapterB c = true := by
        have q := all_of_take hl (by omega)
        simp_all [chapterB]
       refine ⟨⟨i + 1, h66⟩, ⟨rfl, trivial⟩, ?_, ⟨(((((le15.trans le31).trans le38).trans le46).trans le51).trans le67), st68.take 0, ?_, ?_, ?_⟩, ?_⟩
       ·exact zae
       ·first | omega | (simp; omega)
       ·exact all_take_succ hA hc HCH
       ·exact nodup_take_succ hN hc (by omega) (fun j c2 h1 h2 => hd j c2 (by omega) h2)
       ·show t.chapters.length - ((i + 1)) < t.chapters.length - i
        omega
  ·
   replace c18 := of_decide_eq_false c18
   refine zab<|zn<|zn<|zT<|M<|zd<|O<|Y X X (zJ X)<|U<|M<|zA<|zi Tryz.results101 ?_
   refine ⟨h14, _, rfl, st16.done, ?_⟩
   refine zw ?_
   have q := all_of_take hA (by omega)
   have q2 : t.chapters.take i = t.chapters := List.take_of_length_le (by omega)
   rw [q2] at hN
   simp_all [textB]
set_option maxRecDepth 4000 in
theorem c_postilref01_Check {h : Heap} {w : World} (hs : Sub h w) {t : Text} {t_v0 : Value} (t_f0 : Sl LChapter h t_v0 t.chapters) : Calls Tryz.prog 54 #[.agg #[t_v0]] w (Rets h w (fun _ _ res_ => res_ = .int .i64 ((if textB t then 0 else 10)))) := by
 refine zM (n := 6) (args := [.agg #[t_v0]]) Tryz.func54 X X X ?_
 have st0 : St h w h w [] := St.start hs
 have t_f0_b := t_f0.le
 refine zd<|O<|zr st0 (cs := [t_v0]) X X X ?_
 intro b1 w2 h3 le4 hc5 st6
 refine Y X X (zx X)<|U<|M<|zd<|zd<|O<|Y X X (zf st6.sub hc5 X Tryz.isAgg24 Tryz.sizeOf24 X)<|zm st6 X X X Tryz.call101 X (c_postilref01_Text st6.sub (t := t) (t_f0.up le4)) ?_
 intro r7 w8 h9 le10 st11 q12
 obtain rfl := q12
 refine Y X X (r_not X)<|U<|M ?_
 refine zt rfl (fun c13 => ?_) (fun c13 => ?_)
 ·
  refine zd<|O<|Y X X (zx X)<|U<|M<|zA<|zk<|zi Tryz.results54 ?_
  refine ⟨h9, _, rfl, st11.done, ?_⟩
  refine zW ?_
  simp_all
 ·
  refine zz<|M<|zd<|O<|Y X X (zx X)<|U<|M<|zA<|zi Tryz.results54 ?_
  refine ⟨h9, _, rfl, st11.done, ?_⟩
  refine zW ?_
  simp_all
set_option maxRecDepth 4000 in
theorem c_postilref01_line {h : Heap} {w : World} (hs : Sub h w) {t : Text} {t_v0 : Value} (t_f0 : Sl LChapter h t_v0 t.chapters) {p : Place} : Calls Tryz.prog 108 #[.agg #[t_v0], .agg #[.int .i64 p.chapter, .int .i64 p.line, .int .i64 p.word]] w (Rets h w (fun h' _ res_ => ∃ u0, res_ = .tuple #[u0, .bool ((lineAt t p).isSome)] ∧ Sl LStr h' u0 ((lineAt t p).getD []))) := by
 refine zM (n := 40) (args := [.agg #[t_v0], .agg #[.int .i64 p.chapter, .int .i64 p.line, .int .i64 p.word]]) Tryz.func108 X X X ?_
 have st0 : St h w h w [] := St.start hs
 have t_f0_b := t_f0.le
 refine zd<|O<|zr st0 (cs := [t_v0]) X X X ?_
 intro b1 w2 h3 le4 hc5 st6
 refine zr st6 (cs := [.int .i64 (p.chapter), .int .i64 (p.line), .int .i64 (p.word)]) X X X ?_
 intro b7 w8 h9 le10 hc11 st12
 refine Y X X (r_asL X)<|Y X X (zJ X)<|U<|M<|zd<|zd<|zai Tryz.mixed t_kr (Cls h9 _) (Cls.drew st12)<|ze X X (fun _ _ => (zc X Tryz.underlying52 X Tryz.sizeOf3 X))<|ze X X (fun _ hC => (zb (j := 0) hC.sub hc11 X X X Tryz.isAgg3))<|ze X X (fun _ _ => (zc X Tryz.underlying24 X Tryz.sizeOf22 X))<|ze X X (fun _ hC => (zb (j := 0) hC.sub (hc5.up le10) X X X Tryz.isAgg22))<|ze X X (fun _ _ => (zag (t_f0.up (le4.trans le10)) X Tryz.underlying22))<|ze X X (fun _ _ => (r_sub X X t_om))<|OpsQ.calls X X (fun _ => zaj X Tryz.call84 X) (fun _ hC => Rets.quiet hC (zat hC.sub _ _ _))<|ze X X (fun _ _ => (r_not X))<|ze X X (fun _ _ => (zN X)) ?_
 refine OpsQ.split (d := 14) rfl (fun g13 => ?_) (fun g13 => ?_)
 ·
  refine zj X X (d := 14) X X X<|zj X X (d := 14) X X X<|zj X X (d := 14) X X X<|zj X X (d := 14) X X X<|zj X X (d := 14) X X X<|zj X X (d := 14) X X X<|zj X X (d := 14) X X X<|zj X X (d := 14) X X X<|zj X X (d := 14) X X X<|zj X X (d := 14) X X X<|zj X X (d := 14) X X X<|zj X X (d := 14) X X X<|zj X X (d := 14) X X X<|ze X X (fun _ _ => (zK (v := (.bool _)) X X))<|zac ?_
  rintro w14 ⟨h15, s16⟩
  have st17 := st12.call0 s16
  refine M ?_
  refine zt rfl (fun c18 => ?_) (fun c18 => ?_)
  ·
   refine zd<|O<|Y X X (r_asL X)<|Y X X (zJ X)<|U<|M<|zA<|zk<|zS Tryz.results108 ?_
   refine ⟨h15, _, rfl, st17.done, ?_⟩
   refine ⟨_, tup2 rfl (zw ?_), Sl.to (Sl.nil _ _) ?_⟩
   all_goals have q := g13
   all_goals simp [inB] at q
   ·have q2 : lineAt t p = none := line_none1 (by omega)
    simp [q2]
   ·have q2 : lineAt t p = none := line_none1 (by omega)
    simp [q2]
  ·
   cases c18
 ·
  refine zq X X (d := 14) X<|ze X X (fun _ _ => (zc X Tryz.underlying52 X Tryz.sizeOf3 X))<|zq X X (d := 14) X<|ze X X (fun _ hC => (zb (j := 1) hC.sub hc11 X X X Tryz.isAgg3))<|zq X X (d := 14) X<|ze X X (fun _ _ => (zc X Tryz.underlying24 X Tryz.sizeOf22 X))<|zq X X (d := 14) X<|ze X X (fun _ hC => (zb (j := 0) hC.sub (hc5.up le10) X X X Tryz.isAgg22))<|zq X X (d := 14) X<|ze X X (fun _ _ => (zc X Tryz.underlying52 X Tryz.sizeOf3 X))<|zq X X (d := 14) X<|ze X X (fun _ hC => (zb (j := 0) hC.sub hc11 X X X Tryz.isAgg3))<|zq X X (d := 14) X ?_
  have q1 : 0 ≤ p.chapter ∧ p.chapter < t.chapters.length := by
   have q := g13
   simp [inB] at q
   omega
  have hc : ∃ y_, (t.chapters)[p.chapter.toNat]? = some y_ := ⟨_, List.getElem?_eq_getElem (by omega)⟩
  obtain ⟨c, hc⟩ := hc
  obtain ⟨b19, o20, _, he22, hc21, hr_c⟩ := Sl.elem (t_f0.up (le4.trans le10)) hc
  obtain ⟨v23, rfl, f24⟩ := hr_c
  have f24_b := f24.le
  refine ze rfl rfl (fun _ _ => (zp he22 rfl rfl (hk := (show _ = ((p.chapter.toNat : Nat) : Int) by omega)) (hu := Tryz.underlying22) (hz := Tryz.sizeOf93))) ?_
  refine zq X X (d := 14) X<|ze X X (fun _ _ => (zc X Tryz.underlying93 X Tryz.sizeOf91 X))<|zq X X (d := 14) X<|ze X X (fun _ hC => (zb (j := 1) hC.sub hc21 X X X Tryz.isAgg91))<|zq X X (d := 14) X<|ze X X (fun _ _ => (zag f24 X Tryz.underlying91))<|zq X X (d := 14) X<|ze X X (fun _ _ => (r_sub X X t_om))<|zq X X (d := 14) X<|OpsQ.calls X X (fun _ => zaj X Tryz.call84 X) (fun _ hC => Rets.quiet hC (zat hC.sub _ _ _))<|zq X X (d := 14) X<|ze X X (fun _ _ => (r_not X))<|ze X X (fun _ _ => (zC (v := (.bool _)) X X))<|zac ?_
  rintro w25 ⟨h26, s27⟩
  have st28 := st12.call0 s27
  refine M ?_
  refine zt rfl (fun c29 => ?_) (fun c29 => ?_)
  ·
   refine zd<|O<|Y X X (r_asL X)<|Y X X (zJ X)<|U<|M<|zA<|zk<|zS Tryz.results108 ?_
   refine ⟨h26, _, rfl, st28.done, ?_⟩
   refine ⟨_, tup2 rfl (zw ?_), Sl.to (Sl.nil _ _) ?_⟩
   all_goals have q := c29
   all_goals simp [inB] at q
   ·have q2 : lineAt t p = none := line_none2 hc (by omega)
    simp [q2]
   ·have q2 : lineAt t p = none := line_none2 hc (by omega)
    simp [q2]
  ·
   refine zz<|M<|zd ?_
   have q2 : 0 ≤ p.line ∧ p.line < c.lines.length := by
    have q := c29
    simp [inB] at q
    omega
   refine zai Tryz.mixed t_kr (Cls h26 _) (Cls.drew st28)<|ze X X (fun _ _ => (zc X Tryz.underlying24 X Tryz.sizeOf22 X))<|ze X X (fun _ hC => (zb (j := 0) hC.sub (hc5.up (le10.trans s27.le)) X X X Tryz.isAgg22))<|ze X X (fun _ _ => (zc X Tryz.underlying52 X Tryz.sizeOf3 X))<|ze X X (fun _ hC => (zb (j := 0) hC.sub (hc11.up s27.le) X X X Tryz.isAgg3)) ?_
   refine ze rfl rfl (fun _ _ => (zp he22 rfl rfl (hk := (show _ = ((p.chapter.toNat : Nat) : Int) by omega)) (hu := Tryz.underlying22) (hz := Tryz.sizeOf93))) ?_
   refine ze X X (fun _ _ => (zc X Tryz.underlying93 X Tryz.sizeOf91 X))<|ze X X (fun _ hC => (zb (j := 1) hC.sub (hc21.up s27.le) X X X Tryz.isAgg91))<|ze X X (fun _ _ => (zc X Tryz.underlying52 X Tryz.sizeOf3 X))<|ze X X (fun _ hC => (zb (j := 1) hC.sub (hc11.up s27.le) X X X Tryz.isAgg3)) ?_
   have hln : ∃ y_, (c.lines)[p.line.toNat]? = some y_ := ⟨_, List.getElem?_eq_getElem (by omega)⟩
   obtain ⟨ln, hln⟩ := hln
   obtain ⟨b30, o31, _, he33, hc32, hr_ln⟩ := Sl.elem (f24.up s27.le) hln
   obtain ⟨v34, rfl, f35⟩ := hr_ln
   have f35_b := f35.le
   refine ze rfl rfl (fun _ _ => (zp he33 rfl rfl (hk := (show _ = ((p.line.toNat : Nat) : Int) by omega)) (hu := Tryz.underlying91) (hz := Tryz.sizeOf33))) ?_
   refine ze X X (fun _ hC => (zb (j := 0) hC.sub hc32 X X X Tryz.isAgg33))<|ze X X (fun _ _ => (zD (v := v34) X))<|ze X X (fun _ _ => (zJ X))<|zac ?_
   rintro w36 ⟨h37, s38⟩
   have st39 := st28.call0 s38
   refine M<|zA<|zS Tryz.results108 ?_
   refine ⟨h37, _, rfl, st39.done, ?_⟩
   refine ⟨_, tup2 rfl (zw ?_), Sl.to (f35.up s38.le) ?_⟩
   ·simp [line_some hc q1.1 hln q2.1]
   ·simp [line_some hc q1.1 hln q2.1]
set_option maxRecDepth 4000 in
theorem c_postilref01_Place {h : Heap} {w : World} (hs : Sub h w) {t : Text} {t_v0 : Value} (t_f0 : Sl LChapter h t_v0 t.chapters) {p : Place} : Calls Tryz.prog 72 #[.agg #[t_v0], .agg #[.int .i64 p.chapter, .int .i64 p.line, .int .i64 p.word]] w (Rets h w (fun _ _ res_ => res_ = .bool (placeB t p))) := by
 refine zM (n := 22) (args := [.agg #[t_v0], .agg #[.int .i64 p.chapter, .int .i64 p.line, .int .i64 p.word]]) Tryz.func72 X X X ?_
 have st0 : St h w h w [] := St.start hs
 have t_f0_b := t_f0.le
 refine zd<|O<|zr st0 (cs := [t_v0]) X X X ?_
 intro b1 w2 h3 le4 hc5 st6
 refine zr st6 (cs := [.int .i64 (p.chapter), .int .i64 (p.line), .int .i64 (p.word)]) X X X ?_
 intro b7 w8 h9 le10 hc11 st12
 refine Y X X (zJ X)<|U<|M<|zd<|O<|Y X X (zf st12.sub (hc5.up le10) X Tryz.isAgg24 Tryz.sizeOf24 X)<|Y X X (zf st12.sub hc11 X Tryz.isAgg52 Tryz.sizeOf52 X)<|zm st12 X X X Tryz.call108 X (c_postilref01_line st12.sub (t := t) (t_f0.up (le4.trans le10)) (p := p)) ?_
 intro r13 w14 h15 le16 st17 q18
 obtain ⟨v19, rfl, f20⟩ := q18
 have f20_b := f20.le
 refine Y X X (r_mvT X)<|Y X X (zH (v := v19) X X)<|Y X X (zH (v := (.bool _)) X X)<|Y X X (zD (v := v19) X)<|Y X X (zJ X)<|U<|M<|zd<|O<|Y X X (zN X)<|Y X X (zN X) ?_
 refine zG (d := 14) rfl (fun g21 => ?_) (fun g21 => ?_)
 ·
  refine za X X (d := 14) X<|Y X X (zc X Tryz.underlying52 X Tryz.sizeOf3 X)<|za X X (d := 14) X<|Y X X (zb (j := 2) st17.sub (hc11.up le16) X X X Tryz.isAgg3)<|za X X (d := 14) X<|Y X X (zy (v := v19) X)<|za X X (d := 14) X<|Y X X (zag f20 X Tryz.underlying33)<|za X X (d := 14) X<|Y X X (r_sub X X t_om)<|za X X (d := 14) X<|zm st17 X X X Tryz.call84 X (zat st17.sub _ _ _) ?_
  intro r22 w23 h24 le25 st26 q27
  obtain rfl := q27
  refine Y X X (zK (v := (.bool _)) X X)<|Y X X (zJ X)<|U<|M<|zA<|zi Tryz.results72 ?_
  refine ⟨h24, _, rfl, st26.done, ?_⟩
  refine zw ?_
  simp_all [place_eq]
 ·
  refine E X X (d := 14) X X X<|E X X (d := 14) X X X<|E X X (d := 14) X X X<|E X X (d := 14) X X X<|E X X (d := 14) X X X<|E X X (d := 14) X X X<|Y X X (zC (v := (.bool _)) X X)<|Y X X (zJ X)<|U<|M<|zA<|zi Tryz.results72 ?_
  refine ⟨h15, _, rfl, st17.done, ?_⟩
  refine zw ?_
  simp_all [place_eq]
set_option maxRecDepth 4000 in
theorem c_postilref04_Decision {h : Heap} {w : World} (hs : Sub h w) {t : Text} {t_v0 : Value} (t_f0 : Sl LChapter h t_v0 t.chapters) {d : Decision} (d_l2 : 0 ≤ d.kind ∧ d.kind ≤ 255) (d_l3 : d.form.length ≤ 281474976710656) (d_l7 : d.to.stem.length ≤ 281474976710656) (d_l8 : 0 ≤ d.to.mark ∧ d.to.mark ≤ 255) : Calls Tryz.prog 103 #[.agg #[t_v0], .agg #[.int .i64 d.number, .int .u8 d.kind, strV d.form, .int .i64 d.at_.chapter, .int .i64 d.at_.line, .int .i64 d.at_.word, strV d.to.stem, .int .u8 d.to.mark, .int .i64 d.of_]] w (Rets h w (fun _ _ res_ => res_ = .bool (decisionB t d))) := by
 refine zM (n := 102) (args := [.agg #[t_v0], .agg #[.int .i64 d.number, .int .u8 d.kind, strV d.form, .int .i64 d.at_.chapter, .int .i64 d.at_.line, .int .i64 d.at_.word, strV d.to.stem, .int .u8 d.to.mark, .int .i64 d.of_]]) Tryz.func103 X X X ?_
 have st0 : St h w h w [] := St.start hs
 have t_f0_b := t_f0.le
 refine zd<|O<|zr st0 (cs := [t_v0]) X X X ?_
 intro b1 w2 h3 le4 hc5 st6
 refine zr st6 (cs := [.int .i64 (d.number), .int .u8 (d.kind), strV (d.form), .int .i64 (d.at_.chapter), .int .i64 (d.at_.line), .int .i64 (d.at_.word), strV (d.to.stem), .int .u8 (d.to.mark), .int .i64 (d.of_)]) X X X ?_
 intro b7 w8 h9 le10 hc11 st12
 refine Y X X (zJ X)<|U<|M<|zd<|zd<|O<|Y X X (zc X Tryz.underlying56 X Tryz.sizeOf3 X)<|Y X X (zb (j := 0) st12.sub hc11 X X X Tryz.isAgg3)<|zm st12 X X X Tryz.call115 X (c_postilref04_within st12.sub _ _ _) ?_
 intro r13 w14 h15 le16 st17 q18
 obtain rfl := q18
 refine Y X X (r_not X)<|U<|M ?_
 refine zt rfl (fun c19 => ?_) (fun c19 => ?_)
 ·
  refine zd<|O<|Y X X (zJ X)<|U<|M<|zA<|zk<|zi Tryz.results103 ?_
  refine ⟨h15, _, rfl, st17.done, ?_⟩
  refine zw ?_
  simp_all [decisionB]
 ·
  have qn : 1 ≤ d.number ∧ d.number ≤ 999 := by
   have q := c19
   simp [inB] at q
   omega
  refine zz<|M<|zd<|O<|Y X X (r_build (cs := [.int .i64 0, .int .i64 0, .int .i64 0]) t_kr)<|Y X X (r_build (cs := [strV [], .int .u8 0]) t_kr)<|Y X X (zf st17.sub (hc5.up (le10.trans le16)) X Tryz.isAgg24 Tryz.sizeOf24 X)<|Y X X (zc X Tryz.underlying56 X Tryz.sizeOf52 X)<|Y X X (zR (j := 3) st17.sub (hc11.up le16) (us := [.int .i64 (d.at_.chapter), .int .i64 (d.at_.line), .int .i64 (d.at_.word)]) X X Tryz.isAgg52 Tryz.sizeOf52 X X)<|zm st17 X X X Tryz.call72 X (c_postilref01_Place st17.sub (t := t) (t_f0.up ((le4.trans le10).trans le16)) (p := d.at_)) ?_
  intro r20 w21 h22 le23 st24 q25
  obtain rfl := q25
  refine zO st24 Tryz.zeroValue52 X X ?_
  intro b26 w27 st28
  refine zO st28 Tryz.zeroValue54 X X ?_
  intro b29 w30 st31
  refine zB st31 (k := 0) X X X (zg X (zg X (zg X zU))) Tryz.sizeOf52 X X X ?_
  intro w32 st33
  obtain ⟨h34, le35, hb36, st38⟩ := st33.freeze (k := 0) rfl
  have hc37 := Cells.of hb36
  refine zB st38 (k := 1) X X X (zg X (zg X zU)) Tryz.sizeOf54 X X X ?_
  intro w39 st40
  obtain ⟨h41, le42, hb43, st45⟩ := st40.freeze (k := 1) rfl
  have hc44 := Cells.of hb43
  refine Y X X (zJ X)<|U<|M<|zd<|zd<|O<|Y X X (zc X Tryz.underlying56 X Tryz.sizeOf5 X)<|Y X X (zb (j := 1) st45.sub (hc11.up (((le16.trans le23).trans le35).trans le42)) X X X Tryz.isAgg5)<|U<|M<|zF<|zd<|O<|Y X X (r_eql X X)<|Y X X (zJ X)<|U<|M ?_
  refine zt rfl (fun c46 => ?_) (fun c46 => ?_)
  ·
   replace c46 := of_decide_eq_true c46
   refine zd<|O<|Y X X (zc X Tryz.underlying56 X Tryz.sizeOf9 X)<|Y X X (zb (j := 2) st45.sub (hc11.up (((le16.trans le23).trans le35).trans le42)) X X X Tryz.isAgg9)<|zm st45 X X X Tryz.call43 X (c_postilref01_Word st45.sub _ zZ) ?_
   intro r47 w48 h49 le50 st51 q52
   obtain rfl := q52
   refine Y X X (zN X) ?_
   refine zG (d := 25) rfl (fun g53 => ?_) (fun g53 => ?_)
   ·
    refine za X X (d := 25) X<|Y X X (zc X Tryz.underlying56 X Tryz.sizeOf52 X)<|za X X (d := 25) X<|Y X X (zR (j := 3) st51.sub (hc11.up ((((le16.trans le23).trans le35).trans le42).trans le50)) (us := [.int .i64 (d.at_.chapter), .int .i64 (d.at_.line), .int .i64 (d.at_.word)]) X X Tryz.isAgg52 Tryz.sizeOf52 X X)<|za X X (d := 25) X<|Y X X (zf st51.sub (hc37.up (le42.trans le50)) X Tryz.isAgg52 Tryz.sizeOf52 X)<|za X X (d := 25) X<|Y X X (r_steql X X Tryz.eqGuardType52 (Tryz.eq_Place d.at_ zPlace))<|Y X X (zK (v := (.bool _)) X X)<|Y X X (zN X) ?_
    refine zG (d := 31) rfl (fun g54 => ?_) (fun g54 => ?_)
    ·
     replace g54 := of_decide_eq_true g54
     refine za X X (d := 31) X<|Y X X (zc X Tryz.underlying56 X Tryz.sizeOf54 X)<|za X X (d := 31) X<|Y X X (zR (j := 6) st51.sub (hc11.up ((((le16.trans le23).trans le35).trans le42).trans le50)) (us := [strV (d.to.stem), .int .u8 (d.to.mark)]) X X Tryz.isAgg54 Tryz.sizeOf54 X X)<|za X X (d := 31) X<|zm st51 X X X Tryz.call80 X (c_postilref04_Head st51.sub (hd := d.to) zZ t_u8) ?_
     intro r55 w56 h57 le58 st59 q60
     obtain rfl := q60
     refine Y X X (zK (v := (.bool _)) X X)<|Y X X (zN X) ?_
     refine zG (d := 36) rfl (fun g61 => ?_) (fun g61 => ?_)
     ·
      refine za X X (d := 36) X<|Y X X (zc X Tryz.underlying56 X Tryz.sizeOf3 X)<|za X X (d := 36) X<|Y X X (zb (j := 8) st59.sub (hc11.up (((((le16.trans le23).trans le35).trans le42).trans le50).trans le58)) X X X Tryz.isAgg3)<|za X X (d := 36) X<|Y X X (r_eql X X)<|Y X X (zK (v := (.bool _)) X X)<|Y X X (zJ X)<|U<|M<|zA<|zL<|zk<|zi Tryz.results103 ?_
      refine ⟨h57, _, rfl, st59.done, ?_⟩
      refine zw ?_
      simp_all [decisionB]
     ·
      refine E X X (d := 36) X X X<|E X X (d := 36) X X X<|E X X (d := 36) X X X<|Y X X (zC (v := (.bool _)) X X)<|Y X X (zJ X)<|U<|M<|zA<|zL<|zk<|zi Tryz.results103 ?_
      refine ⟨h57, _, rfl, st59.done, ?_⟩
      refine zw ?_
      simp_all [decisionB]
    ·
     replace g54 := of_decide_eq_false g54
     refine E X X (d := 31) X X X<|E X X (d := 31) X X X<|E X X (d := 31) X X X<|Y X X (zC (v := (.bool _)) X X)<|Y X X (zN X)<|E X X (d := 36) X X X<|E X X (d := 36) X X X<|E X X (d := 36) X X X<|Y X X (zC (v := (.bool _)) X X)<|Y X X (zJ X)<|U<|M<|zA<|zL<|zk<|zi Tryz.results103 ?_
     refine ⟨h49, _, rfl, st51.done, ?_⟩
     refine zw ?_
     simp_all [decisionB]
   ·
    refine E X X (d := 25) X X X<|E X X (d := 25) X X X<|E X X (d := 25) X X X<|E X X (d := 25) X X X<|Y X X (zC (v := (.bool _)) X X)<|Y X X (zN X)<|E X X (d := 31) X X X<|E X X (d := 31) X X X<|E X X (d := 31) X X X<|Y X X (zC (v := (.bool _)) X X)<|Y X X (zN X)<|E X X (d := 36) X X X<|E X X (d := 36) X X X<|E X X (d := 36) X X X<|Y X X (zC (v := (.bool _)) X X)<|Y X X (zJ X)<|U<|M<|zA<|zL<|zk<|zi Tryz.results103 ?_
    refine ⟨h49, _, rfl, st51.done, ?_⟩
    refine zw ?_
    simp_all [decisionB]
  ·
   replace c46 := of_decide_eq_false c46
   refine zd<|O<|Y X X (r_eql X X)<|Y X X (zJ X)<|U<|M ?_
   refine zt rfl (fun c62 => ?_) (fun c62 => ?_)
   ·
    replace c62 := of_decide_eq_true c62
    refine zd<|O<|Y X X (zc X Tryz.underlying56 X Tryz.sizeOf9 X)<|Y X X (zb (j := 2) st45.sub (hc11.up (((le16.trans le23).trans le35).trans le42)) X X X Tryz.isAgg9)<|zm st45 X X X Tryz.call43 X (c_postilref01_Word st45.sub _ zZ) ?_
    intro r63 w64 h65 le66 st67 q68
    obtain rfl := q68
    refine Y X X (zN X) ?_
    refine zG (d := 46) rfl (fun g69 => ?_) (fun g69 => ?_)
    ·
     refine za X X (d := 46) X<|Y X X (zN X)<|Y X X (zK (v := (.bool _)) X X)<|Y X X (zN X) ?_
     refine zG (d := 49) rfl (fun g70 => ?_) (fun g70 => ?_)
     ·
      refine za X X (d := 49) X<|Y X X (zc X Tryz.underlying56 X Tryz.sizeOf54 X)<|za X X (d := 49) X<|Y X X (zR (j := 6) st67.sub (hc11.up ((((le16.trans le23).trans le35).trans le42).trans le66)) (us := [strV (d.to.stem), .int .u8 (d.to.mark)]) X X Tryz.isAgg54 Tryz.sizeOf54 X X)<|za X X (d := 49) X<|zm st67 X X X Tryz.call80 X (c_postilref04_Head st67.sub (hd := d.to) zZ t_u8) ?_
      intro r71 w72 h73 le74 st75 q76
      obtain rfl := q76
      refine Y X X (zK (v := (.bool _)) X X)<|Y X X (zN X) ?_
      refine zG (d := 54) rfl (fun g77 => ?_) (fun g77 => ?_)
      ·
       refine za X X (d := 54) X<|Y X X (zc X Tryz.underlying56 X Tryz.sizeOf3 X)<|za X X (d := 54) X<|Y X X (zb (j := 8) st75.sub (hc11.up (((((le16.trans le23).trans le35).trans le42).trans le66).trans le74)) X X X Tryz.isAgg3)<|za X X (d := 54) X<|Y X X (r_eql X X)<|Y X X (zK (v := (.bool _)) X X)<|Y X X (zJ X)<|U<|M<|zA<|zL<|zk<|zi Tryz.results103 ?_
       refine ⟨h73, _, rfl, st75.done, ?_⟩
       refine zw ?_
       simp_all [decisionB]
      ·
       refine E X X (d := 54) X X X<|E X X (d := 54) X X X<|E X X (d := 54) X X X<|Y X X (zC (v := (.bool _)) X X)<|Y X X (zJ X)<|U<|M<|zA<|zL<|zk<|zi Tryz.results103 ?_
       refine ⟨h73, _, rfl, st75.done, ?_⟩
       refine zw ?_
       simp_all [decisionB]
     ·
      refine E X X (d := 49) X X X<|E X X (d := 49) X X X<|E X X (d := 49) X X X<|Y X X (zC (v := (.bool _)) X X)<|Y X X (zN X)<|E X X (d := 54) X X X<|E X X (d := 54) X X X<|E X X (d := 54) X X X<|Y X X (zC (v := (.bool _)) X X)<|Y X X (zJ X)<|U<|M<|zA<|zL<|zk<|zi Tryz.results103 ?_
      refine ⟨h65, _, rfl, st67.done, ?_⟩
      refine zw ?_
      simp_all [decisionB]
    ·
     refine E X X (d := 46) X X X<|Y X X (zC (v := (.bool _)) X X)<|Y X X (zN X)<|E X X (d := 49) X X X<|E X X (d := 49) X X X<|E X X (d := 49) X X X<|Y X X (zC (v := (.bool _)) X X)<|Y X X (zN X)<|E X X (d := 54) X X X<|E X X (d := 54) X X X<|E X X (d := 54) X X X<|Y X X (zC (v := (.bool _)) X X)<|Y X X (zJ X)<|U<|M<|zA<|zL<|zk<|zi Tryz.results103 ?_
     refine ⟨h65, _, rfl, st67.done, ?_⟩
     refine zw ?_
     simp_all [decisionB]
   ·
    replace c62 := of_decide_eq_false c62
    refine zd<|O<|Y X X (r_eql X X)<|Y X X (zJ X)<|U<|M ?_
    refine zt rfl (fun c78 => ?_) (fun c78 => ?_)
    ·
     replace c78 := of_decide_eq_true c78
     refine zd<|O<|Y X X (zc X Tryz.underlying56 X Tryz.sizeOf9 X)<|Y X X (zb (j := 2) st45.sub (hc11.up (((le16.trans le23).trans le35).trans le42)) X X X Tryz.isAgg9)<|Y X X (r_seql X X)<|Y X X (zN X) ?_
     refine zG (d := 64) rfl (fun g79 => ?_) (fun g79 => ?_)
     ·
      replace g79 := of_decide_eq_true g79
      refine za X X (d := 64) X<|Y X X (zN X)<|Y X X (zK (v := (.bool _)) X X)<|Y X X (zN X) ?_
      refine zG (d := 67) rfl (fun g80 => ?_) (fun g80 => ?_)
      ·
       refine za X X (d := 67) X<|Y X X (zc X Tryz.underlying56 X Tryz.sizeOf54 X)<|za X X (d := 67) X<|Y X X (zR (j := 6) st45.sub (hc11.up (((le16.trans le23).trans le35).trans le42)) (us := [strV (d.to.stem), .int .u8 (d.to.mark)]) X X Tryz.isAgg54 Tryz.sizeOf54 X X)<|za X X (d := 67) X<|zm st45 X X X Tryz.call80 X (c_postilref04_Head st45.sub (hd := d.to) zZ t_u8) ?_
       intro r81 w82 h83 le84 st85 q86
       obtain rfl := q86
       refine Y X X (zK (v := (.bool _)) X X)<|Y X X (zN X) ?_
       refine zG (d := 72) rfl (fun g87 => ?_) (fun g87 => ?_)
       ·
        refine za X X (d := 72) X<|Y X X (zc X Tryz.underlying56 X Tryz.sizeOf3 X)<|za X X (d := 72) X<|Y X X (zb (j := 8) st85.sub (hc11.up ((((le16.trans le23).trans le35).trans le42).trans le84)) X X X Tryz.isAgg3)<|za X X (d := 72) X<|Y X X (r_eql X X)<|Y X X (zK (v := (.bool _)) X X)<|Y X X (zJ X)<|U<|M<|zA<|zL<|zk<|zi Tryz.results103 ?_
        refine ⟨h83, _, rfl, st85.done, ?_⟩
        refine zw ?_
        simp_all [decisionB]
       ·
        refine E X X (d := 72) X X X<|E X X (d := 72) X X X<|E X X (d := 72) X X X<|Y X X (zC (v := (.bool _)) X X)<|Y X X (zJ X)<|U<|M<|zA<|zL<|zk<|zi Tryz.results103 ?_
        refine ⟨h83, _, rfl, st85.done, ?_⟩
        refine zw ?_
        simp_all [decisionB]
      ·
       refine E X X (d := 67) X X X<|E X X (d := 67) X X X<|E X X (d := 67) X X X<|Y X X (zC (v := (.bool _)) X X)<|Y X X (zN X)<|E X X (d := 72) X X X<|E X X (d := 72) X X X<|E X X (d := 72) X X X<|Y X X (zC (v := (.bool _)) X X)<|Y X X (zJ X)<|U<|M<|zA<|zL<|zk<|zi Tryz.results103 ?_
       refine ⟨h41, _, rfl, st45.done, ?_⟩
       refine zw ?_
       simp_all [decisionB]
     ·
      replace g79 := of_decide_eq_false g79
      refine E X X (d := 64) X X X<|Y X X (zC (v := (.bool _)) X X)<|Y X X (zN X)<|E X X (d := 67) X X X<|E X X (d := 67) X X X<|E X X (d := 67) X X X<|Y X X (zC (v := (.bool _)) X X)<|Y X X (zN X)<|E X X (d := 72) X X X<|E X X (d := 72) X X X<|E X X (d := 72) X X X<|Y X X (zC (v := (.bool _)) X X)<|Y X X (zJ X)<|U<|M<|zA<|zL<|zk<|zi Tryz.results103 ?_
      refine ⟨h41, _, rfl, st45.done, ?_⟩
      refine zw ?_
      simp_all [decisionB]
    ·
     replace c78 := of_decide_eq_false c78
     refine zd<|O<|Y X X (r_eql X X)<|Y X X (zJ X)<|U<|M ?_
     refine zt rfl (fun c88 => ?_) (fun c88 => ?_)
     ·
      replace c88 := of_decide_eq_true c88
      refine zd<|O<|Y X X (zc X Tryz.underlying56 X Tryz.sizeOf9 X)<|Y X X (zb (j := 2) st45.sub (hc11.up (((le16.trans le23).trans le35).trans le42)) X X X Tryz.isAgg9)<|Y X X (r_seql X X)<|Y X X (zN X) ?_
      refine zG (d := 82) rfl (fun g89 => ?_) (fun g89 => ?_)
      ·
       replace g89 := of_decide_eq_true g89
       refine za X X (d := 82) X<|Y X X (zc X Tryz.underlying56 X Tryz.sizeOf52 X)<|za X X (d := 82) X<|Y X X (zR (j := 3) st45.sub (hc11.up (((le16.trans le23).trans le35).trans le42)) (us := [.int .i64 (d.at_.chapter), .int .i64 (d.at_.line), .int .i64 (d.at_.word)]) X X Tryz.isAgg52 Tryz.sizeOf52 X X)<|za X X (d := 82) X<|Y X X (zf st45.sub (hc37.up le42) X Tryz.isAgg52 Tryz.sizeOf52 X)<|za X X (d := 82) X<|Y X X (r_steql X X Tryz.eqGuardType52 (Tryz.eq_Place d.at_ zPlace))<|Y X X (zK (v := (.bool _)) X X)<|Y X X (zN X) ?_
       refine zG (d := 88) rfl (fun g90 => ?_) (fun g90 => ?_)
       ·
        replace g90 := of_decide_eq_true g90
        refine za X X (d := 88) X<|Y X X (zc X Tryz.underlying56 X Tryz.sizeOf54 X)<|za X X (d := 88) X<|Y X X (zR (j := 6) st45.sub (hc11.up (((le16.trans le23).trans le35).trans le42)) (us := [strV (d.to.stem), .int .u8 (d.to.mark)]) X X Tryz.isAgg54 Tryz.sizeOf54 X X)<|za X X (d := 88) X<|Y X X (zf st45.sub hc44 X Tryz.isAgg54 Tryz.sizeOf54 X)<|za X X (d := 88) X<|Y X X (r_steql X X Tryz.eqGuardType54 (Tryz.eq_Head d.to zHead))<|Y X X (zK (v := (.bool _)) X X)<|Y X X (zN X) ?_
        refine zG (d := 94) rfl (fun g91 => ?_) (fun g91 => ?_)
        ·
         replace g91 := of_decide_eq_true g91
         refine za X X (d := 94) X<|Y X X (zc X Tryz.underlying56 X Tryz.sizeOf3 X)<|za X X (d := 94) X<|Y X X (zb (j := 8) st45.sub (hc11.up (((le16.trans le23).trans le35).trans le42)) X X X Tryz.isAgg3)<|za X X (d := 94) X<|Y X X (zc X Tryz.underlying56 X Tryz.sizeOf3 X)<|za X X (d := 94) X<|Y X X (zb (j := 0) st45.sub (hc11.up (((le16.trans le23).trans le35).trans le42)) X X X Tryz.isAgg3)<|za X X (d := 94) X<|Y X X (r_sub X X t_om)<|za X X (d := 94) X<|zm st45 X X X Tryz.call115 X (c_postilref04_within st45.sub _ _ _) ?_
         intro r92 w93 h94 le95 st96 q97
         obtain rfl := q97
         refine Y X X (zK (v := (.bool _)) X X)<|Y X X (zJ X)<|U<|M<|zA<|zL<|zk<|zi Tryz.results103 ?_
         refine ⟨h94, _, rfl, st96.done, ?_⟩
         refine zw ?_
         simp_all [decisionB]
        ·
         replace g91 := of_decide_eq_false g91
         refine E X X (d := 94) X X X<|E X X (d := 94) X X X<|E X X (d := 94) X X X<|E X X (d := 94) X X X<|E X X (d := 94) X X X<|E X X (d := 94) X X X<|Y X X (zC (v := (.bool _)) X X)<|Y X X (zJ X)<|U<|M<|zA<|zL<|zk<|zi Tryz.results103 ?_
         refine ⟨h41, _, rfl, st45.done, ?_⟩
         refine zw ?_
         simp_all [decisionB]
       ·
        replace g90 := of_decide_eq_false g90
        refine E X X (d := 88) X X X<|E X X (d := 88) X X X<|E X X (d := 88) X X X<|E X X (d := 88) X X X<|Y X X (zC (v := (.bool _)) X X)<|Y X X (zN X)<|E X X (d := 94) X X X<|E X X (d := 94) X X X<|E X X (d := 94) X X X<|E X X (d := 94) X X X<|E X X (d := 94) X X X<|E X X (d := 94) X X X<|Y X X (zC (v := (.bool _)) X X)<|Y X X (zJ X)<|U<|M<|zA<|zL<|zk<|zi Tryz.results103 ?_
        refine ⟨h41, _, rfl, st45.done, ?_⟩
        refine zw ?_
        simp_all [decisionB]
      ·
       replace g89 := of_decide_eq_false g89
       refine E X X (d := 82) X X X<|E X X (d := 82) X X X<|E X X (d := 82) X X X<|E X X (d := 82) X X X<|Y X X (zC (v := (.bool _)) X X)<|Y X X (zN X)<|E X X (d := 88) X X X<|E X X (d := 88) X X X<|E X X (d := 88) X X X<|E X X (d := 88) X X X<|Y X X (zC (v := (.bool _)) X X)<|Y X X (zN X)<|E X X (d := 94) X X X<|E X X (d := 94) X X X<|E X X (d := 94) X X X<|E X X (d := 94) X X X<|E X X (d := 94) X X X<|E X X (d := 94) X X X<|Y X X (zC (v := (.bool _)) X X)<|Y X X (zJ X)<|U<|M<|zA<|zL<|zk<|zi Tryz.results103 ?_
       refine ⟨h41, _, rfl, st45.done, ?_⟩
       refine zw ?_
       simp_all [decisionB]
     ·
      replace c88 := of_decide_eq_false c88
      refine zz<|zI<|M<|zd<|O<|Y X X (zJ X)<|U<|M<|zA<|zi Tryz.results103 ?_
      refine ⟨h41, _, rfl, st45.done, ?_⟩
      refine zw ?_
      simp_all [decisionB]
set_option maxRecDepth 4000 in
theorem c_postilref04_Lexicon {h : Heap} {w : World} (hs : Sub h w) {t : Text} {t_v0 : Value} (t_f0 : Sl LChapter h t_v0 t.chapters) {x : Lexicon} {x_v0 : Value} (x_f0 : Sl LRule h x_v0 x.rules) {x_v1 : Value} (x_f1 : Sl LDecision h x_v1 x.decisions) : Calls Tryz.prog 55 #[.agg #[t_v0], .agg #[x_v0, x_v1]] w (Rets h w (fun _ _ res_ => res_ = .bool (lexiconB t x))) := by
 refine zM (n := 65) (args := [.agg #[t_v0], .agg #[x_v0, x_v1]]) Tryz.func55 X X X ?_
 have st0 : St h w h w [] := St.start hs
 have t_f0_b := t_f0.le
 have x_f0_b := x_f0.le
 have x_f1_b := x_f1.le
 refine zd<|O<|zr st0 (cs := [t_v0]) X X X ?_
 intro b1 w2 h3 le4 hc5 st6
 refine zr st6 (cs := [x_v0, x_v1]) X X X ?_
 intro b7 w8 h9 le10 hc11 st12
 refine Y X X (zJ X)<|U<|M<|zd<|zd<|O<|Y X X (zc X Tryz.underlying28 X Tryz.sizeOf25 X)<|Y X X (zb (j := 0) st12.sub hc11 X X X Tryz.isAgg25)<|Y X X (zag (x_f0.up (le4.trans le10)) X Tryz.underlying25)<|Y X X (r_gtr X X)<|Y X X (zN X) ?_
 refine zG (d := 12) rfl (fun g13 => ?_) (fun g13 => ?_)
 ·
  replace g13 := of_decide_eq_true g13
  refine E X X (d := 12) X X X<|E X X (d := 12) X X X<|E X X (d := 12) X X X<|E X X (d := 12) X X X<|Y X X (zK (v := (.bool _)) X X)<|U<|M ?_
  refine zt rfl (fun c14 => ?_) (fun c14 => ?_)
  ·
   refine zd<|O<|Y X X (zJ X)<|U<|M<|zA<|zk<|zi Tryz.results55 ?_
   refine ⟨h9, _, rfl, st12.done, ?_⟩
   refine zw ?_
   have q := g13
   simp [lexiconB]
   intros
   omega
  ·
   cases c14
 ·
  replace g13 := of_decide_eq_false g13
  refine za X X (d := 12) X<|Y X X (zc X Tryz.underlying28 X Tryz.sizeOf26 X)<|za X X (d := 12) X<|Y X X (zb (j := 1) st12.sub hc11 X X X Tryz.isAgg26)<|za X X (d := 12) X<|Y X X (zag (x_f1.up (le4.trans le10)) X Tryz.underlying26)<|za X X (d := 12) X<|Y X X (r_gtr X X)<|Y X X (zC (v := (.bool _)) X X)<|U<|M ?_
  refine zt rfl (fun c15 => ?_) (fun c15 => ?_)
  ·
   replace c15 := of_decide_eq_true c15
   refine zd<|O<|Y X X (zJ X)<|U<|M<|zA<|zk<|zi Tryz.results55 ?_
   refine ⟨h9, _, rfl, st12.done, ?_⟩
   refine zw ?_
   have q := c15
   simp [lexiconB]
   intros
   omega
  ·
   replace c15 := of_decide_eq_false c15
   refine zz<|M<|zd<|zd<|O<|Y X X (zx X)<|U<|M<|zF ?_
   refine zX [4, 5, 18, 19, 20, 21, 22, 23, 24, 25, 26, 27, 28, 29, 30, 31] (G := Nat × Heap) (fun ⟨i, h16⟩ => [(5, .int .i64 (i : Int))]) (fun ⟨i, h16⟩ w' => Le h9 h16 ∧ St h w h16 w' [] ∧ (i ≤ x.rules.length) ∧ ((x.rules.take i).all ruleB = true)) (fun ⟨i, h16⟩ => x.rules.length - i) ⟨0, h9⟩ ⟨rfl, trivial⟩ ⟨Le.refl _, st12, zak, zak⟩ ?_
   rintro ⟨i, h16⟩ _ w19 ⟨le17, st18, hi, hR⟩
   refine zd<|zd<|O<|Y X X (zo X)<|Y X X (zc X Tryz.underlying28 X Tryz.sizeOf25 X)<|Y X X (zb (j := 0) st18.sub (hc11.up le17) X X X Tryz.isAgg25)<|Y X X (zag (x_f0.up ((le4.trans le10).trans le17)) X Tryz.underlying25)<|Y X X (zal X X)<|U<|M ?_
   refine zt rfl (fun c20 => ?_) (fun c20 => ?_)
   ·
    replace c20 := of_decide_eq_true c20
    refine zz<|M<|zd<|zF<|zd<|O<|Y X X (zc X Tryz.underlying28 X Tryz.sizeOf25 X)<|Y X X (zb (j := 0) st18.sub (hc11.up le17) X X X Tryz.isAgg25)<|Y X X (zo X) ?_
    have hr : ∃ y_, (x.rules)[i]? = some y_ := ⟨_, List.getElem?_eq_getElem (by omega)⟩
    obtain ⟨r, hr⟩ := hr
    obtain ⟨b21, o22, _, he24, hc23, hr_r⟩ := Sl.elem (x_f0.up ((le4.trans le10).trans le17)) hr
    obtain ⟨rfl, ls25, ls26⟩ := hr_r
    simp only [big] at ls25
    simp only [big] at ls26
    refine Y X X (zp he24 X X (hk := X) (hu := Tryz.underlying25) (hz := Tryz.sizeOf70))<|Y X X (zf st18.sub hc23 X Tryz.isAgg70 Tryz.sizeOf70 X)<|zm st18 X X X Tryz.call102 X (c_postilref04_Rule st18.sub (r := r) zZ zZ) ?_
    intro r27 w28 h29 le30 st31 q32
    obtain rfl := q32
    refine Y X X (r_not X)<|U<|M ?_
    refine zt rfl (fun c33 => ?_) (fun c33 => ?_)
    ·
     refine zd<|O<|Y X X (zJ X)<|U<|M<|zA<|zL<|zk<|zk<|zL<|zk<|zi Tryz.results55 ?_
     refine ⟨h29, _, rfl, st31.done, ?_⟩
     refine zw ?_
     have q := not_all (p := ruleB) hr (by simpa using c33)
     simp [lexiconB, q]
    ·
     refine zz<|zI<|M<|O<|Y X X (zo X)<|Y X X (zah X X t_om)<|Y X X (zx X)<|U<|M ?_
     refine ⟨⟨i + 1, h29⟩, ⟨rfl, trivial⟩, ?_, ⟨(le17.trans le30), st31, ?_, ?_⟩, ?_⟩
     ·exact zae
     ·first | omega | (simp; omega)
     ·exact all_take_succ hR hr (by simpa using c33)
     ·show x.rules.length - ((i + 1)) < x.rules.length - i
      omega
   ·
    replace c20 := of_decide_eq_false c20
    refine zab<|zn<|zn<|zT<|M<|zd<|zd<|O<|Y X X (zx X)<|U<|M<|zF ?_
    refine zX [4, 6, 7, 32, 33, 34, 35, 36, 37, 38, 39, 40, 41, 42, 43, 44, 45, 46, 47, 48, 49, 50, 51, 52, 53, 54, 55, 56, 57, 58, 59, 60, 61, 62, 63, 64] (G := Nat × Heap) (fun ⟨i, h34⟩ => [(6, .int .i64 (i : Int))]) (fun ⟨i, h34⟩ w' => Le h16 h34 ∧ St h w h34 w' [] ∧ (i ≤ x.decisions.length) ∧ ((x.decisions.take i).all (decisionB t) = true) ∧ (((x.decisions.take i).map (·.number)).Nodup)) (fun ⟨i, h34⟩ => x.decisions.length - i) ⟨0, h16⟩ ⟨rfl, trivial⟩ ⟨Le.refl _, st18, zak, zak, zak⟩ ?_
    rintro ⟨i, h34⟩ _ w37 ⟨le35, st36, hi, hD, hN⟩
    refine zd<|zd<|O<|Y X X (zo X)<|Y X X (zc X Tryz.underlying28 X Tryz.sizeOf26 X)<|Y X X (zb (j := 1) st36.sub (hc11.up (le17.trans le35)) X X X Tryz.isAgg26)<|Y X X (zag (x_f1.up (((le4.trans le10).trans le17).trans le35)) X Tryz.underlying26)<|Y X X (zal X X)<|U<|M ?_
    refine zt rfl (fun c38 => ?_) (fun c38 => ?_)
    ·
     replace c38 := of_decide_eq_true c38
     refine zz<|M<|zd<|zF<|zd<|zd<|zai Tryz.mixed t_kr (Cls h34 _) (Cls.drew st36)<|ze X X (fun _ hC => (zf hC.sub (hc5.up ((le10.trans le17).trans le35)) X Tryz.isAgg24 Tryz.sizeOf24 X))<|ze X X (fun _ _ => (zc X Tryz.underlying28 X Tryz.sizeOf26 X))<|ze X X (fun _ hC => (zb (j := 1) hC.sub (hc11.up (le17.trans le35)) X X X Tryz.isAgg26))<|ze X X (fun _ _ => (zo X)) ?_
     have hd : ∃ y_, (x.decisions)[i]? = some y_ := ⟨_, List.getElem?_eq_getElem (by omega)⟩
     obtain ⟨d, hd⟩ := hd
     obtain ⟨b39, o40, _, he42, hc41, hr_d⟩ := Sl.elem (x_f1.up (((le4.trans le10).trans le17).trans le35)) hd
     obtain ⟨rfl, lu43, ls44, ls45, lu46⟩ := hr_d
     simp only [big] at ls44
     simp only [big] at ls45
     refine ze X X (fun _ _ => (zp he42 X X (hk := X) (hu := Tryz.underlying26) (hz := Tryz.sizeOf56)))<|ze X X (fun _ hC => (zf hC.sub hc41 X Tryz.isAgg56 Tryz.sizeOf56 X))<|OpsQ.calls X X (fun _ => zaj X Tryz.call103 X) (fun _ hC => Rets.quiet hC (c_postilref04_Decision hC.sub (t := t) (t_f0.up (((le4.trans le10).trans le17).trans le35)) (d := d) t_u8 zZ zZ t_u8))<|ze X X (fun _ _ => (r_not X))<|zac ?_
     rintro w47 ⟨h48, s49⟩
     have st50 := st36.call0 s49
     refine M ?_
     refine zt rfl (fun c51 => ?_) (fun c51 => ?_)
     ·
      refine zd<|O<|Y X X (zJ X)<|U<|M<|zA<|zk<|zL<|zk<|zk<|zL<|zk<|zi Tryz.results55 ?_
      refine ⟨h48, _, rfl, st50.done, ?_⟩
      refine zw ?_
      have q := not_all (p := decisionB t) hd (by simpa using c51)
      simp [lexiconB, q]
     ·
      refine zz<|M<|zd<|O<|Y X X (zx X)<|U<|M<|zF ?_
      refine zX [4, 7, 47, 48, 49, 50, 51, 52, 53, 54, 55, 56, 57, 58, 59, 60, 61, 62, 63, 64] (G := Nat × Heap) (fun ⟨k, h52⟩ => [(7, .int .i64 (k : Int))]) (fun ⟨k, h52⟩ w' => Le h48 h52 ∧ St h w h52 w' [] ∧ (k ≤ i) ∧ (∀ j c2, j < k → x.decisions[j]? = some c2 → c2.number ≠ d.number)) (fun ⟨k, h52⟩ => i - k) ⟨0, h48⟩ ⟨rfl, trivial⟩ ⟨Le.refl _, st50, zak, (by intro j _ hj; omega)⟩ ?_
      rintro ⟨k, h52⟩ _ w55 ⟨le53, st54, hk, hq⟩
      refine zd<|zd<|O<|Y X X (zo X)<|Y X X (zo X)<|Y X X (zal X X)<|U<|M ?_
      refine zt rfl (fun c56 => ?_) (fun c56 => ?_)
      ·
       replace c56 := of_decide_eq_true c56
       refine zz<|M<|zd<|zF<|zd<|zai Tryz.mixed t_kr (Cls h52 _) (Cls.drew st54)<|ze X X (fun _ _ => (zc X Tryz.underlying28 X Tryz.sizeOf26 X))<|ze X X (fun _ hC => (zb (j := 1) hC.sub (hc11.up (((le17.trans le35).trans s49.le).trans le53)) X X X Tryz.isAgg26))<|ze X X (fun _ _ => (zo X)) ?_
       have he : ∃ y_, (x.decisions)[k]? = some y_ := ⟨_, List.getElem?_eq_getElem (by omega)⟩
       obtain ⟨e, he⟩ := he
       obtain ⟨b57, o58, _, he60, hc59, hr_e⟩ := Sl.elem (x_f1.up (((((le4.trans le10).trans le17).trans le35).trans s49.le).trans le53)) he
       obtain ⟨rfl, lu61, ls62, ls63, lu64⟩ := hr_e
       simp only [big] at ls62
       simp only [big] at ls63
       refine ze X X (fun _ _ => (zp he60 X X (hk := X) (hu := Tryz.underlying26) (hz := Tryz.sizeOf56)))<|ze X X (fun _ _ => (zc X Tryz.underlying56 X Tryz.sizeOf3 X))<|ze X X (fun _ hC => (zb (j := 0) hC.sub hc59 X X X Tryz.isAgg3))<|ze X X (fun _ _ => (zc X Tryz.underlying28 X Tryz.sizeOf26 X))<|ze X X (fun _ hC => (zb (j := 1) hC.sub (hc11.up (((le17.trans le35).trans s49.le).trans le53)) X X X Tryz.isAgg26))<|ze X X (fun _ _ => (zo X))<|ze X X (fun _ _ => (zp he42 X X (hk := X) (hu := Tryz.underlying26) (hz := Tryz.sizeOf56)))<|ze X X (fun _ _ => (zc X Tryz.underlying56 X Tryz.sizeOf3 X))<|ze X X (fun _ hC => (zb (j := 0) hC.sub (hc41.up (s49.le.trans le53)) X X X Tryz.isAgg3))<|ze X X (fun _ _ => (r_eql X X))<|zac ?_
       rintro w65 ⟨h66, s67⟩
       have st68 := st54.call0 s67
       refine M ?_
       refine zt rfl (fun c69 => ?_) (fun c69 => ?_)
       ·
        replace c69 := of_decide_eq_true c69
        refine zd<|O<|Y X X (zJ X)<|U<|M<|zA<|zL<|zk<|zk<|zL<|zL<|zk<|zk<|zL<|zk<|zi Tryz.results55 ?_
        refine ⟨h66, _, rfl, st68.done, ?_⟩
        refine zw ?_
        have q := not_nodup (f := (·.number)) he hd (by omega) (by assumption)
        simp [lexiconB, q]
       ·
        replace c69 := of_decide_eq_false c69
        refine zz<|zI<|M<|O<|Y X X (zo X)<|Y X X (zah X X t_om)<|Y X X (zx X)<|U<|M ?_
        refine ⟨⟨k + 1, h66⟩, ⟨rfl, trivial⟩, ?_, ⟨(le53.trans s67.le), st68, ?_, ?_⟩, ?_⟩
        ·exact zae
        ·first | omega | (simp; omega)
        ·intro j c2 h1 h2
         rcases Nat.lt_or_ge j k with h3 | h3
         ·exact hq j c2 h3 h2
         ·obtain rfl : j = k := by omega
          rw [h2] at he; cases he; assumption
        ·show i - ((k + 1)) < i - k
         omega
      ·
       replace c56 := of_decide_eq_false c56
       refine zab<|zn<|zn<|zT<|zI<|M<|O<|Y X X (zo X)<|Y X X (zah X X t_om)<|Y X X (zx X)<|U<|M ?_
       have HD : decisionB t d = true := by simpa using c51
       refine ⟨⟨i + 1, h52⟩, ⟨rfl, trivial⟩, ?_, ⟨((le35.trans s49.le).trans le53), st54, ?_, ?_, ?_⟩, ?_⟩
       ·exact zae
       ·first | omega | (simp; omega)
       ·exact all_take_succ hD hd HD
       ·exact nodup_take_succ hN hd (by omega) (fun j c2 h1 h2 => hq j c2 (by omega) h2)
       ·show x.decisions.length - ((i + 1)) < x.decisions.length - i
        omega
    ·
     replace c38 := of_decide_eq_false c38
     refine zab<|zn<|zn<|zT<|M<|zd<|O<|Y X X (zJ X)<|U<|M<|zA<|zi Tryz.results55 ?_
     refine ⟨h34, _, rfl, st36.done, ?_⟩
     refine zw ?_
     have q1 := all_of_take hR (by omega)
     have q2 := all_of_take hD (by omega)
     have q3 : x.decisions.take i = x.decisions := List.take_of_length_le (by omega)
     rw [q3] at hN
     simp [lexiconB, q1, q2, hN]
     omega
set_option maxRecDepth 4000 in
theorem zam {h : Heap} {w : World} (hs : Sub h w) {t : Text} {t_v0 : Value} (t_f0 : Sl LChapter h t_v0 t.chapters) {x : Lexicon} {x_v0 : Value} (x_f0 : Sl LRule h x_v0 x.rules) {x_v1 : Value} (x_f1 : Sl LDecision h x_v1 x.decisions) : Calls Tryz.prog 15 #[.agg #[t_v0], .agg #[x_v0, x_v1]] w (Rets h w (fun _ _ res_ => res_ = .int .i64 (checkN t x))) := by
 refine zM (n := 15) (args := [.agg #[t_v0], .agg #[x_v0, x_v1]]) Tryz.func15 X X X ?_
 have st0 : St h w h w [] := St.start hs
 have t_f0_b := t_f0.le
 have x_f0_b := x_f0.le
 have x_f1_b := x_f1.le
 refine zd<|O<|zr st0 (cs := [t_v0]) X X X ?_
 intro b1 w2 h3 le4 hc5 st6
 refine zr st6 (cs := [x_v0, x_v1]) X X X ?_
 intro b7 w8 h9 le10 hc11 st12
 refine Y X X (zx X)<|U<|M<|zd<|zd<|O<|Y X X (zf st12.sub (hc5.up le10) X Tryz.isAgg24 Tryz.sizeOf24 X)<|zm st12 X X X Tryz.call54 X (c_postilref01_Check st12.sub (t := t) (t_f0.up (le4.trans le10))) ?_
 intro r13 w14 h15 le16 st17 q18
 obtain rfl := q18
 refine Y X X (zx X)<|U<|M<|zd<|O<|Y X X (zo X)<|Y X X (r_neq X X)<|U<|M ?_
 refine zt rfl (fun c19 => ?_) (fun c19 => ?_)
 ·
  replace c19 := of_decide_eq_true c19
  refine zd<|O<|Y X X (zo X)<|Y X X (zx X)<|U<|M<|zA<|zk<|zi Tryz.results15 ?_
  refine ⟨h15, _, rfl, st17.done, ?_⟩
  refine zW ?_
  simp_all [checkN]
 ·
  replace c19 := of_decide_eq_false c19
  refine zz<|M<|zd<|zd<|O<|Y X X (zf st17.sub (hc5.up (le10.trans le16)) X Tryz.isAgg24 Tryz.sizeOf24 X)<|Y X X (zf st17.sub (hc11.up le16) X Tryz.isAgg28 Tryz.sizeOf28 X)<|zm st17 X X X Tryz.call55 X (c_postilref04_Lexicon st17.sub (t := t) (t_f0.up ((le4.trans le10).trans le16)) (x := x) (x_f0.up ((le4.trans le10).trans le16)) (x_f1.up ((le4.trans le10).trans le16))) ?_
  intro r20 w21 h22 le23 st24 q25
  obtain rfl := q25
  refine Y X X (r_not X)<|U<|M ?_
  refine zt rfl (fun c26 => ?_) (fun c26 => ?_)
  ·
   refine zd<|O<|Y X X (zx X)<|U<|M<|zA<|zk<|zi Tryz.results15 ?_
   refine ⟨h22, _, rfl, st24.done, ?_⟩
   refine zW ?_
   simp_all [checkN]
  ·
   refine zz<|M<|zd<|O<|Y X X (zx X)<|U<|M<|zA<|zi Tryz.results15 ?_
   refine ⟨h22, _, rfl, st24.done, ?_⟩
   refine zW ?_
   simp_all [checkN]
end Go.Pk

namespace Go.Pk
open Go Go.RowKit Go.Proofs
set_option maxRecDepth 4000 in
theorem c_postilref04_Made {h : Heap} {w : World} (hs : Sub h w) {r : Rule} (r_l1 : r.cut.length ≤ 281474976710656) (r_l2 : r.put.length ≤ 281474976710656) (word : Str) (word_le : word.length ≤ 281474976710656) (hr1 : 1 ≤ r.least) : Calls Tryz.prog 85 #[.agg #[strV r.cut, strV r.put, .int .i64 r.least], strV word] w (Rets h w (fun _ _ res_ => res_ = .tuple #[strV ((made r word).getD []), .bool ((made r word).isSome)])) := by
 refine zM (n := 39) (args := [.agg #[strV r.cut, strV r.put, .int .i64 r.least], strV word]) Tryz.func85 X X X ?_
 have st0 : St h w h w [] := St.start hs
 refine zd<|O<|zr st0 (cs := [strV (r.cut), strV (r.put), .int .i64 (r.least)]) X X X ?_
 intro b1 w2 h3 le4 hc5 st6
 refine Y X X (r_asS X)<|Y X X (zJ X)<|U<|M<|zd<|O<|Y X X (r_mvS X)<|Y X X (zar X Tryz.underlying9)<|Y X X (zc X Tryz.underlying70 X Tryz.sizeOf9 X)<|Y X X (zb (j := 0) st6.sub hc5 X X X Tryz.isAgg9)<|Y X X (zar X Tryz.underlying9)<|Y X X (r_sub X X t_om)<|Y X X (zx X)<|U<|M<|zd<|zd<|zai Tryz.mixed t_kr (Cls h3 _) (Cls.drew st6)<|ze X X (fun _ _ => (zo X))<|ze X X (fun _ _ => (zc X Tryz.underlying70 X Tryz.sizeOf3 X))<|ze X X (fun _ hC => (zb (j := 2) hC.sub hc5 X X X Tryz.isAgg3))<|ze X X (fun _ _ => (zal X X))<|ze X X (fun _ _ => (zN X)) ?_
 refine OpsQ.split (d := 17) rfl (fun g7 => ?_) (fun g7 => ?_)
 ·
  replace g7 := of_decide_eq_true g7
  refine zj X X (d := 17) X X X<|zj X X (d := 17) X X X<|zj X X (d := 17) X X X<|zj X X (d := 17) X X X<|zj X X (d := 17) X X X<|zj X X (d := 17) X X X<|ze X X (fun _ _ => (zK (v := (.bool _)) X X))<|ze X X (fun _ _ => (zN X))<|zj X X (d := 25) X X X<|zj X X (d := 25) X X X<|zj X X (d := 25) X X X<|zj X X (d := 25) X X X<|zj X X (d := 25) X X X<|zj X X (d := 25) X X X<|ze X X (fun _ _ => (zK (v := (.bool _)) X X))<|zac ?_
  rintro w8 ⟨h9, s10⟩
  have st11 := st6.call0 s10
  refine M ?_
  refine zt rfl (fun c12 => ?_) (fun c12 => ?_)
  ·
   refine zd<|O<|Y X X (r_asS X)<|Y X X (zJ X)<|U<|M<|zA<|zk<|zS Tryz.results85 ?_
   have q : made r word = none := by
    unfold made
    rw [if_neg]
    rintro ⟨q1, q2, q3, q4⟩
    first | omega | exact absurd q3 (by assumption)
   refine ⟨h9, _, rfl, st11.done, ?_⟩
   refine tup2 (str_eq ?_) (zw ?_)
   all_goals simp [q]
  ·
   cases c12
 ·
  replace g7 := of_decide_eq_false g7
  refine zq X X (d := 17) X<|ze X X (fun _ _ => (r_mvS X))<|zq X X (d := 17) X<|ze X X (fun _ _ => (zo X))<|zq X X (d := 17) X ?_
  refine ze rfl rfl (fun _ _ => (r_slice_from rfl rfl (hk := (show _ = ((word.length - r.cut.length : Nat) : Int) by omega)) (hle := by omega) (hu := Tryz.underlying9))) ?_
  refine zq X X (d := 17) X<|ze X X (fun _ _ => (zc X Tryz.underlying70 X Tryz.sizeOf9 X))<|zq X X (d := 17) X<|ze X X (fun _ hC => (zb (j := 0) hC.sub hc5 X X X Tryz.isAgg9))<|zq X X (d := 17) X<|ze X X (fun _ _ => (r_sneq X X))<|ze X X (fun _ _ => (zC (v := (.bool _)) X X))<|ze X X (fun _ _ => (zN X)) ?_
  refine OpsQ.split (d := 25) rfl (fun g13 => ?_) (fun g13 => ?_)
  ·
   replace g13 := of_decide_eq_true g13
   refine zj X X (d := 25) X X X<|zj X X (d := 25) X X X<|zj X X (d := 25) X X X<|zj X X (d := 25) X X X<|zj X X (d := 25) X X X<|zj X X (d := 25) X X X<|ze X X (fun _ _ => (zK (v := (.bool _)) X X))<|zac ?_
   rintro w14 ⟨h15, s16⟩
   have st17 := st6.call0 s16
   refine M ?_
   refine zt rfl (fun c18 => ?_) (fun c18 => ?_)
   ·
    refine zd<|O<|Y X X (r_asS X)<|Y X X (zJ X)<|U<|M<|zA<|zk<|zS Tryz.results85 ?_
    have q : made r word = none := by
     unfold made
     rw [if_neg]
     rintro ⟨q1, q2, q3, q4⟩
     first | omega | exact absurd q3 (by assumption)
    refine ⟨h15, _, rfl, st17.done, ?_⟩
    refine tup2 (str_eq ?_) (zw ?_)
    all_goals simp [q]
   ·
    cases c18
  ·
   replace g13 := of_decide_eq_false g13
   refine zq X X (d := 25) X<|ze X X (fun _ _ => (zo X))<|zq X X (d := 25) X<|ze X X (fun _ _ => (zc X Tryz.underlying70 X Tryz.sizeOf9 X))<|zq X X (d := 25) X<|ze X X (fun _ hC => (zb (j := 1) hC.sub hc5 X X X Tryz.isAgg9))<|zq X X (d := 25) X<|ze X X (fun _ _ => (zar X Tryz.underlying9))<|zq X X (d := 25) X<|ze X X (fun _ _ => (zah X X t_om))<|zq X X (d := 25) X<|ze X X (fun _ _ => (r_gtr X X))<|ze X X (fun _ _ => (zC (v := (.bool _)) X X))<|zac ?_
   rintro w19 ⟨h20, s21⟩
   have st22 := st6.call0 s21
   refine M ?_
   refine zt rfl (fun c23 => ?_) (fun c23 => ?_)
   ·
    replace c23 := of_decide_eq_true c23
    refine zd<|O<|Y X X (r_asS X)<|Y X X (zJ X)<|U<|M<|zA<|zk<|zS Tryz.results85 ?_
    have q : made r word = none := by
     unfold made
     rw [if_neg]
     rintro ⟨q1, q2, q3, q4⟩
     first | omega | exact absurd q3 (by assumption)
    refine ⟨h20, _, rfl, st22.done, ?_⟩
    refine tup2 (str_eq ?_) (zw ?_)
    all_goals simp [q]
   ·
    replace c23 := of_decide_eq_false c23
    refine zz<|M<|zd<|zai Tryz.mixed t_kr (Cls h20 _) (Cls.drew st22)<|ze X X (fun _ _ => (r_mvS X))<|ze X X (fun _ _ => (zo X)) ?_
    refine ze rfl rfl (fun _ _ => (r_slice_to rfl rfl (hk := (show _ = ((word.length - r.cut.length : Nat) : Int) by omega)) (hle := by omega) (hu := Tryz.underlying9))) ?_
    refine ze X X (fun _ _ => (zc X Tryz.underlying70 X Tryz.sizeOf9 X))<|ze X X (fun _ hC => (zb (j := 1) hC.sub (hc5.up s21.le) X X X Tryz.isAgg9))<|ze X X (fun _ _ => (r_sadd X X t_om))<|ze X X (fun _ _ => (r_asS X))<|ze X X (fun _ _ => (zJ X))<|zac ?_
    rintro w24 ⟨h25, s26⟩
    have st27 := st22.call0 s26
    refine M<|zA<|zS Tryz.results85 ?_
    have q : made r word = some (word.take (word.length - r.cut.length) ++ r.put) := by
     unfold made
     rw [if_pos ⟨by omega, by omega, by simpa using g13, by omega⟩]
    refine ⟨h25, _, rfl, st27.done, ?_⟩
    refine tup2 (str_eq ?_) (zw ?_)
    all_goals simp [q]
set_option maxRecDepth 4000 in
theorem c_postilref04_steps {h : Heap} {w : World} (hs : Sub h w) {x : Lexicon} {x_v0 : Value} (x_f0 : Sl LRule h x_v0 x.rules) {x_v1 : Value} (x_f1 : Sl LDecision h x_v1 x.decisions) (word : Str) (word_le : word.length ≤ 281474976710656) (hx : ∀ r ∈ x.rules, 1 ≤ r.least) (hw : word.length ≤ 12) : Calls Tryz.prog 44 #[.agg #[x_v0, x_v1], strV word] w (Rets h w (fun h' _ res_ => ∃ u0, res_ = u0 ∧ Sl LStr h' u0 (stepsN x.rules 4 word))) := by
 refine zM (n := 49) (args := [.agg #[x_v0, x_v1], strV word]) Tryz.func44 X X X ?_
 have st0 : St h w h w [] := St.start hs
 have x_f0_b := x_f0.le
 have x_f1_b := x_f1.le
 refine zd<|O<|zr st0 (cs := [x_v0, x_v1]) X X X ?_
 intro b1 w2 h3 le4 hc5 st6
 refine Y X X (r_asL X)<|U<|M<|zd<|O<|Y X X (r_mvS X)<|OpsL.sliceO (L := LStr) (xs := [word]) (cs := [strV word]) st6 (Enc.cons (L := LStr) (vs := [strV word]) (x := word) (h := h3) (⟨rfl, zZ⟩) Enc.nil) X X X Tryz.underlying33 Tryz.info9 X X X X t_kr ?_
 intro v7 o11 w8 f9 st10
 refine Y X X (zD (v := v7) X)<|U<|M<|zd<|zd<|O<|Y X X (zx X)<|U<|M<|zF ?_
 refine zX [5, 6, 7, 8, 9, 10, 13, 14, 15, 16, 17, 18, 19, 20, 21, 22, 23, 24, 25, 26, 27, 28, 29, 30, 31, 32, 33, 34, 35, 36, 37, 38, 39, 40, 41, 42, 43, 44, 45, 46, 47] (G := Nat × List Str × Str × Value × List (Nat × Obj) × Heap) (fun ⟨turn, ini, la, v_5, o_5, h12⟩ => [(5, v_5), (6, .int .i64 (turn : Int))]) (fun ⟨turn, ini, la, v_5, o_5, h12⟩ w' => Le h3 h12 ∧ St h w h12 w' [o_5] ∧ (OSl LStr 9 h12 v_5 (ini ++ [la]) o_5) ∧ (turn ≤ 4) ∧ (ini.length = turn) ∧ (la.length ≤ 12) ∧ (stepsN x.rules 4 word = ini ++ stepsN x.rules (4 - turn) la)) (fun ⟨turn, ini, la, v_5, o_5, h12⟩ => 4 - turn) ⟨0, [], word, v7, o11, h3⟩ ⟨rfl, rfl, trivial⟩ ⟨Le.refl _, st10, (OSl.to f9 (by rfl)), zak, zak, zak, (by rfl)⟩ ?_
 rintro ⟨turn, ini, la, v_5, o_5, h12⟩ _ w15 ⟨le13, st14, hO_5, ht, hn, hla, hq⟩
 refine zd<|zd<|O<|Y X X (zo X)<|Y X X (zal X X)<|U<|M ?_
 refine zt rfl (fun c16 => ?_) (fun c16 => ?_)
 ·
  replace c16 := of_decide_eq_true c16
  refine zz<|M<|zd<|zF<|zd<|O<|Y X X (r_asS X)<|U<|M<|zd<|zd<|O<|Y X X (zc X Tryz.underlying28 X Tryz.sizeOf25 X)<|Y X X (zb (j := 0) st14.sub (hc5.up le13) X X X Tryz.isAgg25)<|Y X X (zag (x_f0.up (le4.trans le13)) X Tryz.underlying25)<|Y X X (r_sub X X t_om)<|Y X X (zx X)<|U<|M<|zF ?_
  refine zX [5, 7, 8, 9, 10, 21, 22, 23, 24, 25, 26, 27, 28, 29, 30, 31, 32, 33, 34, 35, 36, 37, 38, 39, 40, 41] (G := Nat × Str × Value × List (Nat × Obj) × Heap) (fun ⟨m, nx, v_5, o_5, h17⟩ => [(5, v_5), (7, strV nx), (8, .int .i64 ((m : Int) - 1))]) (fun ⟨m, nx, v_5, o_5, h17⟩ w' => Le h12 h17 ∧ St h w h17 w' [o_5] ∧ (OSl LStr 9 h17 v_5 (ini ++ [la]) o_5) ∧ (m ≤ x.rules.length) ∧ (nx.length ≤ 12) ∧ (nx = (stepOf (x.rules.drop m) la).getD [])) (fun ⟨m, nx, v_5, o_5, h17⟩ => m) ⟨x.rules.length, [], v_5, o_5, h12⟩ ⟨rfl, rfl, rfl, trivial⟩ ⟨Le.refl _, st14, (OSl.to hO_5 (by rfl)), zak, zak, (by simp [stepOf])⟩ ?_
  rintro ⟨m, nx, v_5, o_5, h17⟩ _ w20 ⟨le18, st19, hO_5, hm, hl, hnx⟩
  refine zd<|zd<|O<|Y X X (zo X)<|Y X X (r_geq X X)<|U<|M ?_
  refine zt rfl (fun c21 => ?_) (fun c21 => ?_)
  ·
   replace c21 := of_decide_eq_true c21
   refine zz<|M<|zd<|zF<|zd<|zai Tryz.mixed t_kr (Cls h17 _) (Cls.drew st19)<|ze X X (fun _ _ => (zc X Tryz.underlying28 X Tryz.sizeOf25 X))<|ze X X (fun _ hC => (zb (j := 0) hC.sub (hc5.up (le13.trans le18)) X X X Tryz.isAgg25))<|ze X X (fun _ _ => (zo X)) ?_
   have hr : ∃ y_, (x.rules)[m - 1]? = some y_ := ⟨_, List.getElem?_eq_getElem (by omega)⟩
   obtain ⟨r, hr⟩ := hr
   obtain ⟨b22, o23, _, he25, hc24, hr_r⟩ := Sl.elem (x_f0.up ((le4.trans le13).trans le18)) hr
   obtain ⟨rfl, ls26, ls27⟩ := hr_r
   simp only [big] at ls26
   simp only [big] at ls27
   refine ze rfl rfl (fun _ _ => (zp he25 rfl rfl (hk := (show _ = ((m - 1 : Nat) : Int) by omega)) (hu := Tryz.underlying25) (hz := Tryz.sizeOf70))) ?_
   refine ze X X (fun _ hC => (zf hC.sub hc24 X Tryz.isAgg70 Tryz.sizeOf70 X))<|ze X X (fun _ _ => (zy (v := v_5) X))<|ze X X (fun _ _ => (zy (v := v_5) X))<|ze X X (fun _ _ => (r_len_own hO_5 X Tryz.underlying33))<|ze X X (fun _ _ => (r_sub X X t_om)) ?_
   have hla0 : ∃ y_, (ini ++ [la])[(ini ++ [la]).length - 1]? = some y_ := ⟨_, List.getElem?_eq_getElem (by simp)⟩
   obtain ⟨la0, hla0⟩ := hla0
   obtain ⟨b28, o29, cur30, _, e33, he31, hr_la0, hc32⟩ := OSl.elem hO_5 hla0
   subst e33
   obtain ⟨rfl, ls34⟩ := hr_la0
   simp only [big] at ls34
   refine ze rfl rfl (fun _ _ => (zp he31 rfl rfl (hk := (show _ = (((ini ++ [la]).length - 1 : Nat) : Int) by simp)) (hu := Tryz.underlying33) (hz := Tryz.sizeOf9))) ?_
   refine ze X X (fun _ hC => (r_load_cur1 (j := 0) (hC.block (st19.get (k := 0) X)) hc32 X X X Tryz.isAgg9)) ?_
   refine OpsQ.calls rfl rfl (fun _ => zaj rfl Tryz.call85 rfl) (fun _ hC => Rets.quiet hC (c_postilref04_Made hC.sub (r := r) zZ zZ _ zZ (by exact hx r (List.mem_of_getElem? hr)))) ?_
   refine ze X X (fun _ _ => (r_mvT X))<|ze X X (fun _ _ => (zH (v := (strV _)) X X))<|ze X X (fun _ _ => (zH (v := (.bool _)) X X))<|ze X X (fun _ _ => (r_asS X))<|ze X X (fun _ _ => (zJ X))<|zac ?_
   rintro w35 ⟨h36, s37⟩
   have st38 := st19.call0 s37
   refine M<|zd<|O<|Y X X (zN X)<|U<|M ?_
   refine zt rfl (fun c39 => ?_) (fun c39 => ?_)
   ·
    refine O<|Y X X (r_mvS X)<|Y X X (r_asS X)<|U<|zI<|M<|O<|Y X X (zo X)<|Y X X (r_sub X X t_om)<|Y X X (zx X)<|U<|M ?_
    have hE : la0 = la := by simpa using hla0.symm
    have hD := drop_cons hr
    rw [show m - 1 + 1 = m by omega] at hD
    have hC := c39
    refine ⟨⟨m - 1, (made r la0).getD [], v_5, [(b28, .cells cur30 9)], h36⟩, ⟨rfl, rfl, ?_, trivial⟩, ?_, ⟨(le18.trans s37.le), st38, ?_, ?_, ?_, ?_⟩, ?_⟩
    ·exact zW (by omega)
    ·exact zae
    ·refine OSl.to (hO_5.up s37.le) ?_
     rfl
    ·first | omega | (simp; omega)
    ·cases e : made r la0 with
     | none => simp
     | some q => simpa using made_len e
    ·rw [hD, stepOf_cons, ← hE]; cases e : made r la0 with
     | none => simp [e] at hC
     | some q => simp
    ·show ((m - 1)) < m
     omega
   ·
    refine zz<|zI<|M<|O<|Y X X (zo X)<|Y X X (r_sub X X t_om)<|Y X X (zx X)<|U<|M ?_
    have hE : la0 = la := by simpa using hla0.symm
    have hD := drop_cons hr
    rw [show m - 1 + 1 = m by omega] at hD
    have hC := c39
    refine ⟨⟨m - 1, nx, v_5, [(b28, .cells cur30 9)], h36⟩, ⟨rfl, rfl, ?_, trivial⟩, ?_, ⟨(le18.trans s37.le), st38, ?_, ?_, ?_, ?_⟩, ?_⟩
    ·exact zW (by omega)
    ·exact zae
    ·refine OSl.to (hO_5.up s37.le) ?_
     rfl
    ·first | omega | (simp; omega)
    ·first | omega | (simp; omega)
    ·rw [hD, stepOf_cons, ← hE]; cases e : made r la0 with
     | none => simpa [hE] using hnx
     | some q => simp [e] at hC
    ·show ((m - 1)) < m
     omega
  ·
   replace c21 := of_decide_eq_false c21
   refine zab<|zn<|zn<|zT<|M<|zd<|zd<|O<|Y X X (r_mvS X)<|Y X X (r_seql X X)<|U<|M ?_
   refine zt rfl (fun c40 => ?_) (fun c40 => ?_)
   ·
    replace c40 := of_decide_eq_true c40
    refine zab<|zn<|Blk.miss X<|zn<|zn<|zT<|M<|zd<|O<|Y X X (zy (v := v_5) X)<|Y X X (zD (v := v_5) X)<|U<|M<|zA<|zi Tryz.results44 ?_
    obtain ⟨h41, le42, f43, st44⟩ := OSl.freeze (k := 0) st19 hO_5 rfl t_om
    refine ⟨h41, _, rfl, st44.done, ?_⟩
    refine ⟨_, rfl, Sl.to f43 ?_⟩
    have hm0 : m = 0 := by omega
    subst hm0
    have hs0 : stepOf x.rules la = none := by
     cases e : stepOf x.rules la with
     | none => rfl
     | some q => simp [e] at hnx; exact absurd (hnx.symm.trans c40) (stepOf_pos hx e)
    rw [hq, stepsN_none hs0]
   ·
    replace c40 := of_decide_eq_false c40
    refine zz<|M<|O<|Y X X (zy (v := v_5) X)<|Y X X (r_mvS X)<|zV (L := LStr) (xs := [nx]) (cs := [strV nx]) st19 (Enc.cons (L := LStr) (vs := [strV nx]) (x := nx) (h := h17) (⟨rfl, zZ⟩) Enc.nil) X X X Tryz.underlying33 Tryz.info9 X X X t_kr ?_
    intro v45 w46 h49 le50 f47 st48
    refine zP (k := 0) (nb := 16) st48 (hO_5.up le50) rfl f47 rfl rfl rfl Tryz.underlying33 Tryz.info9 rfl rfl rfl (by decide) rfl t_om t_om ?_
    intro v51 o52 w53 _ e54 f55 st56
    subst e54
    refine Y X X (zD (v := v51) X)<|U<|zI<|M<|O<|Y X X (zo X)<|Y X X (zah X X t_om)<|Y X X (zx X)<|U<|M ?_
    have HS : stepOf x.rules la = some nx := by
     have hm0 : m = 0 := by omega
     subst hm0
     cases e : stepOf x.rules la with
     | none => simp [e] at hnx; exact absurd hnx c40
     | some q => simp [e] at hnx; rw [hnx]
    refine ⟨⟨turn + 1, ini ++ [la], nx, v51, o52, h49⟩, ⟨rfl, rfl, trivial⟩, ?_, ⟨((le13.trans le18).trans le50), st56, ?_, ?_, ?_, ?_, ?_⟩, ?_⟩
    ·exact zae
    ·refine OSl.to f55 ?_
     rfl
    ·first | omega | (simp; omega)
    ·first | omega | (simp; omega)
    ·first | omega | (simp; omega)
    ·rw [hq, stepsN_some (show 4 - turn = (4 - (turn + 1)) + 1 by omega) HS]; simp
    ·show 4 - ((turn + 1)) < 4 - turn
     omega
 ·
  replace c16 := of_decide_eq_false c16
  refine zab<|zn<|zn<|zT<|M<|zd<|O<|Y X X (zy (v := v_5) X)<|Y X X (zD (v := v_5) X)<|U<|M<|zA<|zi Tryz.results44 ?_
  obtain ⟨h57, le58, f59, st60⟩ := OSl.freeze (k := 0) st14 hO_5 rfl t_om
  refine ⟨h57, _, rfl, st60.done, ?_⟩
  refine ⟨_, rfl, Sl.to f59 ?_⟩
  rw [hq, show 4 - turn = 0 by omega]
  rfl
set_option maxRecDepth 4000 in
theorem c_postilref04_Steps {h : Heap} {w : World} (hs : Sub h w) {t : Text} {t_v0 : Value} (t_f0 : Sl LChapter h t_v0 t.chapters) {x : Lexicon} {x_v0 : Value} (x_f0 : Sl LRule h x_v0 x.rules) {x_v1 : Value} (x_f1 : Sl LDecision h x_v1 x.decisions) (word : Str) (word_le : word.length ≤ 281474976710656) : Calls Tryz.prog 11 #[.agg #[t_v0], .agg #[x_v0, x_v1], strV word] w (Rets h w (fun h' _ res_ => ∃ u0, res_ = .tuple #[u0, .int .i64 (stepsE t x word)] ∧ Sl LStr h' u0 (stepsR t x word))) := by
 refine zM (n := 21) (args := [.agg #[t_v0], .agg #[x_v0, x_v1], strV word]) Tryz.func11 X X X ?_
 have st0 : St h w h w [] := St.start hs
 have t_f0_b := t_f0.le
 have x_f0_b := x_f0.le
 have x_f1_b := x_f1.le
 refine zd<|O<|zr st0 (cs := [t_v0]) X X X ?_
 intro b1 w2 h3 le4 hc5 st6
 refine zr st6 (cs := [x_v0, x_v1]) X X X ?_
 intro b7 w8 h9 le10 hc11 st12
 refine Y X X (r_asL X)<|Y X X (zx X)<|U<|M<|zd<|zd<|O<|Y X X (zf st12.sub (hc5.up le10) X Tryz.isAgg24 Tryz.sizeOf24 X)<|Y X X (zf st12.sub hc11 X Tryz.isAgg28 Tryz.sizeOf28 X)<|zm st12 X X X Tryz.call15 X (zam st12.sub (t := t) (t_f0.up (le4.trans le10)) (x := x) (x_f0.up (le4.trans le10)) (x_f1.up (le4.trans le10))) ?_
 intro r13 w14 h15 le16 st17 q18
 obtain rfl := q18
 refine Y X X (zx X)<|U<|M<|zd<|O<|Y X X (zo X)<|Y X X (r_neq X X)<|U<|M ?_
 refine zt rfl (fun c19 => ?_) (fun c19 => ?_)
 ·
  replace c19 := of_decide_eq_true c19
  refine zd<|O<|Y X X (zo X)<|Y X X (r_asL X)<|Y X X (zx X)<|U<|M<|zA<|zk<|zS Tryz.results11 ?_
  refine ⟨h15, _, rfl, st17.done, ?_⟩
  refine ⟨_, tup2 rfl (zW ?_), Sl.to (Sl.nil _ _) ?_⟩
  all_goals simp_all [stepsR, stepsE]
 ·
  replace c19 := of_decide_eq_false c19
  refine zz<|M<|zd<|zd<|O<|Y X X (r_mvS X)<|zm st17 X X X Tryz.call43 X (c_postilref01_Word st17.sub _ zZ) ?_
  intro r20 w21 h22 le23 st24 q25
  obtain rfl := q25
  refine Y X X (r_not X)<|U<|M ?_
  refine zt rfl (fun c26 => ?_) (fun c26 => ?_)
  ·
   refine zd<|O<|Y X X (r_asL X)<|Y X X (zx X)<|U<|M<|zA<|zk<|zS Tryz.results11 ?_
   refine ⟨h22, _, rfl, st24.done, ?_⟩
   refine ⟨_, tup2 rfl (zW ?_), Sl.to (Sl.nil _ _) ?_⟩
   all_goals simp_all [stepsR, stepsE]
  ·
   refine zz<|M<|zd<|O<|Y X X (zf st24.sub (hc11.up (le16.trans le23)) X Tryz.isAgg28 Tryz.sizeOf28 X)<|Y X X (r_mvS X) ?_
   refine zm st24 rfl rfl rfl Tryz.call44 rfl (c_postilref04_steps st24.sub (x := x) (x_f0.up (((le4.trans le10).trans le16).trans le23)) (x_f1.up (((le4.trans le10).trans le16).trans le23)) _ zZ (by exact lexicon_rules (by simpa using c19)) (by exact word_len (by simpa using c26))) ?_
   intro r27 w28 h29 le30 st31 q32
   obtain ⟨v33, e35, f34⟩ := q32
   rw [← e35] at f34
   have f34_b := f34.le
   refine Y X X (zD (v := r27) X)<|Y X X (zx X)<|U<|M<|zA<|zS Tryz.results11 ?_
   refine ⟨h29, _, rfl, st31.done, ?_⟩
   refine ⟨_, tup2 rfl (zW ?_), Sl.to f34 ?_⟩
   all_goals simp_all [stepsR, stepsE]
set_option maxRecDepth 4000 in
theorem c_postilref04_stands : ∀ (n_ : Nat) {h : Heap} {w : World} (hs : Sub h w) {x : Lexicon} {x_v0 : Value} (x_f0 : Sl LRule h x_v0 x.rules) {x_v1 : Value} (x_f1 : Sl LDecision h x_v1 x.decisions) {d : Decision} (d_l2 : 0 ≤ d.kind ∧ d.kind ≤ 255) (d_l3 : d.form.length ≤ 281474976710656) (d_l7 : d.to.stem.length ≤ 281474976710656) (d_l8 : 0 ≤ d.to.mark ∧ d.to.mark ≤ 255) (hv : ∀ v ∈ x.decisions, v.number ≤ 999 ∧ (v.kind = 4 → v.of_ < v.number)) (hn : 999 < d.number + n_), Calls Tryz.prog 88 #[.agg #[x_v0, x_v1], .agg #[.int .i64 d.number, .int .u8 d.kind, strV d.form, .int .i64 d.at_.chapter, .int .i64 d.at_.line, .int .i64 d.at_.word, strV d.to.stem, .int .u8 d.to.mark, .int .i64 d.of_]] w (Rets h w (fun _ _ res_ => res_ = .bool (standsF x n_ d))) := by
 intro n_
 induction n_ using Nat.strongRecOn with
 | _ n_ ih_ =>
 intro h w hs x x_v0 x_f0 x_v1 x_f1 d d_l2 d_l3 d_l7 d_l8 hv hn
 refine zM (n := 34) (args := [.agg #[x_v0, x_v1], .agg #[.int .i64 d.number, .int .u8 d.kind, strV d.form, .int .i64 d.at_.chapter, .int .i64 d.at_.line, .int .i64 d.at_.word, strV d.to.stem, .int .u8 d.to.mark, .int .i64 d.of_]]) Tryz.func88 X X X ?_
 have st0 : St h w h w [] := St.start hs
 have x_f0_b := x_f0.le
 have x_f1_b := x_f1.le
 refine zd<|O<|zr st0 (cs := [x_v0, x_v1]) X X X ?_
 intro b1 w2 h3 le4 hc5 st6
 refine zr st6 (cs := [.int .i64 (d.number), .int .u8 (d.kind), strV (d.form), .int .i64 (d.at_.chapter), .int .i64 (d.at_.line), .int .i64 (d.at_.word), strV (d.to.stem), .int .u8 (d.to.mark), .int .i64 (d.of_)]) X X X ?_
 intro b7 w8 h9 le10 hc11 st12
 refine Y X X (zJ X)<|U<|M<|zd<|zd<|O<|Y X X (zx X)<|U<|M<|zF ?_
 refine zX [4, 5, 6, 7, 8, 9, 10, 11, 12, 13, 14, 15, 16, 17, 18, 19, 20, 21, 22, 23, 24, 25, 26, 27, 28, 29, 30, 31, 32, 33] (G := Nat × Heap) (fun ⟨i, h13⟩ => [(5, .int .i64 (i : Int))]) (fun ⟨i, h13⟩ w' => Le h9 h13 ∧ St h w h13 w' [] ∧ (i ≤ x.decisions.length) ∧ ((x.decisions.take i).all (voids x n_ d) = true)) (fun ⟨i, h13⟩ => x.decisions.length - i) ⟨0, h9⟩ ⟨rfl, trivial⟩ ⟨Le.refl _, st12, zak, zak⟩ ?_
 rintro ⟨i, h13⟩ _ w16 ⟨le14, st15, hi, hA⟩
 refine zd<|zd<|O<|Y X X (zo X)<|Y X X (zc X Tryz.underlying28 X Tryz.sizeOf26 X)<|Y X X (zb (j := 1) st15.sub (hc5.up (le10.trans le14)) X X X Tryz.isAgg26)<|Y X X (zag (x_f1.up ((le4.trans le10).trans le14)) X Tryz.underlying26)<|Y X X (zal X X)<|U<|M ?_
 refine zt rfl (fun c17 => ?_) (fun c17 => ?_)
 ·
  replace c17 := of_decide_eq_true c17
  refine zz<|M<|zd<|zF<|zd<|O<|Y X X (zc X Tryz.underlying28 X Tryz.sizeOf26 X)<|Y X X (zb (j := 1) st15.sub (hc5.up (le10.trans le14)) X X X Tryz.isAgg26)<|Y X X (zo X) ?_
  have hv1 : ∃ y_, (x.decisions)[i]? = some y_ := ⟨_, List.getElem?_eq_getElem (by omega)⟩
  obtain ⟨v1, hv1⟩ := hv1
  obtain ⟨b18, o19, _, he21, hc20, hr_v1⟩ := Sl.elem (x_f1.up ((le4.trans le10).trans le14)) hv1
  obtain ⟨rfl, lu22, ls23, ls24, lu25⟩ := hr_v1
  simp only [big] at ls23
  simp only [big] at ls24
  refine Y X X (zp he21 X X (hk := X) (hu := Tryz.underlying26) (hz := Tryz.sizeOf56))<|Y X X (zf st15.sub hc20 X Tryz.isAgg56 Tryz.sizeOf56 X)<|zO st15 Tryz.zeroValue56 X X ?_
  intro b26 w27 st28
  refine zB st28 (k := 0) X X X (zg X (zg X (zg X (zg X (zg X (zg X (zg X (zg X (zg X zU))))))))) Tryz.sizeOf56 X X X ?_
  intro w29 st30
  obtain ⟨h31, le32, hb33, st35⟩ := st30.freeze (k := 0) rfl
  have hc34 := Cells.of hb33
  refine U<|M<|zd<|O<|Y X X (zc X Tryz.underlying56 X Tryz.sizeOf5 X)<|Y X X (zb (j := 1) st35.sub hc34 X X X Tryz.isAgg5)<|Y X X (r_eql X X)<|Y X X (zN X) ?_
  refine zG (d := 22) rfl (fun g36 => ?_) (fun g36 => ?_)
  ·
   replace g36 := of_decide_eq_true g36
   refine za X X (d := 22) X<|Y X X (zc X Tryz.underlying56 X Tryz.sizeOf3 X)<|za X X (d := 22) X<|Y X X (zb (j := 8) st35.sub hc34 X X X Tryz.isAgg3)<|za X X (d := 22) X<|Y X X (zc X Tryz.underlying56 X Tryz.sizeOf3 X)<|za X X (d := 22) X<|Y X X (zb (j := 0) st35.sub (hc11.up (le14.trans le32)) X X X Tryz.isAgg3)<|za X X (d := 22) X<|Y X X (r_eql X X)<|Y X X (zK (v := (.bool _)) X X)<|Y X X (zN X) ?_
   refine zG (d := 29) rfl (fun g37 => ?_) (fun g37 => ?_)
   ·
    replace g37 := of_decide_eq_true g37
    refine za X X (d := 29) X<|Y X X (zf st35.sub (hc5.up ((le10.trans le14).trans le32)) X Tryz.isAgg28 Tryz.sizeOf28 X)<|za X X (d := 29) X<|Y X X (zf st35.sub hc34 X Tryz.isAgg56 Tryz.sizeOf56 X)<|za X X (d := 29) X ?_
    have q1 := hv v1 (List.mem_of_getElem? hv1)
    have q2 := q1.2 g36
    have q3 := g37
    refine zm st35 rfl rfl rfl Tryz.call88 rfl (ih_ (n_ - 1) (by omega) st35.sub (x := x) (x_f0.up (((le4.trans le10).trans le14).trans le32)) (x_f1.up (((le4.trans le10).trans le14).trans le32)) (d := v1) t_u8 zZ zZ t_u8 (by exact hv) (by omega)) ?_
    intro r38 w39 h40 le41 st42 q43
    obtain rfl := q43
    refine Y X X (zK (v := (.bool _)) X X)<|U<|M ?_
    refine zt rfl (fun c44 => ?_) (fun c44 => ?_)
    ·
     refine zd<|O<|Y X X (zJ X)<|U<|M<|zA<|zL<|zk<|zk<|zL<|zk<|zi Tryz.results88 ?_
     rw [standsF_eq hv hn]
     refine ⟨h40, _, rfl, st42.done, ?_⟩
     refine zw ?_
     exact (not_all hv1 (by simp_all [voids])).symm
    ·
     refine zz<|zI<|M<|O<|Y X X (zo X)<|Y X X (zah X X t_om)<|Y X X (zx X)<|U<|M ?_
     refine ⟨⟨i + 1, h40⟩, ⟨rfl, trivial⟩, ?_, ⟨((le14.trans le32).trans le41), st42.take 0, ?_, ?_⟩, ?_⟩
     ·exact zae
     ·first | omega | (simp; omega)
     ·exact all_take_succ hA hv1 (by simp_all [voids])
     ·show x.decisions.length - ((i + 1)) < x.decisions.length - i
      omega
   ·
    replace g37 := of_decide_eq_false g37
    refine E X X (d := 29) X X X<|E X X (d := 29) X X X<|E X X (d := 29) X X X<|Y X X (zC (v := (.bool _)) X X)<|U<|M ?_
    refine zt rfl (fun c45 => ?_) (fun c45 => ?_)
    ·
     cases c45
    ·
     refine zz<|zI<|M<|O<|Y X X (zo X)<|Y X X (zah X X t_om)<|Y X X (zx X)<|U<|M ?_
     refine ⟨⟨i + 1, h31⟩, ⟨rfl, trivial⟩, ?_, ⟨(le14.trans le32), st35.take 0, ?_, ?_⟩, ?_⟩
     ·exact zae
     ·first | omega | (simp; omega)
     ·exact all_take_succ hA hv1 (by simp_all [voids])
     ·show x.decisions.length - ((i + 1)) < x.decisions.length - i
      omega
  ·
   replace g36 := of_decide_eq_false g36
   refine E X X (d := 22) X X X<|E X X (d := 22) X X X<|E X X (d := 22) X X X<|E X X (d := 22) X X X<|E X X (d := 22) X X X<|Y X X (zC (v := (.bool _)) X X)<|Y X X (zN X)<|E X X (d := 29) X X X<|E X X (d := 29) X X X<|E X X (d := 29) X X X<|Y X X (zC (v := (.bool _)) X X)<|U<|M ?_
   refine zt rfl (fun c46 => ?_) (fun c46 => ?_)
   ·
    cases c46
   ·
    refine zz<|zI<|M<|O<|Y X X (zo X)<|Y X X (zah X X t_om)<|Y X X (zx X)<|U<|M ?_
    refine ⟨⟨i + 1, h31⟩, ⟨rfl, trivial⟩, ?_, ⟨(le14.trans le32), st35.take 0, ?_, ?_⟩, ?_⟩
    ·exact zae
    ·first | omega | (simp; omega)
    ·exact all_take_succ hA hv1 (by simp_all [voids])
    ·show x.decisions.length - ((i + 1)) < x.decisions.length - i
     omega
 ·
  replace c17 := of_decide_eq_false c17
  refine zab<|zn<|zn<|zT<|M<|zd<|O<|Y X X (zJ X)<|U<|M<|zA<|zi Tryz.results88 ?_
  rw [standsF_eq hv hn]
  refine ⟨h13, _, rfl, st15.done, ?_⟩
  refine zw ?_
  exact (all_of_take hA (by omega)).symm
set_option maxRecDepth 4000 in
theorem c_postilref04_standing {h : Heap} {w : World} (hs : Sub h w) {x : Lexicon} {x_v0 : Value} (x_f0 : Sl LRule h x_v0 x.rules) {x_v1 : Value} (x_f1 : Sl LDecision h x_v1 x.decisions) (hv : ∀ v ∈ x.decisions, v.number ≤ 999 ∧ (v.kind = 4 → v.of_ < v.number)) (hv1 : ∀ v ∈ x.decisions, 1 ≤ v.number) (hl20 : x.decisions.length ≤ 20) : Calls Tryz.prog 46 #[.agg #[x_v0, x_v1]] w (Rets h w (fun h' _ res_ => ∃ u0, res_ = u0 ∧ Sl LDecision h' u0 (standingR x))) := by
 refine zM (n := 37) (args := [.agg #[x_v0, x_v1]]) Tryz.func46 X X X ?_
 have st0 : St h w h w [] := St.start hs
 have x_f0_b := x_f0.le
 have x_f1_b := x_f1.le
 refine zd<|O<|zr st0 (cs := [x_v0, x_v1]) X X X ?_
 intro b1 w2 h3 le4 hc5 st6
 refine Y X X (r_asL X)<|U<|M<|zd<|O<|Y X X (r_asL X)<|U<|M<|zd<|zd<|O<|Y X X (zx X)<|U<|M<|zF ?_
 have st10 := st6.snoc
 have f11 := OSl.nil LDecision 56 h3
 refine zX [3, 4, 5, 6, 7, 8, 9, 10, 11, 12, 13, 14, 15, 16, 17, 18, 19, 20, 21, 22, 23, 24, 25, 26, 27, 28, 29, 30, 31, 32, 33, 34, 35] (G := Nat × Value × List (Nat × Obj) × Heap) (fun ⟨n, v_3, o_3, h7⟩ => [(3, v_3), (4, .int .i64 ((n : Int) + 1))]) (fun ⟨n, v_3, o_3, h7⟩ w' => Le h3 h7 ∧ St h w h7 w' [o_3] ∧ (OSl LDecision 56 h7 v_3 ((List.range n).flatMap (standAt x)) o_3) ∧ (n ≤ 999)) (fun ⟨n, v_3, o_3, h7⟩ => 999 - n) ⟨0, (.slice none 0 0), [], h3⟩ ⟨rfl, rfl, trivial⟩ ⟨Le.refl _, st10, (OSl.to f11 (by rfl)), zak⟩ ?_
 rintro ⟨n, v_3, o_3, h7⟩ _ w12 ⟨le8, st9, hO_3, hn⟩
 refine zd<|zd<|O<|Y X X (zo X)<|Y X X (r_leq X X)<|U<|M ?_
 refine zt rfl (fun c13 => ?_) (fun c13 => ?_)
 ·
  replace c13 := of_decide_eq_true c13
  refine zz<|M<|zd<|zF<|zd<|O<|Y X X (zx X)<|U<|M<|zF ?_
  refine zX [3, 5, 6, 11, 12, 13, 14, 15, 16, 17, 18, 19, 20, 21, 22, 23, 24, 25, 26, 27, 28, 29, 30, 31, 32, 33, 34, 35] (G := Nat × Value × List (Nat × Obj) × Heap) (fun ⟨i, v_3, o_3, h14⟩ => [(3, v_3), (5, .int .i64 (i : Int))]) (fun ⟨i, v_3, o_3, h14⟩ w' => Le h7 h14 ∧ St h w h14 w' [o_3] ∧ (OSl LDecision 56 h14 v_3 ((List.range n).flatMap (standAt x) ++ (x.decisions.take i).filter (standP x n)) o_3) ∧ (i ≤ x.decisions.length)) (fun ⟨i, v_3, o_3, h14⟩ => x.decisions.length - i) ⟨0, v_3, o_3, h7⟩ ⟨rfl, rfl, trivial⟩ ⟨Le.refl _, st9, (OSl.to hO_3 (by simp)), zak⟩ ?_
  rintro ⟨i, v_3, o_3, h14⟩ _ w17 ⟨le15, st16, hO_3, hi⟩
  refine zd<|zd<|O<|Y X X (zo X)<|Y X X (zc X Tryz.underlying28 X Tryz.sizeOf26 X)<|Y X X (zb (j := 1) st16.sub (hc5.up (le8.trans le15)) X X X Tryz.isAgg26)<|Y X X (zag (x_f1.up ((le4.trans le8).trans le15)) X Tryz.underlying26)<|Y X X (zal X X)<|U<|M ?_
  refine zt rfl (fun c18 => ?_) (fun c18 => ?_)
  ·
   replace c18 := of_decide_eq_true c18
   refine zz<|M<|zd<|zF<|zd<|O<|Y X X (zc X Tryz.underlying28 X Tryz.sizeOf26 X)<|Y X X (zb (j := 1) st16.sub (hc5.up (le8.trans le15)) X X X Tryz.isAgg26)<|Y X X (zo X) ?_
   have hd : ∃ y_, (x.decisions)[i]? = some y_ := ⟨_, List.getElem?_eq_getElem (by omega)⟩
   obtain ⟨d, hd⟩ := hd
   obtain ⟨b19, o20, _, he22, hc21, hr_d⟩ := Sl.elem (x_f1.up ((le4.trans le8).trans le15)) hd
   obtain ⟨rfl, lu23, ls24, ls25, lu26⟩ := hr_d
   simp only [big] at ls24
   simp only [big] at ls25
   refine Y X X (zp he22 X X (hk := X) (hu := Tryz.underlying26) (hz := Tryz.sizeOf56))<|Y X X (zf st16.sub hc21 X Tryz.isAgg56 Tryz.sizeOf56 X)<|zO st16 Tryz.zeroValue56 X X ?_
   intro b27 w28 st29
   refine zB st29 (k := 1) X X X (zg X (zg X (zg X (zg X (zg X (zg X (zg X (zg X (zg X zU))))))))) Tryz.sizeOf56 X X X ?_
   intro w30 st31
   obtain ⟨h32, le33, hb34, st36⟩ := st31.freeze (k := 1) rfl
   have hc35 := Cells.of hb34
   refine U<|M<|zd<|O<|Y X X (zc X Tryz.underlying56 X Tryz.sizeOf3 X)<|Y X X (zb (j := 0) st36.sub hc35 X X X Tryz.isAgg3)<|Y X X (zo X)<|Y X X (r_eql X X)<|Y X X (zN X) ?_
   refine zG (d := 27) rfl (fun g37 => ?_) (fun g37 => ?_)
   ·
    replace g37 := of_decide_eq_true g37
    refine za X X (d := 27) X<|Y X X (zf st36.sub (hc5.up ((le8.trans le15).trans le33)) X Tryz.isAgg28 Tryz.sizeOf28 X)<|za X X (d := 27) X<|Y X X (zf st36.sub hc35 X Tryz.isAgg56 Tryz.sizeOf56 X)<|za X X (d := 27) X ?_
    refine zm st36 rfl rfl rfl Tryz.call88 rfl (c_postilref04_stands (1000) st36.sub (x := x) (x_f0.up (((le4.trans le8).trans le15).trans le33)) (x_f1.up (((le4.trans le8).trans le15).trans le33)) (d := d) t_u8 zZ zZ t_u8 (by exact hv) (by have q := (hv1 d (List.mem_of_getElem? hd)); omega)) ?_
    intro r38 w39 h40 le41 st42 q43
    obtain rfl := q43
    refine Y X X (zK (v := (.bool _)) X X)<|U<|M ?_
    refine zt rfl (fun c44 => ?_) (fun c44 => ?_)
    ·
     refine O<|Y X X (zy (v := v_3) X)<|Y X X (zf st42.sub (hc35.up le41) X Tryz.isAgg56 Tryz.sizeOf56 X)<|zV (L := LDecision) (xs := [d]) (cs := [.int .i64 (d.number), .int .u8 (d.kind), strV (d.form), .int .i64 (d.at_.chapter), .int .i64 (d.at_.line), .int .i64 (d.at_.word), strV (d.to.stem), .int .u8 (d.to.mark), .int .i64 (d.of_)]) st42 (Enc.cons (L := LDecision) (vs := [.int .i64 (d.number), .int .u8 (d.kind), strV (d.form), .int .i64 (d.at_.chapter), .int .i64 (d.at_.line), .int .i64 (d.at_.word), strV (d.to.stem), .int .u8 (d.to.mark), .int .i64 (d.of_)]) (x := d) (h := h40) (⟨rfl, t_u8, zZ, zZ, t_u8⟩) Enc.nil) X X X Tryz.underlying26 Tryz.info56 X X X t_kr ?_
     intro v45 w46 h49 le50 f47 st48
     refine zP (k := 0) (nb := 88) st48 (hO_3.up ((le33.trans le41).trans le50)) rfl f47 rfl rfl rfl Tryz.underlying26 Tryz.info56 rfl rfl rfl (by decide) rfl (by have q := stand_len n hl20; have q2 := List.length_filter_le (standP x n) (x.decisions.take i); rw [List.length_take] at q2; simp only [List.length_append, List.length_cons, List.length_nil]; omega) (by have q := stand_len n hl20; have q2 := List.length_filter_le (standP x n) (x.decisions.take i); rw [List.length_take] at q2; simp only [List.length_append, List.length_cons, List.length_nil]; omega) ?_
     intro v51 o52 w53 _ e54 f55 st56
     subst e54
     refine Y X X (zD (v := v51) X)<|U<|zI<|M<|O<|Y X X (zo X)<|Y X X (zah X X t_om)<|Y X X (zx X)<|U<|M ?_
     refine ⟨⟨i + 1, v51, o52, h49⟩, ⟨rfl, rfl, trivial⟩, ?_, ⟨(((le15.trans le33).trans le41).trans le50), st56.take 1, ?_, ?_⟩, ?_⟩
     ·exact zae
     ·refine OSl.to f55 ?_
      rw [take_snoc hd, List.filter_append, List.append_assoc]; simp_all [standP]
     ·first | omega | (simp; omega)
     ·show x.decisions.length - ((i + 1)) < x.decisions.length - i
      omega
    ·
     refine zz<|zI<|M<|O<|Y X X (zo X)<|Y X X (zah X X t_om)<|Y X X (zx X)<|U<|M ?_
     refine ⟨⟨i + 1, v_3, o_3, h40⟩, ⟨rfl, rfl, trivial⟩, ?_, ⟨((le15.trans le33).trans le41), st42.take 1, ?_, ?_⟩, ?_⟩
     ·exact zae
     ·refine OSl.to (hO_3.up (le33.trans le41)) ?_
      rw [take_snoc hd, List.filter_append]; simp_all [standP]
     ·first | omega | (simp; omega)
     ·show x.decisions.length - ((i + 1)) < x.decisions.length - i
      omega
   ·
    replace g37 := of_decide_eq_false g37
    refine E X X (d := 27) X X X<|E X X (d := 27) X X X<|E X X (d := 27) X X X<|Y X X (zC (v := (.bool _)) X X)<|U<|M ?_
    refine zt rfl (fun c57 => ?_) (fun c57 => ?_)
    ·
     cases c57
    ·
     refine zz<|zI<|M<|O<|Y X X (zo X)<|Y X X (zah X X t_om)<|Y X X (zx X)<|U<|M ?_
     refine ⟨⟨i + 1, v_3, o_3, h32⟩, ⟨rfl, rfl, trivial⟩, ?_, ⟨(le15.trans le33), st36.take 1, ?_, ?_⟩, ?_⟩
     ·exact zae
     ·refine OSl.to (hO_3.up le33) ?_
      rw [take_snoc hd, List.filter_append]; simp_all [standP]
     ·first | omega | (simp; omega)
     ·show x.decisions.length - ((i + 1)) < x.decisions.length - i
      omega
  ·
   replace c18 := of_decide_eq_false c18
   refine zab<|zn<|zn<|zT<|zI<|M<|O<|Y X X (zo X)<|Y X X (zah X X t_om)<|Y X X (zx X)<|U<|M ?_
   refine ⟨⟨n + 1, v_3, o_3, h14⟩, ⟨rfl, rfl, trivial⟩, ?_, ⟨(le8.trans le15), st16, ?_, ?_⟩, ?_⟩
   ·exact zae
   ·refine OSl.to hO_3 ?_
    rw [List.range_succ, List.flatMap_append]; simp [standAt, List.take_of_length_le (show x.decisions.length ≤ i by omega)]
   ·first | omega | (simp; omega)
   ·show 999 - ((n + 1)) < 999 - n
    omega
 ·
  replace c13 := of_decide_eq_false c13
  refine zab<|zn<|zn<|zT<|M<|zd<|O<|Y X X (zy (v := v_3) X)<|Y X X (zD (v := v_3) X)<|U<|M<|zA<|zi Tryz.results46 ?_
  obtain ⟨h58, le59, f60, st61⟩ := OSl.freeze (k := 0) st9 hO_3 rfl (by have q := stand_len n hl20; omega)
  refine ⟨h58, _, rfl, st61.done, ?_⟩
  refine ⟨_, rfl, Sl.to f60 ?_⟩
  have q : n = 999 := by omega
  subst q; rfl
set_option maxRecDepth 4000 in
theorem c_postilref04_Standing {h : Heap} {w : World} (hs : Sub h w) {t : Text} {t_v0 : Value} (t_f0 : Sl LChapter h t_v0 t.chapters) {x : Lexicon} {x_v0 : Value} (x_f0 : Sl LRule h x_v0 x.rules) {x_v1 : Value} (x_f1 : Sl LDecision h x_v1 x.decisions) : Calls Tryz.prog 13 #[.agg #[t_v0], .agg #[x_v0, x_v1]] w (Rets h w (fun h' _ res_ => ∃ u0, res_ = .tuple #[u0, .int .i64 (checkN t x)] ∧ Sl LInt h' u0 (standingN t x))) := by
 refine zM (n := 33) (args := [.agg #[t_v0], .agg #[x_v0, x_v1]]) Tryz.func13 X X X ?_
 have st0 : St h w h w [] := St.start hs
 have t_f0_b := t_f0.le
 have x_f0_b := x_f0.le
 have x_f1_b := x_f1.le
 refine zd<|O<|zr st0 (cs := [t_v0]) X X X ?_
 intro b1 w2 h3 le4 hc5 st6
 refine zr st6 (cs := [x_v0, x_v1]) X X X ?_
 intro b7 w8 h9 le10 hc11 st12
 refine Y X X (r_asL X)<|Y X X (zx X)<|U<|M<|zd<|zd<|O<|Y X X (zf st12.sub (hc5.up le10) X Tryz.isAgg24 Tryz.sizeOf24 X)<|Y X X (zf st12.sub hc11 X Tryz.isAgg28 Tryz.sizeOf28 X)<|zm st12 X X X Tryz.call15 X (zam st12.sub (t := t) (t_f0.up (le4.trans le10)) (x := x) (x_f0.up (le4.trans le10)) (x_f1.up (le4.trans le10))) ?_
 intro r13 w14 h15 le16 st17 q18
 obtain rfl := q18
 refine Y X X (zx X)<|U<|M<|zd<|O<|Y X X (zo X)<|Y X X (r_neq X X)<|U<|M ?_
 refine zt rfl (fun c19 => ?_) (fun c19 => ?_)
 ·
  replace c19 := of_decide_eq_true c19
  refine zd<|O<|Y X X (zo X)<|Y X X (r_asL X)<|Y X X (zx X)<|U<|M<|zA<|zk<|zS Tryz.results13 ?_
  refine ⟨h15, _, rfl, st17.done, ?_⟩
  refine ⟨_, tup2 rfl (zW ?_), Sl.to (Sl.nil _ _) ?_⟩
  all_goals simp_all [standingN]
 ·
  replace c19 := of_decide_eq_false c19
  refine zz<|M<|zd<|O<|Y X X (r_asL X)<|U<|M<|zd<|O<|Y X X (zf st17.sub (hc11.up le16) X Tryz.isAgg28 Tryz.sizeOf28 X) ?_
  refine zm st17 rfl rfl rfl Tryz.call46 rfl (c_postilref04_standing st17.sub (x := x) (x_f0.up ((le4.trans le10).trans le16)) (x_f1.up ((le4.trans le10).trans le16)) (by exact lexicon_v (by simpa using c19)) (by exact lexicon_v1 (by simpa using c19)) (by exact lexicon_20 (by simpa using c19))) ?_
  intro r20 w21 h22 le23 st24 q25
  obtain ⟨v26, e28, f27⟩ := q25
  rw [← e28] at f27
  have f27_b := f27.le
  refine Y X X (zD (v := r20) X)<|U<|M<|zd<|zd<|O<|Y X X (zx X)<|U<|M<|zF ?_
  have st32 := st24.snoc
  have f33 := OSl.nil LInt 3 h22
  refine zX [7, 9, 18, 19, 20, 21, 22, 23, 24, 25, 26, 27, 28, 29, 30, 31] (G := Nat × Value × List (Nat × Obj) × Heap) (fun ⟨i, v_7, o_7, h29⟩ => [(7, v_7), (9, .int .i64 (i : Int))]) (fun ⟨i, v_7, o_7, h29⟩ w' => Le h22 h29 ∧ St h w h29 w' [o_7] ∧ (OSl LInt 3 h29 v_7 (((standingR x).take i).map (·.number)) o_7) ∧ (i ≤ (standingR x).length)) (fun ⟨i, v_7, o_7, h29⟩ => (standingR x).length - i) ⟨0, (.slice none 0 0), [], h22⟩ ⟨rfl, rfl, trivial⟩ ⟨Le.refl _, st32, (OSl.to f33 (by rfl)), zak⟩ ?_
  rintro ⟨i, v_7, o_7, h29⟩ _ w34 ⟨le30, st31, hO_7, hi⟩
  refine zd<|zd<|O<|Y X X (zo X)<|Y X X (zy (v := r20) X)<|Y X X (zag (f27.up le30) X Tryz.underlying26)<|Y X X (zal X X)<|U<|M ?_
  refine zt rfl (fun c35 => ?_) (fun c35 => ?_)
  ·
   replace c35 := of_decide_eq_true c35
   refine zz<|M<|zd<|zF<|O<|Y X X (zy (v := v_7) X)<|Y X X (zy (v := r20) X)<|Y X X (zo X) ?_
   have hd : ∃ y_, (standingR (x))[i]? = some y_ := ⟨_, List.getElem?_eq_getElem (by omega)⟩
   obtain ⟨d, hd⟩ := hd
   obtain ⟨b36, o37, _, he39, hc38, hr_d⟩ := Sl.elem (f27.up le30) hd
   obtain ⟨rfl, lu40, ls41, ls42, lu43⟩ := hr_d
   simp only [big] at ls41
   simp only [big] at ls42
   refine Y X X (zp he39 X X (hk := X) (hu := Tryz.underlying26) (hz := Tryz.sizeOf56))<|Y X X (zc X Tryz.underlying56 X Tryz.sizeOf3 X)<|Y X X (zb (j := 0) st31.sub hc38 X X X Tryz.isAgg3)<|zV (L := LInt) (xs := [(d.number)]) (cs := [.int .i64 (d.number)]) st31 (Enc.cons (L := LInt) (vs := [.int .i64 (d.number)]) (x := (d.number)) (h := h29) (X) Enc.nil) X X X Tryz.underlying39 Tryz.info3 X X X t_kr ?_
   intro v44 w45 h48 le49 f46 st47
   refine zP (k := 0) (nb := 8) st47 (hO_7.up le49) rfl f46 rfl rfl rfl Tryz.underlying39 Tryz.info3 rfl rfl rfl (by decide) rfl (by have qs : (standingR x).length ≤ 20 * 999 := stand_len 999 (lexicon_20 (by simpa using c19)); have q := List.length_take_le i (standingR x); simp; omega) (by have qs : (standingR x).length ≤ 20 * 999 := stand_len 999 (lexicon_20 (by simpa using c19)); have q := List.length_take_le i (standingR x); simp; omega) ?_
   intro v50 o51 w52 _ e53 f54 st55
   subst e53
   refine Y X X (zD (v := v50) X)<|U<|zI<|M<|O<|Y X X (zo X)<|Y X X (zah X X t_om)<|Y X X (zx X)<|U<|M ?_
   refine ⟨⟨i + 1, v50, o51, h48⟩, ⟨rfl, rfl, trivial⟩, ?_, ⟨(le30.trans le49), st55, ?_, ?_⟩, ?_⟩
   ·exact zae
   ·refine OSl.to f54 ?_
    rw [take_snoc hd]; simp
   ·first | omega | (simp; omega)
   ·show (standingR x).length - ((i + 1)) < (standingR x).length - i
    omega
  ·
   replace c35 := of_decide_eq_false c35
   refine zab<|zn<|zn<|zT<|M<|zd<|O<|Y X X (zy (v := v_7) X)<|Y X X (zD (v := v_7) X)<|Y X X (zx X)<|U<|M<|zA<|zS Tryz.results13 ?_
   obtain ⟨h56, le57, f58, st59⟩ := OSl.freeze (k := 0) st31 hO_7 rfl (by have qs : (standingR x).length ≤ 20 * 999 := stand_len 999 (lexicon_20 (by simpa using c19)); have q := List.length_take_le i (standingR x); simp; omega)
   refine ⟨h56, _, rfl, st59.done, ?_⟩
   refine ⟨_, tup2 rfl (zW ?_), Sl.to f58 ?_⟩
   ·have q := c19
    simp at q
    rw [q]
   ·have q := c19
    simp at q
    rw [List.take_of_length_le (by omega)]; simp [standingN, q]
end Go.Pk

namespace Go.Pk
open Go Go.RowKit Go.Proofs
set_option maxRecDepth 4000 in
theorem c_slices_IndexFunc_Lstring_string_st {xs : List Str} {v : Value} {g : FuncId} {caps : List Value} (S : Nat → Heap → World → Prop) (p : Nat → Bool)
  (hS : ∀ k h w, S k h w → Sub h w ∧ Sl LStr h v xs)
  (hf : ∀ k x h w vs, S k h w → xs[k]? = some x → LStr.R h vs x → ∀ u, vs = [u] → Calls Tryz.prog g (u :: caps).toArray w (fun e w' => ∃ h', e = .returned (.bool (p k)) ∧ S (k + 1) h' w'))
  (hg : ∀ a w, (callFunc g a).run Tryz.prog w = .ok (.enter g a) w) {h : Heap} {w : World} (h0 : S 0 h w) :
  Calls Tryz.prog 131 #[v, .func (.func g) #[] caps.toArray] w (fun e w' => ∃ h' k, e = .returned (.int .i64 (if k < xs.length then (k : Int) else -1)) ∧ k ≤ xs.length ∧ (∀ j, j < k → p j = false) ∧ (k < xs.length → p k = true) ∧ S (if k < xs.length then k + 1 else k) h' w') := by
 refine zM (n := 19) (args := [v, .func (.func g) #[] caps.toArray]) Tryz.func131 X X X ?_
 have hb := (hS 0 h w h0).2.le
 refine zd<|O<|Y X X (zx X)<|U<|M<|zd<|zd<|O<|Y X X (zy (v := v) X)<|Y X X (zag (hS 0 h w h0).2 X Tryz.underlying33)<|Y X X (zo X)<|U<|M<|zF ?_
 refine zX [4, 5, 8, 9, 10, 11, 12, 13, 14, 15, 16, 17, 18] (G := Nat × Heap) (fun ⟨k, _⟩ => [(8, .int .i64 (k : Int))]) (fun ⟨k, h'⟩ w' => S k h' w' ∧ k ≤ xs.length ∧ ∀ j, j < k → p j = false) (fun ⟨k, _⟩ => xs.length - k) ⟨0, h⟩ ⟨rfl, trivial⟩ ⟨h0, by omega, by intros; omega⟩ ?_
 rintro ⟨k, h1⟩ _ w1 ⟨hS1, hk, hp⟩
 obtain ⟨hsub, hsl⟩ := hS k h1 w1 hS1
 refine zd<|O<|Y X X (zal X X)<|U<|M<|zd ?_
 refine zt rfl (fun c1 => ?_) (fun c1 => ?_)
 ·replace c1 := of_decide_eq_true c1
  refine zz<|M<|zd<|zF<|zd<|O<|Y X X (zo X)<|Y X X (zx X)<|U<|M<|zd<|O<|Y X X (r_mvF X)<|Y X X (zy (v := v) X)<|Y X X (zo X) ?_
  have hy : ∃ y, xs[k]? = some y := ⟨_, List.getElem?_eq_getElem (by omega)⟩
  obtain ⟨y, hy⟩ := hy
  obtain ⟨b, o, vs, he, hc, hr⟩ := Sl.elem hsl hy
  refine Y X X (zp he X X (hk := X) (hu := Tryz.underlying33) (hz := Tryz.sizeOf9)) ?_
  obtain ⟨u, rfl⟩ : ∃ u, vs = [u] := by
   have q := LStr.len hr
   match vs, q with
   | [u], _ => exact ⟨u, rfl⟩
  refine Y X X (zb (j := 0) hsub hc X X X Tryz.isAgg9) ?_
  refine zad rfl rfl (run_call_value (fs := []) (cs := caps) rfl rfl hg rfl) ((hf k y h1 w1 _ hS1 hy hr _ rfl).mono ?_)
  rintro e w2 ⟨h2, rfl, hS2⟩
  refine ⟨_, rfl, ?_⟩
  refine U<|M ?_
  refine zt rfl (fun c2 => ?_) (fun c2 => ?_)
  ·refine zd ?_
   refine O<|Y X X (zo X)<|Y X X (zx X)<|U<|M<|zA ?_
   repeat (first | refine zL ?_ | refine zk ?_)
   refine zi Tryz.results131 ?_
   have hlt : k < xs.length := by omega
   exact ⟨h2, k, by rw [if_pos hlt]; rfl, hk, hp, fun _ => c2, by rw [if_pos hlt]; exact hS2⟩
  ·refine zz ?_
   refine zI<|M<|O ?_
   refine Y rfl rfl (zah rfl rfl (by omega)) ?_
   refine Y X X (zo X)<|U<|M ?_
   refine ⟨⟨k + 1, h2⟩, ⟨rfl, trivial⟩, ?_, ⟨hS2, by omega, ?_⟩, ?_⟩
   ·exact zae
   ·intro j hj
    rcases Nat.lt_or_ge j k with h3 | h3
    ·exact hp j h3
    ·obtain rfl : j = k := by omega
     exact c2
   ·show xs.length - (k + 1) < xs.length - k
    omega
 ·replace c1 := of_decide_eq_false c1
  refine zab<|zn<|zn<|zT<|M<|zd<|O<|Y X X (zx X)<|U<|M<|zA<|zi Tryz.results131 ?_
  have hlt : ¬ k < xs.length := by omega
  exact ⟨h1, k, by rw [if_neg hlt]; rfl, hk, hp, fun q => absurd q hlt, by rw [if_neg hlt]; exact hS1⟩

set_option maxRecDepth 4000 in
theorem c_slices_ContainsFunc_Lstring_string_st {xs : List Str} {v : Value} {g : FuncId} {caps : List Value} (S : Nat → Heap → World → Prop) (p : Nat → Bool)
  (hS : ∀ k h w, S k h w → Sub h w ∧ Sl LStr h v xs)
  (hf : ∀ k x h w vs, S k h w → xs[k]? = some x → LStr.R h vs x → ∀ u, vs = [u] → Calls Tryz.prog g (u :: caps).toArray w (fun e w' => ∃ h', e = .returned (.bool (p k)) ∧ S (k + 1) h' w'))
  (hg : ∀ a w, (callFunc g a).run Tryz.prog w = .ok (.enter g a) w) {h : Heap} {w : World} (h0 : S 0 h w) :
  Calls Tryz.prog 90 #[v, .func (.func g) #[] caps.toArray] w (fun e w' => ∃ h' k, e = .returned (.bool (decide (k < xs.length))) ∧ k ≤ xs.length ∧ (∀ j, j < k → p j = false) ∧ (k < xs.length → p k = true) ∧ S (if k < xs.length then k + 1 else k) h' w') := by
 refine zM (n := 9) (args := [v, .func (.func g) #[] caps.toArray]) Tryz.func90 X X X<|zd<|O<|Y X X (zJ X)<|U<|M<|zd<|O<|Y X X (zy (v := v) X)<|Y X X (r_mvF X) ?_
 refine zad rfl rfl (zaj rfl Tryz.call131 rfl) ((c_slices_IndexFunc_Lstring_string_st S p hS hf hg h0).mono ?_)
 rintro e w2 ⟨h2, k, rfl, q1, q2, q3, q4⟩
 refine ⟨_, rfl, ?_⟩
 refine Y X X (r_geq X X)<|Y X X (zJ X)<|U<|M<|zA<|zi Tryz.results90 ?_
 refine ⟨h2, k, congrArg Ending.returned (zw ?_), q1, q2, q3, q4⟩
 by_cases hlt : k < xs.length
 ·simp [hlt]
 ·simp [hlt]
theorem c_slices_ContainsFunc_Lstring_string {xs : List Str} {v : Value} {g : FuncId} {caps : List Value} {h : Heap} {w : World} (hs : Sub h w) (hx : Sl LStr h v xs) (q : Str → Bool)
  (hg : ∀ a w, (callFunc g a).run Tryz.prog w = .ok (.enter g a) w)
  (hf : ∀ x h' w' vs, Le h h' → Sub h' w' → x ∈ xs → LStr.R h' vs x → ∀ u, vs = [u] → Calls Tryz.prog g (u :: caps).toArray w' (Rets h' w' fun _ _ r => r = .bool (q x))) :
  Calls Tryz.prog 90 #[v, .func (.func g) #[] caps.toArray] w (Rets h w fun _ _ r => r = .bool (xs.any q)) := by
 refine (c_slices_ContainsFunc_Lstring_string_st (fun k h' w' => St h w h' w' [] ∧ k ≤ xs.length) (fun k => ((xs[k]?).map q).getD false) (fun k h' w' hk => ⟨hk.1.sub, hx.up hk.1.le⟩) ?_ hg ⟨St.start hs, Nat.zero_le _⟩).mono ?_
 ·rintro k x h' w' vs ⟨st, _⟩ hk hr u hu
  refine (hf x h' w' vs st.le st.sub (List.mem_of_getElem? hk) hr u hu).mono ?_
  rintro e w'' ⟨h'', r, rfl, s, rfl⟩
  obtain ⟨hlt, _⟩ := List.getElem?_eq_some_iff.1 hk
  exact ⟨h'', by simp [hk], st.call0 s, hlt⟩
 ·rintro e w' ⟨h', k, rfl, q1, q2, q3, q4⟩
  refine ⟨h', _, rfl, q4.1, zw ?_⟩
  by_cases hlt : k < xs.length
  ·have h3 := q3 hlt
   rw [List.getElem?_eq_getElem hlt] at h3
   simp only [Option.map_some, Option.getD_some] at h3
   have : xs.any q = true := List.any_eq_true.2 ⟨_, List.getElem_mem hlt, h3⟩
   simp [hlt, this]
  ·have : xs.any q = false := by
    rw [List.any_eq_false]
    intro x hx'
    obtain ⟨j, hj⟩ := List.mem_iff_getElem?.1 hx'
    obtain ⟨h5, _⟩ := List.getElem?_eq_some_iff.1 hj
    have := q2 j (by omega)
    simpa [hj] using this
   simp [hlt, this]

set_option maxRecDepth 4000 in
theorem c_slices_IndexFunc_Lapi_Rule_api_Rule_st {xs : List Rule} {v : Value} {g : FuncId} {caps : List Value} (S : Nat → Heap → World → Prop) (p : Nat → Bool)
  (hS : ∀ k h w, S k h w → Sub h w ∧ Sl LRule h v xs)
  (hf : ∀ k x h w vs, S k h w → xs[k]? = some x → LRule.R h vs x → ∀ u, u = .agg vs.toArray → Calls Tryz.prog g (u :: caps).toArray w (fun e w' => ∃ h', e = .returned (.bool (p k)) ∧ S (k + 1) h' w'))
  (hg : ∀ a w, (callFunc g a).run Tryz.prog w = .ok (.enter g a) w) {h : Heap} {w : World} (h0 : S 0 h w) :
  Calls Tryz.prog 134 #[v, .func (.func g) #[] caps.toArray] w (fun e w' => ∃ h' k, e = .returned (.int .i64 (if k < xs.length then (k : Int) else -1)) ∧ k ≤ xs.length ∧ (∀ j, j < k → p j = false) ∧ (k < xs.length → p k = true) ∧ S (if k < xs.length then k + 1 else k) h' w') := by
 refine zM (n := 19) (args := [v, .func (.func g) #[] caps.toArray]) Tryz.func134 X X X ?_
 have hb := (hS 0 h w h0).2.le
 refine zd<|O<|Y X X (zx X)<|U<|M<|zd<|zd<|O<|Y X X (zy (v := v) X)<|Y X X (zag (hS 0 h w h0).2 X Tryz.underlying25)<|Y X X (zo X)<|U<|M<|zF ?_
 refine zX [4, 5, 8, 9, 10, 11, 12, 13, 14, 15, 16, 17, 18] (G := Nat × Heap) (fun ⟨k, _⟩ => [(8, .int .i64 (k : Int))]) (fun ⟨k, h'⟩ w' => S k h' w' ∧ k ≤ xs.length ∧ ∀ j, j < k → p j = false) (fun ⟨k, _⟩ => xs.length - k) ⟨0, h⟩ ⟨rfl, trivial⟩ ⟨h0, by omega, by intros; omega⟩ ?_
 rintro ⟨k, h1⟩ _ w1 ⟨hS1, hk, hp⟩
 obtain ⟨hsub, hsl⟩ := hS k h1 w1 hS1
 refine zd<|O<|Y X X (zal X X)<|U<|M<|zd ?_
 refine zt rfl (fun c1 => ?_) (fun c1 => ?_)
 ·replace c1 := of_decide_eq_true c1
  refine zz<|M<|zd<|zF<|zd<|O<|Y X X (zo X)<|Y X X (zx X)<|U<|M<|zd<|O<|Y X X (r_mvF X)<|Y X X (zy (v := v) X)<|Y X X (zo X) ?_
  have hy : ∃ y, xs[k]? = some y := ⟨_, List.getElem?_eq_getElem (by omega)⟩
  obtain ⟨y, hy⟩ := hy
  obtain ⟨b, o, vs, he, hc, hr⟩ := Sl.elem hsl hy
  refine Y X X (zp he X X (hk := X) (hu := Tryz.underlying25) (hz := Tryz.sizeOf70))<|Y X X (zf hsub hc X Tryz.isAgg70 Tryz.sizeOf70 (LRule.len hr)) ?_
  refine zad rfl rfl (run_call_value (fs := []) (cs := caps) rfl rfl hg rfl) ((hf k y h1 w1 _ hS1 hy hr _ rfl).mono ?_)
  rintro e w2 ⟨h2, rfl, hS2⟩
  refine ⟨_, rfl, ?_⟩
  refine U<|M ?_
  refine zt rfl (fun c2 => ?_) (fun c2 => ?_)
  ·refine zd ?_
   refine O<|Y X X (zo X)<|Y X X (zx X)<|U<|M<|zA ?_
   repeat (first | refine zL ?_ | refine zk ?_)
   refine zi Tryz.results134 ?_
   have hlt : k < xs.length := by omega
   exact ⟨h2, k, by rw [if_pos hlt]; rfl, hk, hp, fun _ => c2, by rw [if_pos hlt]; exact hS2⟩
  ·refine zz ?_
   refine zI<|M<|O ?_
   refine Y rfl rfl (zah rfl rfl (by omega)) ?_
   refine Y X X (zo X)<|U<|M ?_
   refine ⟨⟨k + 1, h2⟩, ⟨rfl, trivial⟩, ?_, ⟨hS2, by omega, ?_⟩, ?_⟩
   ·exact zae
   ·intro j hj
    rcases Nat.lt_or_ge j k with h3 | h3
    ·exact hp j h3
    ·obtain rfl : j = k := by omega
     exact c2
   ·show xs.length - (k + 1) < xs.length - k
    omega
 ·replace c1 := of_decide_eq_false c1
  refine zab<|zn<|zn<|zT<|M<|zd<|O<|Y X X (zx X)<|U<|M<|zA<|zi Tryz.results134 ?_
  have hlt : ¬ k < xs.length := by omega
  exact ⟨h1, k, by rw [if_neg hlt]; rfl, hk, hp, fun q => absurd q hlt, by rw [if_neg hlt]; exact hS1⟩

set_option maxRecDepth 4000 in
theorem c_slices_ContainsFunc_Lapi_Rule_api_Rule_st {xs : List Rule} {v : Value} {g : FuncId} {caps : List Value} (S : Nat → Heap → World → Prop) (p : Nat → Bool)
  (hS : ∀ k h w, S k h w → Sub h w ∧ Sl LRule h v xs)
  (hf : ∀ k x h w vs, S k h w → xs[k]? = some x → LRule.R h vs x → ∀ u, u = .agg vs.toArray → Calls Tryz.prog g (u :: caps).toArray w (fun e w' => ∃ h', e = .returned (.bool (p k)) ∧ S (k + 1) h' w'))
  (hg : ∀ a w, (callFunc g a).run Tryz.prog w = .ok (.enter g a) w) {h : Heap} {w : World} (h0 : S 0 h w) :
  Calls Tryz.prog 93 #[v, .func (.func g) #[] caps.toArray] w (fun e w' => ∃ h' k, e = .returned (.bool (decide (k < xs.length))) ∧ k ≤ xs.length ∧ (∀ j, j < k → p j = false) ∧ (k < xs.length → p k = true) ∧ S (if k < xs.length then k + 1 else k) h' w') := by
 refine zM (n := 9) (args := [v, .func (.func g) #[] caps.toArray]) Tryz.func93 X X X<|zd<|O<|Y X X (zJ X)<|U<|M<|zd<|O<|Y X X (zy (v := v) X)<|Y X X (r_mvF X) ?_
 refine zad rfl rfl (zaj rfl Tryz.call134 rfl) ((c_slices_IndexFunc_Lapi_Rule_api_Rule_st S p hS hf hg h0).mono ?_)
 rintro e w2 ⟨h2, k, rfl, q1, q2, q3, q4⟩
 refine ⟨_, rfl, ?_⟩
 refine Y X X (r_geq X X)<|Y X X (zJ X)<|U<|M<|zA<|zi Tryz.results93 ?_
 refine ⟨h2, k, congrArg Ending.returned (zw ?_), q1, q2, q3, q4⟩
 by_cases hlt : k < xs.length
 ·simp [hlt]
 ·simp [hlt]
theorem c_slices_ContainsFunc_Lapi_Rule_api_Rule {xs : List Rule} {v : Value} {g : FuncId} {caps : List Value} {h : Heap} {w : World} (hs : Sub h w) (hx : Sl LRule h v xs) (q : Rule → Bool)
  (hg : ∀ a w, (callFunc g a).run Tryz.prog w = .ok (.enter g a) w)
  (hf : ∀ x h' w' vs, Le h h' → Sub h' w' → x ∈ xs → LRule.R h' vs x → ∀ u, u = .agg vs.toArray → Calls Tryz.prog g (u :: caps).toArray w' (Rets h' w' fun _ _ r => r = .bool (q x))) :
  Calls Tryz.prog 93 #[v, .func (.func g) #[] caps.toArray] w (Rets h w fun _ _ r => r = .bool (xs.any q)) := by
 refine (c_slices_ContainsFunc_Lapi_Rule_api_Rule_st (fun k h' w' => St h w h' w' [] ∧ k ≤ xs.length) (fun k => ((xs[k]?).map q).getD false) (fun k h' w' hk => ⟨hk.1.sub, hx.up hk.1.le⟩) ?_ hg ⟨St.start hs, Nat.zero_le _⟩).mono ?_
 ·rintro k x h' w' vs ⟨st, _⟩ hk hr u hu
  refine (hf x h' w' vs st.le st.sub (List.mem_of_getElem? hk) hr u hu).mono ?_
  rintro e w'' ⟨h'', r, rfl, s, rfl⟩
  obtain ⟨hlt, _⟩ := List.getElem?_eq_some_iff.1 hk
  exact ⟨h'', by simp [hk], st.call0 s, hlt⟩
 ·rintro e w' ⟨h', k, rfl, q1, q2, q3, q4⟩
  refine ⟨h', _, rfl, q4.1, zw ?_⟩
  by_cases hlt : k < xs.length
  ·have h3 := q3 hlt
   rw [List.getElem?_eq_getElem hlt] at h3
   simp only [Option.map_some, Option.getD_some] at h3
   have : xs.any q = true := List.any_eq_true.2 ⟨_, List.getElem_mem hlt, h3⟩
   simp [hlt, this]
  ·have : xs.any q = false := by
    rw [List.any_eq_false]
    intro x hx'
    obtain ⟨j, hj⟩ := List.mem_iff_getElem?.1 hx'
    obtain ⟨h5, _⟩ := List.getElem?_eq_some_iff.1 hj
    have := q2 j (by omega)
    simpa [hj] using this
   simp [hlt, this]

set_option maxRecDepth 4000 in
theorem c_slices_IndexFunc_Lint_int_st {xs : List Int} {v : Value} {g : FuncId} {caps : List Value} (S : Nat → Heap → World → Prop) (p : Nat → Bool)
  (hS : ∀ k h w, S k h w → Sub h w ∧ Sl LInt h v xs)
  (hf : ∀ k x h w vs, S k h w → xs[k]? = some x → LInt.R h vs x → ∀ u, vs = [u] → Calls Tryz.prog g (u :: caps).toArray w (fun e w' => ∃ h', e = .returned (.bool (p k)) ∧ S (k + 1) h' w'))
  (hg : ∀ a w, (callFunc g a).run Tryz.prog w = .ok (.enter g a) w) {h : Heap} {w : World} (h0 : S 0 h w) :
  Calls Tryz.prog 135 #[v, .func (.func g) #[] caps.toArray] w (fun e w' => ∃ h' k, e = .returned (.int .i64 (if k < xs.length then (k : Int) else -1)) ∧ k ≤ xs.length ∧ (∀ j, j < k → p j = false) ∧ (k < xs.length → p k = true) ∧ S (if k < xs.length then k + 1 else k) h' w') := by
 refine zM (n := 19) (args := [v, .func (.func g) #[] caps.toArray]) Tryz.func135 X X X ?_
 have hb := (hS 0 h w h0).2.le
 refine zd<|O<|Y X X (zx X)<|U<|M<|zd<|zd<|O<|Y X X (zy (v := v) X)<|Y X X (zag (hS 0 h w h0).2 X Tryz.underlying39)<|Y X X (zo X)<|U<|M<|zF ?_
 refine zX [4, 5, 8, 9, 10, 11, 12, 13, 14, 15, 16, 17, 18] (G := Nat × Heap) (fun ⟨k, _⟩ => [(8, .int .i64 (k : Int))]) (fun ⟨k, h'⟩ w' => S k h' w' ∧ k ≤ xs.length ∧ ∀ j, j < k → p j = false) (fun ⟨k, _⟩ => xs.length - k) ⟨0, h⟩ ⟨rfl, trivial⟩ ⟨h0, by omega, by intros; omega⟩ ?_
 rintro ⟨k, h1⟩ _ w1 ⟨hS1, hk, hp⟩
 obtain ⟨hsub, hsl⟩ := hS k h1 w1 hS1
 refine zd<|O<|Y X X (zal X X)<|U<|M<|zd ?_
 refine zt rfl (fun c1 => ?_) (fun c1 => ?_)
 ·replace c1 := of_decide_eq_true c1
  refine zz<|M<|zd<|zF<|zd<|O<|Y X X (zo X)<|Y X X (zx X)<|U<|M<|zd<|O<|Y X X (r_mvF X)<|Y X X (zy (v := v) X)<|Y X X (zo X) ?_
  have hy : ∃ y, xs[k]? = some y := ⟨_, List.getElem?_eq_getElem (by omega)⟩
  obtain ⟨y, hy⟩ := hy
  obtain ⟨b, o, vs, he, hc, hr⟩ := Sl.elem hsl hy
  refine Y X X (zp he X X (hk := X) (hu := Tryz.underlying39) (hz := Tryz.sizeOf3)) ?_
  obtain ⟨u, rfl⟩ : ∃ u, vs = [u] := by
   have q := LInt.len hr
   match vs, q with
   | [u], _ => exact ⟨u, rfl⟩
  refine Y X X (zb (j := 0) hsub hc X X X Tryz.isAgg3) ?_
  refine zad rfl rfl (run_call_value (fs := []) (cs := caps) rfl rfl hg rfl) ((hf k y h1 w1 _ hS1 hy hr _ rfl).mono ?_)
  rintro e w2 ⟨h2, rfl, hS2⟩
  refine ⟨_, rfl, ?_⟩
  refine U<|M ?_
  refine zt rfl (fun c2 => ?_) (fun c2 => ?_)
  ·refine zd ?_
   refine O<|Y X X (zo X)<|Y X X (zx X)<|U<|M<|zA ?_
   repeat (first | refine zL ?_ | refine zk ?_)
   refine zi Tryz.results135 ?_
   have hlt : k < xs.length := by omega
   exact ⟨h2, k, by rw [if_pos hlt]; rfl, hk, hp, fun _ => c2, by rw [if_pos hlt]; exact hS2⟩
  ·refine zz ?_
   refine zI<|M<|O ?_
   refine Y rfl rfl (zah rfl rfl (by omega)) ?_
   refine Y X X (zo X)<|U<|M ?_
   refine ⟨⟨k + 1, h2⟩, ⟨rfl, trivial⟩, ?_, ⟨hS2, by omega, ?_⟩, ?_⟩
   ·exact zae
   ·intro j hj
    rcases Nat.lt_or_ge j k with h3 | h3
    ·exact hp j h3
    ·obtain rfl : j = k := by omega
     exact c2
   ·show xs.length - (k + 1) < xs.length - k
    omega
 ·replace c1 := of_decide_eq_false c1
  refine zab<|zn<|zn<|zT<|M<|zd<|O<|Y X X (zx X)<|U<|M<|zA<|zi Tryz.results135 ?_
  have hlt : ¬ k < xs.length := by omega
  exact ⟨h1, k, by rw [if_neg hlt]; rfl, hk, hp, fun q => absurd q hlt, by rw [if_neg hlt]; exact hS1⟩

set_option maxRecDepth 4000 in
theorem c_slices_ContainsFunc_Lint_int_st {xs : List Int} {v : Value} {g : FuncId} {caps : List Value} (S : Nat → Heap → World → Prop) (p : Nat → Bool)
  (hS : ∀ k h w, S k h w → Sub h w ∧ Sl LInt h v xs)
  (hf : ∀ k x h w vs, S k h w → xs[k]? = some x → LInt.R h vs x → ∀ u, vs = [u] → Calls Tryz.prog g (u :: caps).toArray w (fun e w' => ∃ h', e = .returned (.bool (p k)) ∧ S (k + 1) h' w'))
  (hg : ∀ a w, (callFunc g a).run Tryz.prog w = .ok (.enter g a) w) {h : Heap} {w : World} (h0 : S 0 h w) :
  Calls Tryz.prog 95 #[v, .func (.func g) #[] caps.toArray] w (fun e w' => ∃ h' k, e = .returned (.bool (decide (k < xs.length))) ∧ k ≤ xs.length ∧ (∀ j, j < k → p j = false) ∧ (k < xs.length → p k = true) ∧ S (if k < xs.length then k + 1 else k) h' w') := by
 refine zM (n := 9) (args := [v, .func (.func g) #[] caps.toArray]) Tryz.func95 X X X<|zd<|O<|Y X X (zJ X)<|U<|M<|zd<|O<|Y X X (zy (v := v) X)<|Y X X (r_mvF X) ?_
 refine zad rfl rfl (zaj rfl Tryz.call135 rfl) ((c_slices_IndexFunc_Lint_int_st S p hS hf hg h0).mono ?_)
 rintro e w2 ⟨h2, k, rfl, q1, q2, q3, q4⟩
 refine ⟨_, rfl, ?_⟩
 refine Y X X (r_geq X X)<|Y X X (zJ X)<|U<|M<|zA<|zi Tryz.results95 ?_
 refine ⟨h2, k, congrArg Ending.returned (zw ?_), q1, q2, q3, q4⟩
 by_cases hlt : k < xs.length
 ·simp [hlt]
 ·simp [hlt]
theorem c_slices_ContainsFunc_Lint_int {xs : List Int} {v : Value} {g : FuncId} {caps : List Value} {h : Heap} {w : World} (hs : Sub h w) (hx : Sl LInt h v xs) (q : Int → Bool)
  (hg : ∀ a w, (callFunc g a).run Tryz.prog w = .ok (.enter g a) w)
  (hf : ∀ x h' w' vs, Le h h' → Sub h' w' → x ∈ xs → LInt.R h' vs x → ∀ u, vs = [u] → Calls Tryz.prog g (u :: caps).toArray w' (Rets h' w' fun _ _ r => r = .bool (q x))) :
  Calls Tryz.prog 95 #[v, .func (.func g) #[] caps.toArray] w (Rets h w fun _ _ r => r = .bool (xs.any q)) := by
 refine (c_slices_ContainsFunc_Lint_int_st (fun k h' w' => St h w h' w' [] ∧ k ≤ xs.length) (fun k => ((xs[k]?).map q).getD false) (fun k h' w' hk => ⟨hk.1.sub, hx.up hk.1.le⟩) ?_ hg ⟨St.start hs, Nat.zero_le _⟩).mono ?_
 ·rintro k x h' w' vs ⟨st, _⟩ hk hr u hu
  refine (hf x h' w' vs st.le st.sub (List.mem_of_getElem? hk) hr u hu).mono ?_
  rintro e w'' ⟨h'', r, rfl, s, rfl⟩
  obtain ⟨hlt, _⟩ := List.getElem?_eq_some_iff.1 hk
  exact ⟨h'', by simp [hk], st.call0 s, hlt⟩
 ·rintro e w' ⟨h', k, rfl, q1, q2, q3, q4⟩
  refine ⟨h', _, rfl, q4.1, zw ?_⟩
  by_cases hlt : k < xs.length
  ·have h3 := q3 hlt
   rw [List.getElem?_eq_getElem hlt] at h3
   simp only [Option.map_some, Option.getD_some] at h3
   have : xs.any q = true := List.any_eq_true.2 ⟨_, List.getElem_mem hlt, h3⟩
   simp [hlt, this]
  ·have : xs.any q = false := by
    rw [List.any_eq_false]
    intro x hx'
    obtain ⟨j, hj⟩ := List.mem_iff_getElem?.1 hx'
    obtain ⟨h5, _⟩ := List.getElem?_eq_some_iff.1 hj
    have := q2 j (by omega)
    simpa [hj] using this
   simp [hlt, this]

set_option maxRecDepth 4000 in
theorem c_slices_IndexFunc_Lapi_Decision_api_Decision_st {xs : List Decision} {v : Value} {g : FuncId} {caps : List Value} (S : Nat → Heap → World → Prop) (p : Nat → Bool)
  (hS : ∀ k h w, S k h w → Sub h w ∧ Sl LDecision h v xs)
  (hf : ∀ k x h w vs, S k h w → xs[k]? = some x → LDecision.R h vs x → ∀ u, u = .agg vs.toArray → Calls Tryz.prog g (u :: caps).toArray w (fun e w' => ∃ h', e = .returned (.bool (p k)) ∧ S (k + 1) h' w'))
  (hg : ∀ a w, (callFunc g a).run Tryz.prog w = .ok (.enter g a) w) {h : Heap} {w : World} (h0 : S 0 h w) :
  Calls Tryz.prog 136 #[v, .func (.func g) #[] caps.toArray] w (fun e w' => ∃ h' k, e = .returned (.int .i64 (if k < xs.length then (k : Int) else -1)) ∧ k ≤ xs.length ∧ (∀ j, j < k → p j = false) ∧ (k < xs.length → p k = true) ∧ S (if k < xs.length then k + 1 else k) h' w') := by
 refine zM (n := 19) (args := [v, .func (.func g) #[] caps.toArray]) Tryz.func136 X X X ?_
 have hb := (hS 0 h w h0).2.le
 refine zd<|O<|Y X X (zx X)<|U<|M<|zd<|zd<|O<|Y X X (zy (v := v) X)<|Y X X (zag (hS 0 h w h0).2 X Tryz.underlying26)<|Y X X (zo X)<|U<|M<|zF ?_
 refine zX [4, 5, 8, 9, 10, 11, 12, 13, 14, 15, 16, 17, 18] (G := Nat × Heap) (fun ⟨k, _⟩ => [(8, .int .i64 (k : Int))]) (fun ⟨k, h'⟩ w' => S k h' w' ∧ k ≤ xs.length ∧ ∀ j, j < k → p j = false) (fun ⟨k, _⟩ => xs.length - k) ⟨0, h⟩ ⟨rfl, trivial⟩ ⟨h0, by omega, by intros; omega⟩ ?_
 rintro ⟨k, h1⟩ _ w1 ⟨hS1, hk, hp⟩
 obtain ⟨hsub, hsl⟩ := hS k h1 w1 hS1
 refine zd<|O<|Y X X (zal X X)<|U<|M<|zd ?_
 refine zt rfl (fun c1 => ?_) (fun c1 => ?_)
 ·replace c1 := of_decide_eq_true c1
  refine zz<|M<|zd<|zF<|zd<|O<|Y X X (zo X)<|Y X X (zx X)<|U<|M<|zd<|O<|Y X X (r_mvF X)<|Y X X (zy (v := v) X)<|Y X X (zo X) ?_
  have hy : ∃ y, xs[k]? = some y := ⟨_, List.getElem?_eq_getElem (by omega)⟩
  obtain ⟨y, hy⟩ := hy
  obtain ⟨b, o, vs, he, hc, hr⟩ := Sl.elem hsl hy
  refine Y X X (zp he X X (hk := X) (hu := Tryz.underlying26) (hz := Tryz.sizeOf56))<|Y X X (zf hsub hc X Tryz.isAgg56 Tryz.sizeOf56 (LDecision.len hr)) ?_
  refine zad rfl rfl (run_call_value (fs := []) (cs := caps) rfl rfl hg rfl) ((hf k y h1 w1 _ hS1 hy hr _ rfl).mono ?_)
  rintro e w2 ⟨h2, rfl, hS2⟩
  refine ⟨_, rfl, ?_⟩
  refine U<|M ?_
  refine zt rfl (fun c2 => ?_) (fun c2 => ?_)
  ·refine zd ?_
   refine O<|Y X X (zo X)<|Y X X (zx X)<|U<|M<|zA ?_
   repeat (first | refine zL ?_ | refine zk ?_)
   refine zi Tryz.results136 ?_
   have hlt : k < xs.length := by omega
   exact ⟨h2, k, by rw [if_pos hlt]; rfl, hk, hp, fun _ => c2, by rw [if_pos hlt]; exact hS2⟩
  ·refine zz ?_
   refine zI<|M<|O ?_
   refine Y rfl rfl (zah rfl rfl (by omega)) ?_
   refine Y X X (zo X)<|U<|M ?_
   refine ⟨⟨k + 1, h2⟩, ⟨rfl, trivial⟩, ?_, ⟨hS2, by omega, ?_⟩, ?_⟩
   ·exact zae
   ·intro j hj
    rcases Nat.lt_or_ge j k with h3 | h3
    ·exact hp j h3
    ·obtain rfl : j = k := by omega
     exact c2
   ·show xs.length - (k + 1) < xs.length - k
    omega
 ·replace c1 := of_decide_eq_false c1
  refine zab<|zn<|zn<|zT<|M<|zd<|O<|Y X X (zx X)<|U<|M<|zA<|zi Tryz.results136 ?_
  have hlt : ¬ k < xs.length := by omega
  exact ⟨h1, k, by rw [if_neg hlt]; rfl, hk, hp, fun q => absurd q hlt, by rw [if_neg hlt]; exact hS1⟩

set_option maxRecDepth 4000 in
theorem c_slices_ContainsFunc_Lapi_Decision_api_Decision_st {xs : List Decision} {v : Value} {g : FuncId} {caps : List Value} (S : Nat → Heap → World → Prop) (p : Nat → Bool)
  (hS : ∀ k h w, S k h w → Sub h w ∧ Sl LDecision h v xs)
  (hf : ∀ k x h w vs, S k h w → xs[k]? = some x → LDecision.R h vs x → ∀ u, u = .agg vs.toArray → Calls Tryz.prog g (u :: caps).toArray w (fun e w' => ∃ h', e = .returned (.bool (p k)) ∧ S (k + 1) h' w'))
  (hg : ∀ a w, (callFunc g a).run Tryz.prog w = .ok (.enter g a) w) {h : Heap} {w : World} (h0 : S 0 h w) :
  Calls Tryz.prog 97 #[v, .func (.func g) #[] caps.toArray] w (fun e w' => ∃ h' k, e = .returned (.bool (decide (k < xs.length))) ∧ k ≤ xs.length ∧ (∀ j, j < k → p j = false) ∧ (k < xs.length → p k = true) ∧ S (if k < xs.length then k + 1 else k) h' w') := by
 refine zM (n := 9) (args := [v, .func (.func g) #[] caps.toArray]) Tryz.func97 X X X<|zd<|O<|Y X X (zJ X)<|U<|M<|zd<|O<|Y X X (zy (v := v) X)<|Y X X (r_mvF X) ?_
 refine zad rfl rfl (zaj rfl Tryz.call136 rfl) ((c_slices_IndexFunc_Lapi_Decision_api_Decision_st S p hS hf hg h0).mono ?_)
 rintro e w2 ⟨h2, k, rfl, q1, q2, q3, q4⟩
 refine ⟨_, rfl, ?_⟩
 refine Y X X (r_geq X X)<|Y X X (zJ X)<|U<|M<|zA<|zi Tryz.results97 ?_
 refine ⟨h2, k, congrArg Ending.returned (zw ?_), q1, q2, q3, q4⟩
 by_cases hlt : k < xs.length
 ·simp [hlt]
 ·simp [hlt]
theorem c_slices_ContainsFunc_Lapi_Decision_api_Decision {xs : List Decision} {v : Value} {g : FuncId} {caps : List Value} {h : Heap} {w : World} (hs : Sub h w) (hx : Sl LDecision h v xs) (q : Decision → Bool)
  (hg : ∀ a w, (callFunc g a).run Tryz.prog w = .ok (.enter g a) w)
  (hf : ∀ x h' w' vs, Le h h' → Sub h' w' → x ∈ xs → LDecision.R h' vs x → ∀ u, u = .agg vs.toArray → Calls Tryz.prog g (u :: caps).toArray w' (Rets h' w' fun _ _ r => r = .bool (q x))) :
  Calls Tryz.prog 97 #[v, .func (.func g) #[] caps.toArray] w (Rets h w fun _ _ r => r = .bool (xs.any q)) := by
 refine (c_slices_ContainsFunc_Lapi_Decision_api_Decision_st (fun k h' w' => St h w h' w' [] ∧ k ≤ xs.length) (fun k => ((xs[k]?).map q).getD false) (fun k h' w' hk => ⟨hk.1.sub, hx.up hk.1.le⟩) ?_ hg ⟨St.start hs, Nat.zero_le _⟩).mono ?_
 ·rintro k x h' w' vs ⟨st, _⟩ hk hr u hu
  refine (hf x h' w' vs st.le st.sub (List.mem_of_getElem? hk) hr u hu).mono ?_
  rintro e w'' ⟨h'', r, rfl, s, rfl⟩
  obtain ⟨hlt, _⟩ := List.getElem?_eq_some_iff.1 hk
  exact ⟨h'', by simp [hk], st.call0 s, hlt⟩
 ·rintro e w' ⟨h', k, rfl, q1, q2, q3, q4⟩
  refine ⟨h', _, rfl, q4.1, zw ?_⟩
  by_cases hlt : k < xs.length
  ·have h3 := q3 hlt
   rw [List.getElem?_eq_getElem hlt] at h3
   simp only [Option.map_some, Option.getD_some] at h3
   have : xs.any q = true := List.any_eq_true.2 ⟨_, List.getElem_mem hlt, h3⟩
   simp [hlt, this]
  ·have : xs.any q = false := by
    rw [List.any_eq_false]
    intro x hx'
    obtain ⟨j, hj⟩ := List.mem_iff_getElem?.1 hx'
    obtain ⟨h5, _⟩ := List.getElem?_eq_some_iff.1 hj
    have := q2 j (by omega)
    simpa [hj] using this
   simp [hlt, this]

set_option maxRecDepth 4000 in
theorem c_slices_IndexFunc_Lbyte_byte_st {xs : List Int} {v : Value} {g : FuncId} {caps : List Value} (S : Nat → Heap → World → Prop) (p : Nat → Bool)
  (hS : ∀ k h w, S k h w → Sub h w ∧ Sl LU8 h v xs)
  (hf : ∀ k x h w vs, S k h w → xs[k]? = some x → LU8.R h vs x → ∀ u, vs = [u] → Calls Tryz.prog g (u :: caps).toArray w (fun e w' => ∃ h', e = .returned (.bool (p k)) ∧ S (k + 1) h' w'))
  (hg : ∀ a w, (callFunc g a).run Tryz.prog w = .ok (.enter g a) w) {h : Heap} {w : World} (h0 : S 0 h w) :
  Calls Tryz.prog 178 #[v, .func (.func g) #[] caps.toArray] w (fun e w' => ∃ h' k, e = .returned (.int .i64 (if k < xs.length then (k : Int) else -1)) ∧ k ≤ xs.length ∧ (∀ j, j < k → p j = false) ∧ (k < xs.length → p k = true) ∧ S (if k < xs.length then k + 1 else k) h' w') := by
 refine zM (n := 19) (args := [v, .func (.func g) #[] caps.toArray]) Tryz.func178 X X X ?_
 have hb := (hS 0 h w h0).2.le
 refine zd<|O<|Y X X (zx X)<|U<|M<|zd<|zd<|O<|Y X X (zy (v := v) X)<|Y X X (zag (hS 0 h w h0).2 X Tryz.underlying195)<|Y X X (zo X)<|U<|M<|zF ?_
 refine zX [4, 5, 8, 9, 10, 11, 12, 13, 14, 15, 16, 17, 18] (G := Nat × Heap) (fun ⟨k, _⟩ => [(8, .int .i64 (k : Int))]) (fun ⟨k, h'⟩ w' => S k h' w' ∧ k ≤ xs.length ∧ ∀ j, j < k → p j = false) (fun ⟨k, _⟩ => xs.length - k) ⟨0, h⟩ ⟨rfl, trivial⟩ ⟨h0, by omega, by intros; omega⟩ ?_
 rintro ⟨k, h1⟩ _ w1 ⟨hS1, hk, hp⟩
 obtain ⟨hsub, hsl⟩ := hS k h1 w1 hS1
 refine zd<|O<|Y X X (zal X X)<|U<|M<|zd ?_
 refine zt rfl (fun c1 => ?_) (fun c1 => ?_)
 ·replace c1 := of_decide_eq_true c1
  refine zz<|M<|zd<|zF<|zd<|O<|Y X X (zo X)<|Y X X (zx X)<|U<|M<|zd<|O<|Y X X (r_mvF X)<|Y X X (zy (v := v) X)<|Y X X (zo X) ?_
  have hy : ∃ y, xs[k]? = some y := ⟨_, List.getElem?_eq_getElem (by omega)⟩
  obtain ⟨y, hy⟩ := hy
  obtain ⟨b, o, vs, he, hc, hr⟩ := Sl.elem hsl hy
  refine Y X X (zp he X X (hk := X) (hu := Tryz.underlying195) (hz := Tryz.sizeOf5)) ?_
  obtain ⟨u, rfl⟩ : ∃ u, vs = [u] := by
   have q := LU8.len hr
   match vs, q with
   | [u], _ => exact ⟨u, rfl⟩
  refine Y X X (zb (j := 0) hsub hc X X X Tryz.isAgg5) ?_
  refine zad rfl rfl (run_call_value (fs := []) (cs := caps) rfl rfl hg rfl) ((hf k y h1 w1 _ hS1 hy hr _ rfl).mono ?_)
  rintro e w2 ⟨h2, rfl, hS2⟩
  refine ⟨_, rfl, ?_⟩
  refine U<|M ?_
  refine zt rfl (fun c2 => ?_) (fun c2 => ?_)
  ·refine zd ?_
   refine O<|Y X X (zo X)<|Y X X (zx X)<|U<|M<|zA ?_
   repeat (first | refine zL ?_ | refine zk ?_)
   refine zi Tryz.results178 ?_
   have hlt : k < xs.length := by omega
   exact ⟨h2, k, by rw [if_pos hlt]; rfl, hk, hp, fun _ => c2, by rw [if_pos hlt]; exact hS2⟩
  ·refine zz ?_
   refine zI<|M<|O ?_
   refine Y rfl rfl (zah rfl rfl (by omega)) ?_
   refine Y X X (zo X)<|U<|M ?_
   refine ⟨⟨k + 1, h2⟩, ⟨rfl, trivial⟩, ?_, ⟨hS2, by omega, ?_⟩, ?_⟩
   ·exact zae
   ·intro j hj
    rcases Nat.lt_or_ge j k with h3 | h3
    ·exact hp j h3
    ·obtain rfl : j = k := by omega
     exact c2
   ·show xs.length - (k + 1) < xs.length - k
    omega
 ·replace c1 := of_decide_eq_false c1
  refine zab<|zn<|zn<|zT<|M<|zd<|O<|Y X X (zx X)<|U<|M<|zA<|zi Tryz.results178 ?_
  have hlt : ¬ k < xs.length := by omega
  exact ⟨h1, k, by rw [if_neg hlt]; rfl, hk, hp, fun q => absurd q hlt, by rw [if_neg hlt]; exact hS1⟩

set_option maxRecDepth 4000 in
theorem c_slices_ContainsFunc_Lbyte_byte_st {xs : List Int} {v : Value} {g : FuncId} {caps : List Value} (S : Nat → Heap → World → Prop) (p : Nat → Bool)
  (hS : ∀ k h w, S k h w → Sub h w ∧ Sl LU8 h v xs)
  (hf : ∀ k x h w vs, S k h w → xs[k]? = some x → LU8.R h vs x → ∀ u, vs = [u] → Calls Tryz.prog g (u :: caps).toArray w (fun e w' => ∃ h', e = .returned (.bool (p k)) ∧ S (k + 1) h' w'))
  (hg : ∀ a w, (callFunc g a).run Tryz.prog w = .ok (.enter g a) w) {h : Heap} {w : World} (h0 : S 0 h w) :
  Calls Tryz.prog 132 #[v, .func (.func g) #[] caps.toArray] w (fun e w' => ∃ h' k, e = .returned (.bool (decide (k < xs.length))) ∧ k ≤ xs.length ∧ (∀ j, j < k → p j = false) ∧ (k < xs.length → p k = true) ∧ S (if k < xs.length then k + 1 else k) h' w') := by
 refine zM (n := 9) (args := [v, .func (.func g) #[] caps.toArray]) Tryz.func132 X X X<|zd<|O<|Y X X (zJ X)<|U<|M<|zd<|O<|Y X X (zy (v := v) X)<|Y X X (r_mvF X) ?_
 refine zad rfl rfl (zaj rfl Tryz.call178 rfl) ((c_slices_IndexFunc_Lbyte_byte_st S p hS hf hg h0).mono ?_)
 rintro e w2 ⟨h2, k, rfl, q1, q2, q3, q4⟩
 refine ⟨_, rfl, ?_⟩
 refine Y X X (r_geq X X)<|Y X X (zJ X)<|U<|M<|zA<|zi Tryz.results132 ?_
 refine ⟨h2, k, congrArg Ending.returned (zw ?_), q1, q2, q3, q4⟩
 by_cases hlt : k < xs.length
 ·simp [hlt]
 ·simp [hlt]
theorem c_slices_ContainsFunc_Lbyte_byte {xs : List Int} {v : Value} {g : FuncId} {caps : List Value} {h : Heap} {w : World} (hs : Sub h w) (hx : Sl LU8 h v xs) (q : Int → Bool)
  (hg : ∀ a w, (callFunc g a).run Tryz.prog w = .ok (.enter g a) w)
  (hf : ∀ x h' w' vs, Le h h' → Sub h' w' → x ∈ xs → LU8.R h' vs x → ∀ u, vs = [u] → Calls Tryz.prog g (u :: caps).toArray w' (Rets h' w' fun _ _ r => r = .bool (q x))) :
  Calls Tryz.prog 132 #[v, .func (.func g) #[] caps.toArray] w (Rets h w fun _ _ r => r = .bool (xs.any q)) := by
 refine (c_slices_ContainsFunc_Lbyte_byte_st (fun k h' w' => St h w h' w' [] ∧ k ≤ xs.length) (fun k => ((xs[k]?).map q).getD false) (fun k h' w' hk => ⟨hk.1.sub, hx.up hk.1.le⟩) ?_ hg ⟨St.start hs, Nat.zero_le _⟩).mono ?_
 ·rintro k x h' w' vs ⟨st, _⟩ hk hr u hu
  refine (hf x h' w' vs st.le st.sub (List.mem_of_getElem? hk) hr u hu).mono ?_
  rintro e w'' ⟨h'', r, rfl, s, rfl⟩
  obtain ⟨hlt, _⟩ := List.getElem?_eq_some_iff.1 hk
  exact ⟨h'', by simp [hk], st.call0 s, hlt⟩
 ·rintro e w' ⟨h', k, rfl, q1, q2, q3, q4⟩
  refine ⟨h', _, rfl, q4.1, zw ?_⟩
  by_cases hlt : k < xs.length
  ·have h3 := q3 hlt
   rw [List.getElem?_eq_getElem hlt] at h3
   simp only [Option.map_some, Option.getD_some] at h3
   have : xs.any q = true := List.any_eq_true.2 ⟨_, List.getElem_mem hlt, h3⟩
   simp [hlt, this]
  ·have : xs.any q = false := by
    rw [List.any_eq_false]
    intro x hx'
    obtain ⟨j, hj⟩ := List.mem_iff_getElem?.1 hx'
    obtain ⟨h5, _⟩ := List.getElem?_eq_some_iff.1 hj
    have := q2 j (by omega)
    simpa [hj] using this
   simp [hlt, this]
end Go.Pk
