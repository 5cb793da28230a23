/- A PART OF THE PROOF: contracts of functions, each walked once (much of it printed by a program of the author's own). -/
import Derived.Test.YtngmpkoobdkeiaaGreatDoorT6
import Derived.Test.YtngmpkoobdkeiaaGreatDoorT3
namespace Go.Pk
open Go Go.RowKit Go.Proofs
set_option maxRecDepth 4000 in
theorem c_leaf_in_1 {h : Heap} {w : World} (hs : Sub h w) (n : Int) {lo_b : Nat} {lo : Int} (lo_c : Cells h lo_b 0 [.int .i64 lo]) {hi_b : Nat} {hi : Int} (hi_c : Cells h hi_b 0 [.int .i64 hi]) : Calls Tryz.prog 130 #[.int .i64 n, .pointer (some ⟨lo_b, 0, none⟩), .pointer (some ⟨hi_b, 0, none⟩)] w (Rets h w (fun _ _ res_ => res_ = .bool ((decide (n < lo) || decide (hi < n))))) := by
 refine zM (n := 13) (args := [.int .i64 n, .pointer (some ⟨lo_b, 0, none⟩), .pointer (some ⟨hi_b, 0, none⟩)]) Tryz.func130 X X X ?_
 have st0 : St h w h w [] := St.start hs
 refine zd<|O<|Y X X (zJ X)<|U<|M<|zd<|O<|Y X X (zo X)<|Y X X (zb (j := 0) st0.sub lo_c X X X Tryz.isAgg3)<|Y X X (zal X X)<|Y X X (zN X) ?_
 refine zG (d := 8) rfl (fun g1 => ?_) (fun g1 => ?_)
 ·
  replace g1 := of_decide_eq_true g1
  refine E X X (d := 8) X X X<|E X X (d := 8) X X X<|E X X (d := 8) X X X<|Y X X (zK (v := (.bool _)) X X)<|Y X X (zJ X)<|U<|M<|zA<|zi Tryz.results130 ?_
  refine ⟨h, _, rfl, st0.done, ?_⟩
  refine zw ?_
  first | (simp_all; done) | (simp_all; omega)
 ·
  replace g1 := of_decide_eq_false g1
  refine za X X (d := 8) X<|Y X X (zo X)<|za X X (d := 8) X<|Y X X (zb (j := 0) st0.sub hi_c X X X Tryz.isAgg3)<|za X X (d := 8) X<|Y X X (r_gtr X X)<|Y X X (zC (v := (.bool _)) X X)<|Y X X (zJ X)<|U<|M<|zA<|zi Tryz.results130 ?_
  refine ⟨h, _, rfl, st0.done, ?_⟩
  refine zw ?_
  first | (simp_all; done) | (simp_all; omega)
set_option maxRecDepth 4000 in
theorem c_leaf_in {h : Heap} {w : World} (hs : Sub h w) (lo : Int) (hi : Int) {all__v : Value} {all_ : (List Int)} (all__f : Sl LInt h all__v all_) : Calls Tryz.prog 89 #[.int .i64 lo, .int .i64 hi, all__v] w (Rets h w (fun _ _ res_ => res_ = .bool (inAll all_ lo hi))) := by
 refine zM (n := 11) (args := [.int .i64 lo, .int .i64 hi, all__v]) Tryz.func89 X X X ?_
 have st0 : St h w h w [] := St.start hs
 have all__f_b := all__f.le
 refine zd<|O<|zr st0 (cs := [.int .i64 lo]) X X X ?_
 intro b1 w2 h3 le4 hc5 st6
 refine zr st6 (cs := [.int .i64 hi]) X X X ?_
 intro b7 w8 h9 le10 hc11 st12
 refine Y X X (zJ X)<|U<|M<|zd<|O<|Y X X (zy (v := all__v) X)<|Y X X (r_make_func X X) ?_
 refine zm st12 rfl rfl rfl Tryz.call95 rfl (c_slices_ContainsFunc_Lint_int st12.sub (all__f.up (le4.trans le10)) (fun x_ => (decide ((x_) < (lo)) || decide ((hi) < (x_)))) Tryz.call130 (fun x_ h_ w_ vs_ le_ hs_ hx_ hr_ u_ hu_ => by cases hu_; cases hr_; exact c_leaf_in_1 hs_ _ (lo := lo) ((hc5.up le10).up le_) (hi := hi) (hc11.up le_))) ?_
 intro r13 w14 h15 le16 st17 q18
 obtain rfl := q18
 refine Y X X (r_not X)<|Y X X (zJ X)<|U<|M<|zA<|zi Tryz.results89 ?_
 refine ⟨h15, _, rfl, st17.done, ?_⟩
 refine zw ?_
 exact inAll_eq all_ lo hi
set_option maxRecDepth 4000 in
theorem c_stem_in_1 {h : Heap} {w : World} (hs : Sub h w) (n : Int) {lo_b : Nat} {lo : Int} (lo_c : Cells h lo_b 0 [.int .i64 lo]) {hi_b : Nat} {hi : Int} (hi_c : Cells h hi_b 0 [.int .i64 hi]) : Calls Tryz.prog 96 #[.int .i64 n, .pointer (some ⟨lo_b, 0, none⟩), .pointer (some ⟨hi_b, 0, none⟩)] w (Rets h w (fun _ _ res_ => res_ = .bool ((decide (n < lo) || decide (hi < n))))) := by
 refine zM (n := 13) (args := [.int .i64 n, .pointer (some ⟨lo_b, 0, none⟩), .pointer (some ⟨hi_b, 0, none⟩)]) Tryz.func96 X X X ?_
 have st0 : St h w h w [] := St.start hs
 refine zd<|O<|Y X X (zJ X)<|U<|M<|zd<|O<|Y X X (zo X)<|Y X X (zb (j := 0) st0.sub lo_c X X X Tryz.isAgg3)<|Y X X (zal X X)<|Y X X (zN X) ?_
 refine zG (d := 8) rfl (fun g1 => ?_) (fun g1 => ?_)
 ·
  replace g1 := of_decide_eq_true g1
  refine E X X (d := 8) X X X<|E X X (d := 8) X X X<|E X X (d := 8) X X X<|Y X X (zK (v := (.bool _)) X X)<|Y X X (zJ X)<|U<|M<|zA<|zi Tryz.results96 ?_
  refine ⟨h, _, rfl, st0.done, ?_⟩
  refine zw ?_
  first | (simp_all; done) | (simp_all; omega)
 ·
  replace g1 := of_decide_eq_false g1
  refine za X X (d := 8) X<|Y X X (zo X)<|za X X (d := 8) X<|Y X X (zb (j := 0) st0.sub hi_c X X X Tryz.isAgg3)<|za X X (d := 8) X<|Y X X (r_gtr X X)<|Y X X (zC (v := (.bool _)) X X)<|Y X X (zJ X)<|U<|M<|zA<|zi Tryz.results96 ?_
  refine ⟨h, _, rfl, st0.done, ?_⟩
  refine zw ?_
  first | (simp_all; done) | (simp_all; omega)
set_option maxRecDepth 4000 in
theorem c_stem_in {h : Heap} {w : World} (hs : Sub h w) (lo : Int) (hi : Int) {all__v : Value} {all_ : (List Int)} (all__f : Sl LInt h all__v all_) : Calls Tryz.prog 50 #[.int .i64 lo, .int .i64 hi, all__v] w (Rets h w (fun _ _ res_ => res_ = .bool (inAll all_ lo hi))) := by
 refine zM (n := 11) (args := [.int .i64 lo, .int .i64 hi, all__v]) Tryz.func50 X X X ?_
 have st0 : St h w h w [] := St.start hs
 have all__f_b := all__f.le
 refine zd<|O<|zr st0 (cs := [.int .i64 lo]) X X X ?_
 intro b1 w2 h3 le4 hc5 st6
 refine zr st6 (cs := [.int .i64 hi]) X X X ?_
 intro b7 w8 h9 le10 hc11 st12
 refine Y X X (zJ X)<|U<|M<|zd<|O<|Y X X (zy (v := all__v) X)<|Y X X (r_make_func X X) ?_
 refine zm st12 rfl rfl rfl Tryz.call95 rfl (c_slices_ContainsFunc_Lint_int st12.sub (all__f.up (le4.trans le10)) (fun x_ => (decide ((x_) < (lo)) || decide ((hi) < (x_)))) Tryz.call96 (fun x_ h_ w_ vs_ le_ hs_ hx_ hr_ u_ hu_ => by cases hu_; cases hr_; exact c_stem_in_1 hs_ _ (lo := lo) ((hc5.up le10).up le_) (hi := hi) (hc11.up le_))) ?_
 intro r13 w14 h15 le16 st17 q18
 obtain rfl := q18
 refine Y X X (r_not X)<|Y X X (zJ X)<|U<|M<|zA<|zi Tryz.results50 ?_
 refine ⟨h15, _, rfl, st17.done, ?_⟩
 refine zw ?_
 exact inAll_eq all_ lo hi
set_option maxRecDepth 4000 in
theorem c_leaf_word_1 {h : Heap} {w : World} (hs : Sub h w) (b : Int) (b_l : 0 ≤ b ∧ b ≤ 255) : Calls Tryz.prog 133 #[.int .u8 b] w (Rets h w (fun _ _ res_ => res_ = .bool ((decide (b < 97) || decide (122 < b))))) := by
 refine zM (n := 9) (args := [.int .u8 b]) Tryz.func133 X X X ?_
 have st0 : St h w h w [] := St.start hs
 refine zd<|O<|Y X X (zJ X)<|U<|M<|zd<|O<|Y X X (zo X)<|Y X X (zal X X)<|Y X X (zN X) ?_
 refine zG (d := 5) rfl (fun g1 => ?_) (fun g1 => ?_)
 ·
  replace g1 := of_decide_eq_true g1
  refine E X X (d := 5) X X X<|E X X (d := 5) X X X<|Y X X (zK (v := (.bool _)) X X)<|Y X X (zJ X)<|U<|M<|zA<|zi Tryz.results133 ?_
  refine ⟨h, _, rfl, st0.done, ?_⟩
  refine zw ?_
  first | (simp_all; done) | (simp_all; omega)
 ·
  replace g1 := of_decide_eq_false g1
  refine za X X (d := 5) X<|Y X X (zo X)<|za X X (d := 5) X<|Y X X (r_gtr X X)<|Y X X (zC (v := (.bool _)) X X)<|Y X X (zJ X)<|U<|M<|zA<|zi Tryz.results133 ?_
  refine ⟨h, _, rfl, st0.done, ?_⟩
  refine zw ?_
  first | (simp_all; done) | (simp_all; omega)
set_option maxRecDepth 4000 in
theorem c_leaf_word {h : Heap} {w : World} (hs : Sub h w) (s : Str) (s_le : s.length ≤ 281474976710656) : Calls Tryz.prog 92 #[strV s] w (Rets h w (fun _ _ res_ => res_ = .bool (wordB s))) := by
 refine zM (n := 13) (args := [strV s]) Tryz.func92 X X X ?_
 have st0 : St h w h w [] := St.start hs
 refine zd<|O<|Y X X (zJ X)<|U<|M<|zd<|O<|Y X X (r_mvS X)<|Y X X (zar X Tryz.underlying9)<|zV (L := LInt) (xs := [(s.length : Int)]) (cs := [.int .i64 (s.length : Int)]) st0 (Enc.cons (L := LInt) (vs := [.int .i64 (s.length : Int)]) (x := (s.length : Int)) (h := h) (X) Enc.nil) X X X Tryz.underlying39 Tryz.info3 X X X t_kr ?_
 intro v1 w2 h5 le6 f3 st4
 refine zm st4 X X X Tryz.call89 X (c_leaf_in st4.sub _ _ f3) ?_
 intro r7 w8 h9 le10 st11 q12
 obtain rfl := q12
 refine Y X X (zN X) ?_
 refine zG (d := 7) rfl (fun g13 => ?_) (fun g13 => ?_)
 ·
  refine za X X (d := 7) X<|Y X X (r_mvS X)<|za X X (d := 7) X ?_
  refine OpsL.strBytes st11 (s := s) rfl (by first | assumption | omega | (simp; omega)) rfl Tryz.underlying9 Tryz.underlying195 Tryz.underlying5 Tryz.sizeOf5 ?_
  intro v14 w15 h16 le17 f18 st19
  refine za X X (d := 7) X ?_
  refine zm st19 rfl rfl rfl Tryz.call132 rfl (c_slices_ContainsFunc_Lbyte_byte st19.sub f18 (fun x_ => (decide ((x_) < 97) || decide (122 < (x_)))) Tryz.call133 (fun x_ h_ w_ vs_ le_ hs_ hx_ hr_ u_ hu_ => by cases hu_; obtain ⟨hr1_, hr2_⟩ := hr_; cases hr1_; exact c_leaf_word_1 hs_ _ hr2_)) ?_
  intro r20 w21 h22 le23 st24 q25
  obtain rfl := q25
  refine za X X (d := 7) X<|Y X X (r_not X)<|Y X X (zK (v := (.bool _)) X X)<|Y X X (zJ X)<|U<|M<|zA<|zi Tryz.results92 ?_
  refine ⟨h22, _, rfl, st24.done, ?_⟩
  refine zw ?_
  simp_all [wordB_eq]
 ·
  refine E X X (d := 7) X X X<|E X X (d := 7) X X X<|E X X (d := 7) X X X<|E X X (d := 7) X X X<|Y X X (zC (v := (.bool _)) X X)<|Y X X (zJ X)<|U<|M<|zA<|zi Tryz.results92 ?_
  refine ⟨h9, _, rfl, st11.done, ?_⟩
  refine zw ?_
  simp_all [wordB_eq]
set_option maxRecDepth 4000 in
theorem c_leaf_Check_1 {h : Heap} {w : World} (hs : Sub h w) (s : Str) (s_le : s.length ≤ 281474976710656) : Calls Tryz.prog 91 #[strV s] w (Rets h w (fun _ _ res_ => res_ = .bool ((!wordB s)))) := by
 refine zM (n := 6) (args := [strV s]) Tryz.func91 X X X ?_
 have st0 : St h w h w [] := St.start hs
 refine zd<|O<|Y X X (zJ X)<|U<|M<|zd<|O<|Y X X (r_mvS X)<|zm st0 X X X Tryz.call92 X (c_leaf_word st0.sub _ zZ) ?_
 intro r1 w2 h3 le4 st5 q6
 obtain rfl := q6
 refine Y X X (r_not X)<|Y X X (zJ X)<|U<|M<|zA<|zi Tryz.results91 ?_
 refine ⟨h3, _, rfl, st5.done, ?_⟩
 refine zw ?_
 rfl
set_option maxRecDepth 4000 in
theorem c_leaf_Check {h : Heap} {w : World} (hs : Sub h w) {t : Text} {t_v0 : Value} (t_f0 : Sl LChapter h t_v0 t.chapters) : Calls Tryz.prog 47 #[.agg #[t_v0]] w (Rets h w (fun _ _ res_ => res_ = .int .i64 ((if textB t then 0 else 10)))) := by
 refine zM (n := 64) (args := [.agg #[t_v0]]) Tryz.func47 X X X ?_
 have st0 : St h w h w [] := St.start hs
 have t_f0_b := t_f0.le
 refine zd<|O<|zr st0 (cs := [t_v0]) X X X ?_
 intro b1 w2 h3 le4 hc5 st6
 refine Y X X (zx X)<|U<|M<|W.scope<|zd<|zd<|O<|Y X X (zc X Tryz.underlying24 X Tryz.sizeOf22 X)<|Y X X (zb (j := 0) st6.sub hc5 X X X Tryz.isAgg22)<|Y X X (zag (t_f0.up le4) X Tryz.underlying22)<|zV (L := LInt) (xs := [(t.chapters.length : Int)]) (cs := [.int .i64 (t.chapters.length : Int)]) st6 (Enc.cons (L := LInt) (vs := [.int .i64 (t.chapters.length : Int)]) (x := (t.chapters.length : Int)) (h := h3) (X) Enc.nil) X X X Tryz.underlying39 Tryz.info3 X X X t_kr ?_
 intro v7 w8 h11 le12 f9 st10
 refine zm st10 X X X Tryz.call89 X (c_leaf_in st10.sub _ _ f9) ?_
 intro r13 w14 h15 le16 st17 q18
 obtain rfl := q18
 refine Y X X (r_not X)<|U<|M ?_
 refine zt rfl (fun c19 => ?_) (fun c19 => ?_)
 ·
  refine zd<|O<|Y X X (zx X)<|U<|M<|zA<|zk<|NoGo.ret<|zi Tryz.results47 ?_
  refine ⟨h15, _, rfl, st17.done, ?_⟩
  refine zW ?_
  simp_all [textB]
 ·
  refine zz<|M<|zd<|O<|Y X X (zx X)<|U<|M<|zd<|O<|OpsL.makeMap (κ := Int) (υ := Bool) (ek := (fun n : Int => .int .i64 n)) (eu := (fun b : Bool => .bool b)) st17 X ?_
  intro v20 o21 w22 f23 st24
  obtain ⟨mb25, rfl⟩ := f23.form
  have nd26 : (([] : List (Int × Bool)).map (·.1)).Nodup := by simp
  refine Y X X (zD (v := (.map (some mb25))) X)<|U<|M<|zd<|W.label<|M<|zd<|zd<|O<|Y X X (zc X Tryz.underlying24 X Tryz.sizeOf22 X)<|Y X X (zb (j := 0) st24.sub (hc5.up (le12.trans le16)) X X X Tryz.isAgg22)<|Y X X (zag (t_f0.up ((le4.trans le12).trans le16)) X Tryz.underlying22)<|Y X X (zo X)<|U<|M<|zF ?_
  refine zX [2, 3, 6, 8, 19, 20, 21, 22, 23, 24, 25, 26, 27, 28, 29, 30, 31, 32, 33, 34, 35, 36, 37, 38, 39, 40, 41, 42, 43, 44, 45, 46, 47, 48, 49, 50, 51, 52, 53, 54, 55, 56, 57, 58, 59, 60, 61, 62] (G := Nat × List (Int × Bool) × List (Nat × Obj) × Heap) (fun ⟨i, m, o_4, h27⟩ => [(3, .int .i64 0), (19, .int .i64 (i : Int))]) (fun ⟨i, m, o_4, h27⟩ w' => Le h15 h27 ∧ St h w h27 w' [o_4] ∧ (OM (fun n : Int => .int .i64 n) (fun b : Bool => .bool b) (m) o_4 (.map (some mb25))) ∧ (((m).map (·.1)).Nodup) ∧ (i ≤ t.chapters.length) ∧ ((t.chapters.take i).all chapterB = true) ∧ (((t.chapters.take i).map (·.id)).Nodup) ∧ (∀ k, (look m k).getD false = decide (k ∈ (t.chapters.take i).map (·.id)))) (fun ⟨i, m, o_4, h27⟩ => t.chapters.length - i) ⟨0, [], o21, h15⟩ ⟨rfl, rfl, trivial⟩ ⟨Le.refl _, st24, (by have q := f23; exact q), (by have q := nd26; exact q), zak, zak, zak, (by intro k; simp [look])⟩ ?_
  rintro ⟨i, m, o_4, h27⟩ _ w30 ⟨le28, st29, hM_4, hN_4, hi, hA, hN, hm⟩
  refine zd<|O<|Y X X (zal X X)<|U<|M<|zd ?_
  refine zt rfl (fun c31 => ?_) (fun c31 => ?_)
  ·
   replace c31 := of_decide_eq_true c31
   refine zz<|M<|zd<|zF<|zd<|O ?_
   have hc : ∃ y_, (t.chapters)[i]? = some y_ := ⟨_, List.getElem?_eq_getElem (by omega)⟩
   obtain ⟨c, hc⟩ := hc
   obtain ⟨b32, o33, _, he35, hc34, hr_c⟩ := Sl.elem (t_f0.up (((le4.trans le12).trans le16).trans le28)) hc
   obtain ⟨v36, rfl, f37⟩ := hr_c
   have f37_b := f37.le
   refine Y X X (zp he35 X X (hk := X) (hu := Tryz.underlying22) (hz := Tryz.sizeOf93))<|Y X X (zf st29.sub hc34 X Tryz.isAgg93 Tryz.sizeOf93 X)<|zO st29 Tryz.zeroValue93 X X ?_
   intro b38 w39 st40
   refine zB st40 (k := 1) X X X (zg X (zg f37.one zU)) Tryz.sizeOf93 X X X ?_
   intro w41 st42
   obtain ⟨h43, le44, hb45, st47⟩ := st42.freeze (k := 1) rfl
   have hc46 := Cells.of hb45
   refine U<|M<|zd<|zd<|O<|Y X X (zc X Tryz.underlying93 X Tryz.sizeOf3 X)<|Y X X (zb (j := 0) st47.sub hc46 X X X Tryz.isAgg3)<|zV (L := LInt) (xs := [(c.id)]) (cs := [.int .i64 (c.id)]) st47 (Enc.cons (L := LInt) (vs := [.int .i64 (c.id)]) (x := (c.id)) (h := h43) (X) Enc.nil) X X X Tryz.underlying39 Tryz.info3 X X X t_kr ?_
   intro v48 w49 h52 le53 f50 st51
   refine zm st51 X X X Tryz.call89 X (c_leaf_in st51.sub _ _ f50) ?_
   intro r54 w55 h56 le57 st58 q59
   obtain rfl := q59
   refine Y X X (r_not X)<|Y X X (zN X) ?_
   refine zG (d := 28) rfl (fun g60 => ?_) (fun g60 => ?_)
   ·
    refine E X X (d := 28) X X X<|E X X (d := 28) X X X<|E X X (d := 28) X X X<|E X X (d := 28) X X X<|Y X X (zK (v := (.bool _)) X X)<|Y X X (zN X)<|E X X (d := 34) X X X<|E X X (d := 34) X X X<|E X X (d := 34) X X X<|E X X (d := 34) X X X<|E X X (d := 34) X X X<|E X X (d := 34) X X X<|Y X X (zK (v := (.bool _)) X X)<|U<|M ?_
    refine zt rfl (fun c61 => ?_) (fun c61 => ?_)
    ·
     refine zd<|O<|Y X X (zx X)<|U<|M<|zA<|zk<|zL<|zk<|zk<|zL<|zk<|NoGo.ret<|zi Tryz.results47 ?_
     refine ⟨h56, _, rfl, st58.done, ?_⟩
     refine zW ?_
     have q0 : chapterB c = false := by
      have q := g60
      simp at q
      simp [chapterB, q]
     have q := not_all (p := chapterB) hc q0
     simp [textB, q]
    ·
     cases c61
   ·
    refine za X X (d := 28) X<|Y X X (zy (v := (.map (some mb25))) X)<|za X X (d := 28) X<|Y X X (zc X Tryz.underlying93 X Tryz.sizeOf3 X)<|za X X (d := 28) X<|Y X X (zb (j := 0) st58.sub (hc46.up (le53.trans le57)) X X X Tryz.isAgg3)<|za X X (d := 28) X<|Y X X (r_look (k := (c.id)) (zu := false) (key_int Tryz.underlying3) Tryz.underlying107 hM_4 (st58.ent (k := 0) X) Tryz.zeroValue4 X X X)<|Y X X (zC (v := (.bool _)) X X)<|Y X X (zN X) ?_
    refine zG (d := 34) rfl (fun g62 => ?_) (fun g62 => ?_)
    ·
     refine E X X (d := 34) X X X<|E X X (d := 34) X X X<|E X X (d := 34) X X X<|E X X (d := 34) X X X<|E X X (d := 34) X X X<|E X X (d := 34) X X X<|Y X X (zK (v := (.bool _)) X X)<|U<|M ?_
     refine zt rfl (fun c63 => ?_) (fun c63 => ?_)
     ·
      refine zd<|O<|Y X X (zx X)<|U<|M<|zA<|zk<|zL<|zk<|zk<|zL<|zk<|NoGo.ret<|zi Tryz.results47 ?_
      refine ⟨h56, _, rfl, st58.done, ?_⟩
      refine zW ?_
      have q0 := g62
      rw [hm] at q0
      have q := not_nodup_mem (f := (·.id)) hc (by simpa using q0)
      simp [textB, q]
     ·
      cases c63
    ·
     refine za X X (d := 34) X<|Y X X (zc X Tryz.underlying93 X Tryz.sizeOf91 X)<|za X X (d := 34) X<|Y X X (zb (j := 1) st58.sub (hc46.up (le53.trans le57)) X X X Tryz.isAgg91)<|za X X (d := 34) X<|Y X X (zag (f37.up ((le44.trans le53).trans le57)) X Tryz.underlying91)<|za X X (d := 34) X<|zV (L := LInt) (xs := [(c.lines.length : Int)]) (cs := [.int .i64 (c.lines.length : Int)]) st58 (Enc.cons (L := LInt) (vs := [.int .i64 (c.lines.length : Int)]) (x := (c.lines.length : Int)) (h := h56) (X) Enc.nil) X X X Tryz.underlying39 Tryz.info3 X X X t_kr ?_
     intro v64 w65 h68 le69 f66 st67
     refine za X X (d := 34) X<|zm st67 X X X Tryz.call89 X (c_leaf_in st67.sub _ _ f66) ?_
     intro r70 w71 h72 le73 st74 q75
     obtain rfl := q75
     refine za X X (d := 34) X<|Y X X (r_not X)<|Y X X (zC (v := (.bool _)) X X)<|U<|M ?_
     refine zt rfl (fun c76 => ?_) (fun c76 => ?_)
     ·
      refine zd<|O<|Y X X (zx X)<|U<|M<|zA<|zk<|zL<|zk<|zk<|zL<|zk<|NoGo.ret<|zi Tryz.results47 ?_
      refine ⟨h72, _, rfl, st74.done, ?_⟩
      refine zW ?_
      have q0 : chapterB c = false := by
       have q := c76
       simp at q
       simp [chapterB, q]
      have q := not_all (p := chapterB) hc q0
      simp [textB, q]
     ·
      refine zz<|M<|zd<|O<|Y X X (zy (v := (.map (some mb25))) X)<|Y X X (zc X Tryz.underlying93 X Tryz.sizeOf3 X)<|Y X X (zb (j := 0) st74.sub (hc46.up (((le53.trans le57).trans le69).trans le73)) X X X Tryz.isAgg3)<|OpsL.mapUpdate (i := 0) st74 hM_4 X hN_4 (key_int Tryz.underlying3) Tryz.underlying107 X (k := (c.id)) X (u := true) X ?_
      intro o77 w78 _ e79 f80 nd81 st82
      subst e79
      refine U<|M<|zd<|O<|Y X X (zc X Tryz.underlying93 X Tryz.sizeOf91 X)<|Y X X (zb (j := 1) st82.sub (hc46.up (((le53.trans le57).trans le69).trans le73)) X X X Tryz.isAgg91)<|Y X X (zag (f37.up ((((le44.trans le53).trans le57).trans le69).trans le73)) X Tryz.underlying91)<|Y X X (zo X)<|U<|M<|zF ?_
      refine zX [3, 8, 48, 49, 50, 51, 52, 53, 54, 55, 56, 57, 58, 59, 60, 61] (G := Nat × List (Nat × Obj) × Heap) (fun ⟨k2, o_4, h83⟩ => [(3, .int .i64 0), (48, .int .i64 (k2 : Int))]) (fun ⟨k2, o_4, h83⟩ w' => Le h72 h83 ∧ St h w h83 w' [o_4, []] ∧ (OM (fun n : Int => .int .i64 n) (fun b : Bool => .bool b) (putM m c.id true) o_4 (.map (some mb25))) ∧ (((putM m c.id true).map (·.1)).Nodup) ∧ (k2 ≤ c.lines.length) ∧ ((c.lines.take k2).all lineB = true)) (fun ⟨k2, o_4, h83⟩ => c.lines.length - k2) ⟨0, o77, h72⟩ ⟨rfl, rfl, trivial⟩ ⟨Le.refl _, st82, (by have q := f80; exact q), (by have q := nd81; exact q), zak, zak⟩ ?_
      rintro ⟨k2, o_4, h83⟩ _ w86 ⟨le84, st85, hM_4, hN_4, hk2, hl⟩
      refine zd<|O<|Y X X (zal X X)<|U<|M<|zd ?_
      refine zt rfl (fun c87 => ?_) (fun c87 => ?_)
      ·
       replace c87 := of_decide_eq_true c87
       refine zz<|M<|zd<|zF<|zd<|O ?_
       have hln : ∃ y_, (c.lines)[k2]? = some y_ := ⟨_, List.getElem?_eq_getElem (by omega)⟩
       obtain ⟨ln, hln⟩ := hln
       obtain ⟨b88, o89, _, he91, hc90, hr_ln⟩ := Sl.elem (f37.up (((((le44.trans le53).trans le57).trans le69).trans le73).trans le84)) hln
       obtain ⟨v92, rfl, f93⟩ := hr_ln
       have f93_b := f93.le
       refine Y X X (zp he91 X X (hk := X) (hu := Tryz.underlying91) (hz := Tryz.sizeOf33))<|Y X X (zb (j := 0) st85.sub hc90 X X X Tryz.isAgg33)<|Y X X (zD (v := v92) X)<|U<|M<|zd<|O<|Y X X (zy (v := v92) X)<|Y X X (zag f93 X Tryz.underlying33)<|zV (L := LInt) (xs := [(ln.length : Int)]) (cs := [.int .i64 (ln.length : Int)]) st85 (Enc.cons (L := LInt) (vs := [.int .i64 (ln.length : Int)]) (x := (ln.length : Int)) (h := h83) (X) Enc.nil) X X X Tryz.underlying39 Tryz.info3 X X X t_kr ?_
       intro v94 w95 h98 le99 f96 st97
       refine zm st97 X X X Tryz.call89 X (c_leaf_in st97.sub _ _ f96) ?_
       intro r100 w101 h102 le103 st104 q105
       obtain rfl := q105
       refine Y X X (r_not X)<|Y X X (zN X) ?_
       refine zG (d := 57) rfl (fun g106 => ?_) (fun g106 => ?_)
       ·
        refine E X X (d := 57) X X X<|E X X (d := 57) X X X<|Y X X (zK (v := (.bool _)) X X)<|U<|M ?_
        refine zt rfl (fun c107 => ?_) (fun c107 => ?_)
        ·
         refine zd<|O<|Y X X (zx X)<|U<|M<|zab<|Blk.miss X<|zn<|zn<|Blk.miss X<|Blk.miss X<|zn<|zn<|zT<|M<|zd<|O<|Y X X (zo X)<|Y X X (zx X)<|U<|M<|zA<|NoGo.ret<|zi Tryz.results47 ?_
         refine ⟨h102, _, rfl, st104.done, ?_⟩
         refine zW ?_
         have q1 : lineB ln = false := by
          have q := g106
          simp at q
          simp [lineB, q]
         have q2 := not_all (p := lineB) hln q1
         have q0 : chapterB c = false := by simp [chapterB, q2]
         have q := not_all (p := chapterB) hc q0
         simp [textB, q]
        ·
         cases c107
       ·
        refine za X X (d := 57) X<|Y X X (zy (v := v92) X)<|za X X (d := 57) X ?_
        refine zm st104 rfl rfl rfl Tryz.call90 rfl (c_slices_ContainsFunc_Lstring_string st104.sub (f93.up (le99.trans le103)) (fun x_ => (!wordB (x_))) Tryz.call91 (fun x_ h_ w_ vs_ le_ hs_ hx_ hr_ u_ hu_ => by cases hu_; obtain ⟨hr1_, hr2_⟩ := hr_; cases hr1_; simp only [big] at hr2_; exact c_leaf_Check_1 hs_ _ hr2_)) ?_
        intro r108 w109 h110 le111 st112 q113
        obtain rfl := q113
        refine Y X X (zC (v := (.bool _)) X X)<|U<|M ?_
        refine zt rfl (fun c114 => ?_) (fun c114 => ?_)
        ·
         refine zd<|O<|Y X X (zx X)<|U<|M<|zab<|Blk.miss X<|zn<|zn<|Blk.miss X<|Blk.miss X<|zn<|zn<|zT<|M<|zd<|O<|Y X X (zo X)<|Y X X (zx X)<|U<|M<|zA<|NoGo.ret<|zi Tryz.results47 ?_
         refine ⟨h110, _, rfl, st112.done, ?_⟩
         refine zW ?_
         have q1 : lineB ln = false := by
          have q := c114
          rw [any_not] at q
          simp only [lineB, Bool.and_eq_false_iff]
          right; simpa using q
         have q2 := not_all (p := lineB) hln q1
         have q0 : chapterB c = false := by simp [chapterB, q2]
         have q := not_all (p := chapterB) hc q0
         simp [textB, q]
        ·
         refine zz<|zI<|M<|O<|Y X X (zah X X t_om)<|Y X X (zo X)<|U<|M ?_
         refine ⟨⟨k2 + 1, o_4, h110⟩, ⟨rfl, rfl, trivial⟩, ?_, ⟨(((le84.trans le99).trans le103).trans le111), st112, ?_, ?_, ?_, ?_⟩, ?_⟩
         ·exact zae
         ·have q := hM_4
          exact q
         ·have q := hN_4
          exact q
         ·first | omega | (simp; omega)
         ·exact all_take_succ hl hln (by simp_all [lineB])
         ·show c.lines.length - ((k2 + 1)) < c.lines.length - k2
          omega
      ·
       replace c87 := of_decide_eq_false c87
       refine zab<|zn<|zn<|zT<|zI<|M<|O<|Y X X (zah X X t_om)<|Y X X (zo X)<|U<|M ?_
       have HCH : chapterB c = true := by
        have q := all_of_take hl (by omega)
        simp_all [chapterB]
       have HD : (look m c.id).getD false = false := by simp_all
       refine ⟨⟨i + 1, putM m c.id true, o_4, h83⟩, ⟨rfl, rfl, trivial⟩, ?_, ⟨((((((le28.trans le44).trans le53).trans le57).trans le69).trans le73).trans le84), st85.take 1, ?_, ?_, ?_, ?_, ?_, ?_⟩, ?_⟩
       ·exact zae
       ·have q := hM_4
        exact q
       ·have q := hN_4
        exact q
       ·first | omega | (simp; omega)
       ·exact all_take_succ hA hc HCH
       ·rw [take_snoc hc, List.map_append, List.nodup_append]
        refine ⟨hN, by simp, ?_⟩
        intro a ha b hb e
        simp only [List.map_cons, List.map_nil, List.mem_singleton] at hb
        subst hb
        subst e
        rw [hm] at HD
        exact absurd ha (by simpa using HD)
       ·intro k
        rw [look_putM, take_snoc hc, List.map_append]
        by_cases e : k = c.id
        ·simp [e]
        ·simp only [if_neg e, hm]
         simp [e]
       ·show t.chapters.length - ((i + 1)) < t.chapters.length - i
        omega
  ·
   replace c31 := of_decide_eq_false c31
   refine zab<|zn<|zn<|zT<|M<|zd<|O<|Y X X (zo X)<|Y X X (zx X)<|U<|M<|zA<|NoGo.ret<|zi Tryz.results47 ?_
   refine ⟨h27, _, rfl, st29.done, ?_⟩
   refine zW ?_
   have q := all_of_take hA (by omega)
   have q2 : t.chapters.take i = t.chapters := List.take_of_length_le (by omega)
   rw [q2] at hN
   simp_all [textB]
end Go.Pk

namespace Go.Pk
open Go Go.RowKit Go.Proofs
set_option maxRecDepth 4000 in
theorem c_postilref01_SameWords {h : Heap} {w : World} (hs : Sub h w) {a_v : Value} {a : (List Str)} (a_f : Sl LStr h a_v a) {b_v : Value} {b : (List Str)} (b_f : Sl LStr h b_v b) : Calls Tryz.prog 16 #[a_v, b_v] w (Rets h w (fun _ _ res_ => res_ = .bool (decide (a = b)))) := by
 refine zM (n := 26) (args := [a_v, b_v]) Tryz.func16 X X X ?_
 have st0 : St h w h w [] := St.start hs
 have a_f_b := a_f.le
 have b_f_b := b_f.le
 refine zd<|O<|Y X X (zJ X)<|U<|M<|zd<|zd<|O<|Y X X (zy (v := a_v) X)<|Y X X (zag a_f X Tryz.underlying33)<|Y X X (zy (v := b_v) X)<|Y X X (zag b_f X Tryz.underlying33)<|Y X X (r_neq X X)<|U<|M ?_
 refine zt rfl (fun c1 => ?_) (fun c1 => ?_)
 ·
  replace c1 := of_decide_eq_true c1
  refine zd<|O<|Y X X (zJ X)<|U<|M<|zA<|zk<|zi Tryz.results16 ?_
  refine ⟨h, _, rfl, st0.done, ?_⟩
  refine zw ?_
  have q : a ≠ b := by
   rintro rfl
   simp_all
  simp [q]
 ·
  replace c1 := of_decide_eq_false c1
  refine zz<|M<|zd<|zd<|O<|Y X X (zx X)<|U<|M<|zF ?_
  refine zX [4, 5, 11, 12, 13, 14, 15, 16, 17, 18, 19, 20, 21, 22, 23, 24, 25] (G := Nat × Heap) (fun ⟨k, h2⟩ => [(5, .int .i64 (k : Int))]) (fun ⟨k, h2⟩ w' => Le h h2 ∧ St h w h2 w' [] ∧ (k ≤ a.length) ∧ (a.take k = b.take k)) (fun ⟨k, h2⟩ => a.length - k) ⟨0, h⟩ ⟨rfl, trivial⟩ ⟨Le.refl _, st0, zak, zak⟩ ?_
  rintro ⟨k, h2⟩ _ w5 ⟨le3, st4, hk, he⟩
  refine zd<|zd<|O<|Y X X (zo X)<|Y X X (zy (v := a_v) X)<|Y X X (zag (a_f.up le3) X Tryz.underlying33)<|Y X X (zal X X)<|U<|M ?_
  refine zt rfl (fun c6 => ?_) (fun c6 => ?_)
  ·
   replace c6 := of_decide_eq_true c6
   refine zz<|M<|zd<|zF<|zd<|zai Tryz.mixed t_kr (Cls h2 _) (Cls.drew st4)<|ze X X (fun _ _ => (zy (v := a_v) X))<|ze X X (fun _ _ => (zo X)) ?_
   have hx : ∃ y_, (a)[k]? = some y_ := ⟨_, List.getElem?_eq_getElem (by omega)⟩
   obtain ⟨x, hx⟩ := hx
   obtain ⟨b7, o8, _, he10, hc9, hr_x⟩ := Sl.elem (a_f.up le3) hx
   obtain ⟨rfl, ls11⟩ := hr_x
   simp only [big] at ls11
   refine ze X X (fun _ _ => (zp he10 X X (hk := X) (hu := Tryz.underlying33) (hz := Tryz.sizeOf9)))<|ze X X (fun _ hC => (zb (j := 0) hC.sub hc9 X X X Tryz.isAgg9))<|ze X X (fun _ _ => (zy (v := b_v) X))<|ze X X (fun _ _ => (zo X)) ?_
   have hy : ∃ y_, (b)[k]? = some y_ := ⟨_, List.getElem?_eq_getElem (by omega)⟩
   obtain ⟨y, hy⟩ := hy
   obtain ⟨b12, o13, _, he15, hc14, hr_y⟩ := Sl.elem (b_f.up le3) hy
   obtain ⟨rfl, ls16⟩ := hr_y
   simp only [big] at ls16
   refine ze X X (fun _ _ => (zp he15 X X (hk := X) (hu := Tryz.underlying33) (hz := Tryz.sizeOf9)))<|ze X X (fun _ hC => (zb (j := 0) hC.sub hc14 X X X Tryz.isAgg9))<|ze X X (fun _ _ => (r_sneq X X))<|zac ?_
   rintro w17 ⟨h18, s19⟩
   have st20 := st4.call0 s19
   refine M ?_
   refine zt rfl (fun c21 => ?_) (fun c21 => ?_)
   ·
    replace c21 := of_decide_eq_true c21
    refine zd<|O<|Y X X (zJ X)<|U<|M<|zA<|zL<|zk<|zk<|zL<|zk<|zi Tryz.results16 ?_
    refine ⟨h18, _, rfl, st20.done, ?_⟩
    refine zw ?_
    have q := ne_of_get hx hy (by simpa using c21)
    simp [q]
   ·
    replace c21 := of_decide_eq_false c21
    refine zz<|zI<|M<|O<|Y X X (zo X)<|Y X X (zah X X t_om)<|Y X X (zx X)<|U<|M ?_
    refine ⟨⟨k + 1, h18⟩, ⟨rfl, trivial⟩, ?_, ⟨(le3.trans s19.le), st20, ?_, ?_⟩, ?_⟩
    ·exact zae
    ·first | omega | (simp; omega)
    ·exact eq_take_succ he hx hy (by simpa using c21)
    ·show a.length - ((k + 1)) < a.length - k
     omega
  ·
   replace c6 := of_decide_eq_false c6
   refine zab<|zn<|zn<|zT<|M<|zd<|O<|Y X X (zJ X)<|U<|M<|zA<|zi Tryz.results16 ?_
   refine ⟨h2, _, rfl, st4.done, ?_⟩
   refine zw ?_
   have q := eq_of_take he (by omega) (by omega)
   simp [q]
set_option maxRecDepth 4000 in
theorem c_postilref01_Same {h : Heap} {w : World} (hs : Sub h w) {a : Text} {a_v0 : Value} (a_f0 : Sl LChapter h a_v0 a.chapters) {b : Text} {b_v0 : Value} (b_f0 : Sl LChapter h b_v0 b.chapters) : Calls Tryz.prog 18 #[.agg #[a_v0], .agg #[b_v0]] w (Rets h w (fun _ _ res_ => res_ = .bool (decide (a = b)))) := by
 refine zM (n := 66) (args := [.agg #[a_v0], .agg #[b_v0]]) Tryz.func18 X X X ?_
 have st0 : St h w h w [] := St.start hs
 have a_f0_b := a_f0.le
 have b_f0_b := b_f0.le
 refine zd<|O<|zr st0 (cs := [a_v0]) X X X ?_
 intro b1 w2 h3 le4 hc5 st6
 refine zr st6 (cs := [b_v0]) X X X ?_
 intro b7 w8 h9 le10 hc11 st12
 refine Y X X (zJ X)<|U<|M<|zd<|zd<|O<|Y X X (zc X Tryz.underlying24 X Tryz.sizeOf22 X)<|Y X X (zb (j := 0) st12.sub (hc5.up le10) X X X Tryz.isAgg22)<|Y X X (zag (a_f0.up (le4.trans le10)) X Tryz.underlying22)<|Y X X (zc X Tryz.underlying24 X Tryz.sizeOf22 X)<|Y X X (zb (j := 0) st12.sub hc11 X X X Tryz.isAgg22)<|Y X X (zag (b_f0.up (le4.trans le10)) X Tryz.underlying22)<|Y X X (r_neq X X)<|U<|M ?_
 refine zt rfl (fun c13 => ?_) (fun c13 => ?_)
 ·
  replace c13 := of_decide_eq_true c13
  refine zd<|O<|Y X X (zJ X)<|U<|M<|zA<|zk<|zi Tryz.results18 ?_
  refine ⟨h9, _, rfl, st12.done, ?_⟩
  refine zw ?_
  have q : a ≠ b := by
   rintro rfl
   simp_all
  simp [q]
 ·
  replace c13 := of_decide_eq_false c13
  refine zz<|M<|zd<|zd<|O<|Y X X (zx X)<|U<|M<|zF ?_
  refine zX [4, 5, 6, 7, 8, 16, 17, 18, 19, 20, 21, 22, 23, 24, 25, 26, 27, 28, 29, 30, 31, 32, 33, 34, 35, 36, 37, 38, 39, 40, 41, 42, 43, 44, 45, 46, 47, 48, 49, 50, 51, 52, 53, 54, 55, 56, 57, 58, 59, 60, 61, 62, 63, 64, 65] (G := Nat × Heap) (fun ⟨i, h14⟩ => [(5, .int .i64 (i : Int))]) (fun ⟨i, h14⟩ w' => Le h9 h14 ∧ St h w h14 w' [] ∧ (i ≤ a.chapters.length) ∧ (a.chapters.take i = b.chapters.take i)) (fun ⟨i, h14⟩ => a.chapters.length - i) ⟨0, h9⟩ ⟨rfl, trivial⟩ ⟨Le.refl _, st12, zak, zak⟩ ?_
  rintro ⟨i, h14⟩ _ w17 ⟨le15, st16, hi, he⟩
  refine zd<|zd<|O<|Y X X (zo X)<|Y X X (zc X Tryz.underlying24 X Tryz.sizeOf22 X)<|Y X X (zb (j := 0) st16.sub (hc5.up (le10.trans le15)) X X X Tryz.isAgg22)<|Y X X (zag (a_f0.up ((le4.trans le10).trans le15)) X Tryz.underlying22)<|Y X X (zal X X)<|U<|M ?_
  refine zt rfl (fun c18 => ?_) (fun c18 => ?_)
  ·
   replace c18 := of_decide_eq_true c18
   refine zz<|M<|zd<|zF<|zd ?_
   have hc : ∃ y_, (a.chapters)[i]? = some y_ := ⟨_, List.getElem?_eq_getElem (by omega)⟩
   obtain ⟨c, hc⟩ := hc
   obtain ⟨b19, o20, _, he22, hc21, hr_c⟩ := Sl.elem (a_f0.up ((le4.trans le10).trans le15)) hc
   obtain ⟨v23, rfl, f24⟩ := hr_c
   have f24_b := f24.le
   have hd : ∃ y_, (b.chapters)[i]? = some y_ := ⟨_, List.getElem?_eq_getElem (by omega)⟩
   obtain ⟨d, hd⟩ := hd
   obtain ⟨b25, o26, _, he28, hc27, hr_d⟩ := Sl.elem (b_f0.up ((le4.trans le10).trans le15)) hd
   obtain ⟨v29, rfl, f30⟩ := hr_d
   have f30_b := f30.le
   refine zaa (er := ([], [], [], [], 0)) (dsts := [23, 24, 25, 26, 27, 28, 29, 30, 31, 32, 6, 7]) st16 Tryz.mixed<|zh 0 [] X t_kr t_kr X X (fun hD wD τD hL hS hO  => (zc X Tryz.underlying24 X Tryz.sizeOf22 X))<|zh 1 [0] X t_kr t_kr X X (fun hD wD τD hL hS hO _ _ => (zb (j := 0) (hL.sub hS) (hc5.up (le10.trans le15)) X X X Tryz.isAgg22))<|zh 2 [] X t_kr t_kr X X (fun hD wD τD hL hS hO  => (zo X))<|zh 3 [1, 0] X t_kr t_kr X X (fun hD wD τD hL hS hO _ _ _ _ => (zp he22 X X (hk := X) (hu := Tryz.underlying22) (hz := Tryz.sizeOf93)))<|zh 4 [0] X t_kr t_kr X X (fun hD wD τD hL hS hO _ _ => (zf (hL.sub hS) hc21 X Tryz.isAgg93 Tryz.sizeOf93 X))<|zh 5 [] X t_kr t_kr X X (fun hD wD τD hL hS hO  => (zc X Tryz.underlying24 X Tryz.sizeOf22 X))<|zh 6 [0] X t_kr t_kr X X (fun hD wD τD hL hS hO _ _ => (zb (j := 0) (hL.sub hS) (hc11.up le15) X X X Tryz.isAgg22))<|zh 7 [] X t_kr t_kr X X (fun hD wD τD hL hS hO  => (zo X))<|zh 8 [1, 0] X t_kr t_kr X X (fun hD wD τD hL hS hO _ _ _ _ => (zp he28 X X (hk := X) (hu := Tryz.underlying22) (hz := Tryz.sizeOf93)))<|zh 9 [0] X t_kr t_kr X X (fun hD wD τD hL hS hO _ _ => (zf (hL.sub hS) hc27 X Tryz.isAgg93 Tryz.sizeOf93 X))<|Drw.al Tryz.zeroValue93 X<|Drw.al Tryz.zeroValue93 X<|zaf<|zaf<|zan X X X X X X ⟨t_kr, X, t_kr, X, t_kr, X, X, t_kr, (zY X (zY X cx_nil))⟩ ?_
   intro b31
   intro b32
   intro hE34 w35 _ le36 st37 _ _ _ _ _ _ _ _ _ _
   refine zB st37 (k := 0) X X X (zg X (zg f24.one zU)) Tryz.sizeOf93 X X X ?_
   intro w38 st39
   obtain ⟨h40, le41, hb42, st44⟩ := st39.freeze (k := 0) rfl
   have hc43 := Cells.of hb42
   refine U ⟨undef, rfl, _, _, le41, st44, ?_⟩
   intro hE46 w47 _ le48 st49 _ _ _ _ _ _ _ _ _ _ _ _ _ _ _ _ _ _ _ _
   refine zB st49 (k := 1) X X X (zg X (zg f30.one zU)) Tryz.sizeOf93 X X X ?_
   intro w50 st51
   obtain ⟨h52, le53, hb54, st56⟩ := st51.freeze (k := 1) rfl
   have hc55 := Cells.of hb54
   refine U ⟨undef, rfl, _, _, le53, st56, ?_⟩
   intro hE57 w58 _ le59 st60 _ _ _ _ _ _ _ _ _ _ _ _ _ _ _ _ _ _ _ _
   refine AllDeps.fin X<|M<|zd<|zd<|O<|Y X X (zc X Tryz.underlying93 X Tryz.sizeOf3 X)<|Y X X (zb (j := 0) st60.sub (hc43.up ((le48.trans le53).trans le59)) X X X Tryz.isAgg3)<|Y X X (zc X Tryz.underlying93 X Tryz.sizeOf3 X)<|Y X X (zb (j := 0) st60.sub (hc55.up le59) X X X Tryz.isAgg3)<|Y X X (r_neq X X)<|Y X X (zN X) ?_
   refine zG (d := 38) rfl (fun g62 => ?_) (fun g62 => ?_)
   ·
    replace g62 := of_decide_eq_true g62
    refine E X X (d := 38) X X X<|E X X (d := 38) X X X<|E X X (d := 38) X X X<|E X X (d := 38) X X X<|E X X (d := 38) X X X<|E X X (d := 38) X X X<|E X X (d := 38) X X X<|Y X X (zK (v := (.bool _)) X X)<|U<|M ?_
    refine zt rfl (fun c63 => ?_) (fun c63 => ?_)
    ·
     refine zd<|O<|Y X X (zJ X)<|U<|M<|zA<|zk<|zL<|zk<|zk<|zL<|zk<|zi Tryz.results18 ?_
     refine ⟨hE57, _, rfl, st60.done, ?_⟩
     refine zw ?_
     have q : c ≠ d := by
      rintro rfl
      simp_all
     have q2 : a ≠ b := fun e => ne_of_get hc hd q (by rw [e])
     simp [q2]
    ·
     cases c63
   ·
    replace g62 := of_decide_eq_false g62
    refine za X X (d := 38) X<|Y X X (zc X Tryz.underlying93 X Tryz.sizeOf91 X)<|za X X (d := 38) X<|Y X X (zb (j := 1) st60.sub (hc43.up ((le48.trans le53).trans le59)) X X X Tryz.isAgg91)<|za X X (d := 38) X<|Y X X (zag (f24.up ((((le36.trans le41).trans le48).trans le53).trans le59)) X Tryz.underlying91)<|za X X (d := 38) X<|Y X X (zc X Tryz.underlying93 X Tryz.sizeOf91 X)<|za X X (d := 38) X<|Y X X (zb (j := 1) st60.sub (hc55.up le59) X X X Tryz.isAgg91)<|za X X (d := 38) X<|Y X X (zag (f30.up ((((le36.trans le41).trans le48).trans le53).trans le59)) X Tryz.underlying91)<|za X X (d := 38) X<|Y X X (r_neq X X)<|Y X X (zC (v := (.bool _)) X X)<|U<|M ?_
    refine zt rfl (fun c64 => ?_) (fun c64 => ?_)
    ·
     replace c64 := of_decide_eq_true c64
     refine zd<|O<|Y X X (zJ X)<|U<|M<|zA<|zk<|zL<|zk<|zk<|zL<|zk<|zi Tryz.results18 ?_
     refine ⟨hE57, _, rfl, st60.done, ?_⟩
     refine zw ?_
     have q : c ≠ d := by
      rintro rfl
      simp_all
     have q2 : a ≠ b := fun e => ne_of_get hc hd q (by rw [e])
     simp [q2]
    ·
     replace c64 := of_decide_eq_false c64
     refine zz<|M<|zd<|O<|Y X X (zx X)<|U<|M<|zF ?_
     refine zX [4, 8, 47, 48, 49, 50, 51, 52, 53, 54, 55, 56, 57, 58, 59, 60, 61, 62, 63, 64, 65] (G := Nat × Heap) (fun ⟨k, h65⟩ => [(8, .int .i64 (k : Int))]) (fun ⟨k, h65⟩ w' => Le hE57 h65 ∧ St h w h65 w' [[], []] ∧ (k ≤ c.lines.length) ∧ (c.lines.take k = d.lines.take k)) (fun ⟨k, h65⟩ => c.lines.length - k) ⟨0, hE57⟩ ⟨rfl, trivial⟩ ⟨Le.refl _, st60, zak, zak⟩ ?_
     rintro ⟨k, h65⟩ _ w68 ⟨le66, st67, hk, hk2⟩
     refine zd<|zd<|O<|Y X X (zo X)<|Y X X (zc X Tryz.underlying93 X Tryz.sizeOf91 X)<|Y X X (zb (j := 1) st67.sub (hc43.up (((le48.trans le53).trans le59).trans le66)) X X X Tryz.isAgg91)<|Y X X (zag (f24.up (((((le36.trans le41).trans le48).trans le53).trans le59).trans le66)) X Tryz.underlying91)<|Y X X (zal X X)<|U<|M ?_
     refine zt rfl (fun c69 => ?_) (fun c69 => ?_)
     ·
      replace c69 := of_decide_eq_true c69
      refine zz<|M<|zd<|zF<|zd<|zai Tryz.mixed t_kr (Cls h65 _) (Cls.drew st67)<|ze X X (fun _ _ => (zc X Tryz.underlying93 X Tryz.sizeOf91 X))<|ze X X (fun _ hC => (zb (j := 1) hC.sub (hc43.up (((le48.trans le53).trans le59).trans le66)) X X X Tryz.isAgg91))<|ze X X (fun _ _ => (zo X)) ?_
      have hx : ∃ y_, (c.lines)[k]? = some y_ := ⟨_, List.getElem?_eq_getElem (by omega)⟩
      obtain ⟨x, hx⟩ := hx
      obtain ⟨b70, o71, _, he73, hc72, hr_x⟩ := Sl.elem (f24.up (((((le36.trans le41).trans le48).trans le53).trans le59).trans le66)) hx
      obtain ⟨v74, rfl, f75⟩ := hr_x
      have f75_b := f75.le
      refine ze X X (fun _ _ => (zp he73 X X (hk := X) (hu := Tryz.underlying91) (hz := Tryz.sizeOf33)))<|ze X X (fun _ hC => (zb (j := 0) hC.sub hc72 X X X Tryz.isAgg33))<|ze X X (fun _ _ => (zc X Tryz.underlying93 X Tryz.sizeOf91 X))<|ze X X (fun _ hC => (zb (j := 1) hC.sub (hc55.up (le59.trans le66)) X X X Tryz.isAgg91))<|ze X X (fun _ _ => (zo X)) ?_
      have hy : ∃ y_, (d.lines)[k]? = some y_ := ⟨_, List.getElem?_eq_getElem (by omega)⟩
      obtain ⟨y, hy⟩ := hy
      obtain ⟨b76, o77, _, he79, hc78, hr_y⟩ := Sl.elem (f30.up (((((le36.trans le41).trans le48).trans le53).trans le59).trans le66)) hy
      obtain ⟨v80, rfl, f81⟩ := hr_y
      have f81_b := f81.le
      refine ze X X (fun _ _ => (zp he79 X X (hk := X) (hu := Tryz.underlying91) (hz := Tryz.sizeOf33)))<|ze X X (fun _ hC => (zb (j := 0) hC.sub hc78 X X X Tryz.isAgg33))<|OpsQ.calls X X (fun _ => zaj X Tryz.call16 X) (fun _ hC => Rets.quiet hC (c_postilref01_SameWords hC.sub f75 f81))<|ze X X (fun _ _ => (r_not X))<|zac ?_
      rintro w82 ⟨h83, s84⟩
      have st85 := st67.call0 s84
      refine M ?_
      refine zt rfl (fun c86 => ?_) (fun c86 => ?_)
      ·
       refine zd<|O<|Y X X (zJ X)<|U<|M<|zA<|zL<|zk<|zk<|zL<|zL<|zk<|zk<|zL<|zk<|zi Tryz.results18 ?_
       refine ⟨h83, _, rfl, st85.done, ?_⟩
       refine zw ?_
       have q1 : c.lines ≠ d.lines := ne_of_get hx hy (by simpa using c86)
       have q : c ≠ d := fun e => q1 (by rw [e])
       have q2 : a ≠ b := fun e => ne_of_get hc hd q (by rw [e])
       simp [q2]
      ·
       refine zz<|zI<|M<|O<|Y X X (zo X)<|Y X X (zah X X t_om)<|Y X X (zx X)<|U<|M ?_
       refine ⟨⟨k + 1, h83⟩, ⟨rfl, trivial⟩, ?_, ⟨(le66.trans s84.le), st85, ?_, ?_⟩, ?_⟩
       ·exact zae
       ·first | omega | (simp; omega)
       ·exact eq_take_succ hk2 hx hy (by simpa using c86)
       ·show c.lines.length - ((k + 1)) < c.lines.length - k
        omega
     ·
      replace c69 := of_decide_eq_false c69
      refine zab<|zn<|zn<|zT<|zI<|M<|O<|Y X X (zo X)<|Y X X (zah X X t_om)<|Y X X (zx X)<|U<|M ?_
      have HCD : c = d := by
       have q := eq_of_take hk2 (by omega) (by omega)
       rcases c with ⟨c1, c2⟩; rcases d with ⟨d1, d2⟩
       simp_all
      refine ⟨⟨i + 1, h65⟩, ⟨rfl, trivial⟩, ?_, ⟨((((((le15.trans le36).trans le41).trans le48).trans le53).trans le59).trans le66), st67.take 0, ?_, ?_⟩, ?_⟩
      ·exact zae
      ·first | omega | (simp; omega)
      ·exact eq_take_succ he hc hd HCD
      ·show a.chapters.length - ((i + 1)) < a.chapters.length - i
       omega
  ·
   replace c18 := of_decide_eq_false c18
   refine zab<|zn<|zn<|zT<|M<|zd<|O<|Y X X (zJ X)<|U<|M<|zA<|zi Tryz.results18 ?_
   refine ⟨h14, _, rfl, st16.done, ?_⟩
   refine zw ?_
   have q := eq_of_take he (by omega) (by omega)
   rcases a with ⟨a1⟩; rcases b with ⟨b1⟩
   simp_all
set_option maxRecDepth 4000 in
theorem c_postilref04_Same {h : Heap} {w : World} (hs : Sub h w) {a : Lexicon} {a_v0 : Value} (a_f0 : Sl LRule h a_v0 a.rules) {a_v1 : Value} (a_f1 : Sl LDecision h a_v1 a.decisions) {b : Lexicon} {b_v0 : Value} (b_f0 : Sl LRule h b_v0 b.rules) {b_v1 : Value} (b_f1 : Sl LDecision h b_v1 b.decisions) : Calls Tryz.prog 19 #[.agg #[a_v0, a_v1], .agg #[b_v0, b_v1]] w (Rets h w (fun _ _ res_ => res_ = .bool (decide (a = b)))) := by
 refine zM (n := 59) (args := [.agg #[a_v0, a_v1], .agg #[b_v0, b_v1]]) Tryz.func19 X X X ?_
 have st0 : St h w h w [] := St.start hs
 have a_f0_b := a_f0.le
 have a_f1_b := a_f1.le
 have b_f0_b := b_f0.le
 have b_f1_b := b_f1.le
 refine zd<|O<|zr st0 (cs := [a_v0, a_v1]) X X X ?_
 intro b1 w2 h3 le4 hc5 st6
 refine zr st6 (cs := [b_v0, b_v1]) X X X ?_
 intro b7 w8 h9 le10 hc11 st12
 refine Y X X (zJ X)<|U<|M<|zd<|zd<|O<|Y X X (zc X Tryz.underlying28 X Tryz.sizeOf25 X)<|Y X X (zb (j := 0) st12.sub (hc5.up le10) X X X Tryz.isAgg25)<|Y X X (zag (a_f0.up (le4.trans le10)) X Tryz.underlying25)<|Y X X (zc X Tryz.underlying28 X Tryz.sizeOf25 X)<|Y X X (zb (j := 0) st12.sub hc11 X X X Tryz.isAgg25)<|Y X X (zag (b_f0.up (le4.trans le10)) X Tryz.underlying25)<|Y X X (r_neq X X)<|Y X X (zN X) ?_
 refine zG (d := 14) rfl (fun g13 => ?_) (fun g13 => ?_)
 ·
  replace g13 := of_decide_eq_true g13
  refine E X X (d := 14) X X X<|E X X (d := 14) X X X<|E X X (d := 14) X X X<|E X X (d := 14) X X X<|E X X (d := 14) X X X<|E X X (d := 14) X X X<|E X X (d := 14) X X X<|Y X X (zK (v := (.bool _)) X X)<|U<|M ?_
  refine zt rfl (fun c14 => ?_) (fun c14 => ?_)
  ·
   refine zd<|O<|Y X X (zJ X)<|U<|M<|zA<|zk<|zi Tryz.results19 ?_
   refine ⟨h9, _, rfl, st12.done, ?_⟩
   refine zw ?_
   have q : a ≠ b := by
    rintro rfl
    simp_all
   simp [q]
  ·
   cases c14
 ·
  replace g13 := of_decide_eq_false g13
  refine za X X (d := 14) X<|Y X X (zc X Tryz.underlying28 X Tryz.sizeOf26 X)<|za X X (d := 14) X<|Y X X (zb (j := 1) st12.sub (hc5.up le10) X X X Tryz.isAgg26)<|za X X (d := 14) X<|Y X X (zag (a_f1.up (le4.trans le10)) X Tryz.underlying26)<|za X X (d := 14) X<|Y X X (zc X Tryz.underlying28 X Tryz.sizeOf26 X)<|za X X (d := 14) X<|Y X X (zb (j := 1) st12.sub hc11 X X X Tryz.isAgg26)<|za X X (d := 14) X<|Y X X (zag (b_f1.up (le4.trans le10)) X Tryz.underlying26)<|za X X (d := 14) X<|Y X X (r_neq X X)<|Y X X (zC (v := (.bool _)) X X)<|U<|M ?_
  refine zt rfl (fun c15 => ?_) (fun c15 => ?_)
  ·
   replace c15 := of_decide_eq_true c15
   refine zd<|O<|Y X X (zJ X)<|U<|M<|zA<|zk<|zi Tryz.results19 ?_
   refine ⟨h9, _, rfl, st12.done, ?_⟩
   refine zw ?_
   have q : a ≠ b := by
    rintro rfl
    simp_all
   simp [q]
  ·
   replace c15 := of_decide_eq_false c15
   refine zz<|M<|zd<|zd<|O<|Y X X (zx X)<|U<|M<|zF ?_
   refine zX [4, 5, 23, 24, 25, 26, 27, 28, 29, 30, 31, 32, 33, 34, 35, 36, 37, 38, 39, 40] (G := Nat × Heap) (fun ⟨i, h16⟩ => [(5, .int .i64 (i : Int))]) (fun ⟨i, h16⟩ w' => Le h9 h16 ∧ St h w h16 w' [] ∧ (i ≤ a.rules.length) ∧ (a.rules.take i = b.rules.take i)) (fun ⟨i, h16⟩ => a.rules.length - i) ⟨0, h9⟩ ⟨rfl, trivial⟩ ⟨Le.refl _, st12, zak, zak⟩ ?_
   rintro ⟨i, h16⟩ _ w19 ⟨le17, st18, hi, he⟩
   refine zd<|zd<|O<|Y X X (zo X)<|Y X X (zc X Tryz.underlying28 X Tryz.sizeOf25 X)<|Y X X (zb (j := 0) st18.sub (hc5.up (le10.trans le17)) X X X Tryz.isAgg25)<|Y X X (zag (a_f0.up ((le4.trans le10).trans le17)) X Tryz.underlying25)<|Y X X (zal X X)<|U<|M ?_
   refine zt rfl (fun c20 => ?_) (fun c20 => ?_)
   ·
    replace c20 := of_decide_eq_true c20
    refine zz<|M<|zd<|zF<|zd<|zai Tryz.mixed t_kr (Cls h16 _) (Cls.drew st18)<|ze X X (fun _ _ => (zc X Tryz.underlying28 X Tryz.sizeOf25 X))<|ze X X (fun _ hC => (zb (j := 0) hC.sub (hc5.up (le10.trans le17)) X X X Tryz.isAgg25))<|ze X X (fun _ _ => (zo X)) ?_
    have hr : ∃ y_, (a.rules)[i]? = some y_ := ⟨_, List.getElem?_eq_getElem (by omega)⟩
    obtain ⟨r, hr⟩ := hr
    obtain ⟨b21, o22, _, he24, hc23, hr_r⟩ := Sl.elem (a_f0.up ((le4.trans le10).trans le17)) hr
    obtain ⟨rfl, ls25, ls26⟩ := hr_r
    simp only [big] at ls25
    simp only [big] at ls26
    refine ze X X (fun _ _ => (zp he24 X X (hk := X) (hu := Tryz.underlying25) (hz := Tryz.sizeOf70)))<|ze X X (fun _ hC => (zf hC.sub hc23 X Tryz.isAgg70 Tryz.sizeOf70 X))<|ze X X (fun _ _ => (zc X Tryz.underlying28 X Tryz.sizeOf25 X))<|ze X X (fun _ hC => (zb (j := 0) hC.sub (hc11.up le17) X X X Tryz.isAgg25))<|ze X X (fun _ _ => (zo X)) ?_
    have hr2 : ∃ y_, (b.rules)[i]? = some y_ := ⟨_, List.getElem?_eq_getElem (by omega)⟩
    obtain ⟨r2, hr2⟩ := hr2
    obtain ⟨b27, o28, _, he30, hc29, hr_r2⟩ := Sl.elem (b_f0.up ((le4.trans le10).trans le17)) hr2
    obtain ⟨rfl, ls31, ls32⟩ := hr_r2
    simp only [big] at ls31
    simp only [big] at ls32
    refine ze X X (fun _ _ => (zp he30 X X (hk := X) (hu := Tryz.underlying25) (hz := Tryz.sizeOf70)))<|ze X X (fun _ hC => (zf hC.sub hc29 X Tryz.isAgg70 Tryz.sizeOf70 X))<|ze X X (fun _ _ => (r_stneq X X Tryz.eqGuardType70 (Tryz.eq_Rule r r2)))<|zac ?_
    rintro w33 ⟨h34, s35⟩
    have st36 := st18.call0 s35
    refine M ?_
    refine zt rfl (fun c37 => ?_) (fun c37 => ?_)
    ·
     replace c37 := of_decide_eq_true c37
     refine zd<|O<|Y X X (zJ X)<|U<|M<|zA<|zL<|zk<|zk<|zL<|zk<|zi Tryz.results19 ?_
     refine ⟨h34, _, rfl, st36.done, ?_⟩
     refine zw ?_
     have q : a ≠ b := fun e => ne_of_get hr hr2 (by simpa using c37) (by rw [e])
     simp [q]
    ·
     replace c37 := of_decide_eq_false c37
     refine zz<|zI<|M<|O<|Y X X (zo X)<|Y X X (zah X X t_om)<|Y X X (zx X)<|U<|M ?_
     refine ⟨⟨i + 1, h34⟩, ⟨rfl, trivial⟩, ?_, ⟨(le17.trans s35.le), st36, ?_, ?_⟩, ?_⟩
     ·exact zae
     ·first | omega | (simp; omega)
     ·exact eq_take_succ he hr hr2 (by simpa using c37)
     ·show a.rules.length - ((i + 1)) < a.rules.length - i
      omega
   ·
    replace c20 := of_decide_eq_false c20
    refine zab<|zn<|zn<|zT<|M<|zd<|zd<|O<|Y X X (zx X)<|U<|M<|zF ?_
    refine zX [4, 6, 41, 42, 43, 44, 45, 46, 47, 48, 49, 50, 51, 52, 53, 54, 55, 56, 57, 58] (G := Nat × Heap) (fun ⟨k, h38⟩ => [(6, .int .i64 (k : Int))]) (fun ⟨k, h38⟩ w' => Le h16 h38 ∧ St h w h38 w' [] ∧ (k ≤ a.decisions.length) ∧ (a.decisions.take k = b.decisions.take k)) (fun ⟨k, h38⟩ => a.decisions.length - k) ⟨0, h16⟩ ⟨rfl, trivial⟩ ⟨Le.refl _, st18, zak, zak⟩ ?_
    rintro ⟨k, h38⟩ _ w41 ⟨le39, st40, hk, hf⟩
    refine zd<|zd<|O<|Y X X (zo X)<|Y X X (zc X Tryz.underlying28 X Tryz.sizeOf26 X)<|Y X X (zb (j := 1) st40.sub (hc5.up ((le10.trans le17).trans le39)) X X X Tryz.isAgg26)<|Y X X (zag (a_f1.up (((le4.trans le10).trans le17).trans le39)) X Tryz.underlying26)<|Y X X (zal X X)<|U<|M ?_
    refine zt rfl (fun c42 => ?_) (fun c42 => ?_)
    ·
     replace c42 := of_decide_eq_true c42
     refine zz<|M<|zd<|zF<|zd<|zai Tryz.mixed t_kr (Cls h38 _) (Cls.drew st40)<|ze X X (fun _ _ => (zc X Tryz.underlying28 X Tryz.sizeOf26 X))<|ze X X (fun _ hC => (zb (j := 1) hC.sub (hc5.up ((le10.trans le17).trans le39)) X X X Tryz.isAgg26))<|ze X X (fun _ _ => (zo X)) ?_
     have hd : ∃ y_, (a.decisions)[k]? = some y_ := ⟨_, List.getElem?_eq_getElem (by omega)⟩
     obtain ⟨d, hd⟩ := hd
     obtain ⟨b43, o44, _, he46, hc45, hr_d⟩ := Sl.elem (a_f1.up (((le4.trans le10).trans le17).trans le39)) hd
     obtain ⟨rfl, lu47, ls48, ls49, lu50⟩ := hr_d
     simp only [big] at ls48
     simp only [big] at ls49
     refine ze X X (fun _ _ => (zp he46 X X (hk := X) (hu := Tryz.underlying26) (hz := Tryz.sizeOf56)))<|ze X X (fun _ hC => (zf hC.sub hc45 X Tryz.isAgg56 Tryz.sizeOf56 X))<|ze X X (fun _ _ => (zc X Tryz.underlying28 X Tryz.sizeOf26 X))<|ze X X (fun _ hC => (zb (j := 1) hC.sub (hc11.up (le17.trans le39)) X X X Tryz.isAgg26))<|ze X X (fun _ _ => (zo X)) ?_
     have hd2 : ∃ y_, (b.decisions)[k]? = some y_ := ⟨_, List.getElem?_eq_getElem (by omega)⟩
     obtain ⟨d2, hd2⟩ := hd2
     obtain ⟨b51, o52, _, he54, hc53, hr_d2⟩ := Sl.elem (b_f1.up (((le4.trans le10).trans le17).trans le39)) hd2
     obtain ⟨rfl, lu55, ls56, ls57, lu58⟩ := hr_d2
     simp only [big] at ls56
     simp only [big] at ls57
     refine ze X X (fun _ _ => (zp he54 X X (hk := X) (hu := Tryz.underlying26) (hz := Tryz.sizeOf56)))<|ze X X (fun _ hC => (zf hC.sub hc53 X Tryz.isAgg56 Tryz.sizeOf56 X))<|ze X X (fun _ _ => (r_stneq X X Tryz.eqGuardType56 (Tryz.eq_Decision d d2)))<|zac ?_
     rintro w59 ⟨h60, s61⟩
     have st62 := st40.call0 s61
     refine M ?_
     refine zt rfl (fun c63 => ?_) (fun c63 => ?_)
     ·
      replace c63 := of_decide_eq_true c63
      refine zd<|O<|Y X X (zJ X)<|U<|M<|zA<|zL<|zk<|zk<|zL<|zk<|zi Tryz.results19 ?_
      refine ⟨h60, _, rfl, st62.done, ?_⟩
      refine zw ?_
      have q : a ≠ b := fun e => ne_of_get hd hd2 (by simpa using c63) (by rw [e])
      simp [q]
     ·
      replace c63 := of_decide_eq_false c63
      refine zz<|zI<|M<|O<|Y X X (zo X)<|Y X X (zah X X t_om)<|Y X X (zx X)<|U<|M ?_
      refine ⟨⟨k + 1, h60⟩, ⟨rfl, trivial⟩, ?_, ⟨(le39.trans s61.le), st62, ?_, ?_⟩, ?_⟩
      ·exact zae
      ·first | omega | (simp; omega)
      ·exact eq_take_succ hf hd hd2 (by simpa using c63)
      ·show a.decisions.length - ((k + 1)) < a.decisions.length - k
       omega
    ·
     replace c42 := of_decide_eq_false c42
     refine zab<|zn<|zn<|zT<|M<|zd<|O<|Y X X (zJ X)<|U<|M<|zA<|zi Tryz.results19 ?_
     refine ⟨h38, _, rfl, st40.done, ?_⟩
     refine zw ?_
     have q1 := eq_of_take he (by omega) (by omega)
     have q2 := eq_of_take hf (by omega) (by omega)
     rcases a with ⟨a1, a2⟩; rcases b with ⟨b1, b2⟩
     simp_all
set_option maxRecDepth 4000 in
theorem c_postillaw04_sameInts {h : Heap} {w : World} (hs : Sub h w) {a_v : Value} {a : (List Int)} (a_f : Sl LInt h a_v a) {b_v : Value} {b : (List Int)} (b_f : Sl LInt h b_v b) : Calls Tryz.prog 17 #[a_v, b_v] w (Rets h w (fun _ _ res_ => res_ = .bool (decide (a = b)))) := by
 refine zM (n := 26) (args := [a_v, b_v]) Tryz.func17 X X X ?_
 have st0 : St h w h w [] := St.start hs
 have a_f_b := a_f.le
 have b_f_b := b_f.le
 refine zd<|O<|Y X X (zJ X)<|U<|M<|zd<|zd<|O<|Y X X (zy (v := a_v) X)<|Y X X (zag a_f X Tryz.underlying39)<|Y X X (zy (v := b_v) X)<|Y X X (zag b_f X Tryz.underlying39)<|Y X X (r_neq X X)<|U<|M ?_
 refine zt rfl (fun c1 => ?_) (fun c1 => ?_)
 ·
  replace c1 := of_decide_eq_true c1
  refine zd<|O<|Y X X (zJ X)<|U<|M<|zA<|zk<|zi Tryz.results17 ?_
  refine ⟨h, _, rfl, st0.done, ?_⟩
  refine zw ?_
  have q : a ≠ b := by
   rintro rfl
   simp_all
  simp [q]
 ·
  replace c1 := of_decide_eq_false c1
  refine zz<|M<|zd<|zd<|O<|Y X X (zy (v := a_v) X)<|Y X X (zag a_f X Tryz.underlying39)<|Y X X (zo X)<|U<|M<|zF ?_
  refine zX [4, 5, 13, 14, 15, 16, 17, 18, 19, 20, 21, 22, 23, 24, 25] (G := Nat × Heap) (fun ⟨k, h2⟩ => [(13, .int .i64 (k : Int))]) (fun ⟨k, h2⟩ w' => Le h h2 ∧ St h w h2 w' [] ∧ (k ≤ a.length) ∧ (a.take k = b.take k)) (fun ⟨k, h2⟩ => a.length - k) ⟨0, h⟩ ⟨rfl, trivial⟩ ⟨Le.refl _, st0, zak, zak⟩ ?_
  rintro ⟨k, h2⟩ _ w5 ⟨le3, st4, hk, he⟩
  refine zd<|O<|Y X X (zal X X)<|U<|M<|zd ?_
  refine zt rfl (fun c6 => ?_) (fun c6 => ?_)
  ·
   replace c6 := of_decide_eq_true c6
   refine zz<|M<|zd<|zF<|zd<|O<|Y X X (zo X)<|Y X X (zx X)<|U<|M<|zd<|zai Tryz.mixed t_kr (Cls h2 _) (Cls.drew st4)<|ze X X (fun _ _ => (zy (v := a_v) X))<|ze X X (fun _ _ => (zo X)) ?_
   have hx : ∃ y_, (a)[k]? = some y_ := ⟨_, List.getElem?_eq_getElem (by omega)⟩
   obtain ⟨x, hx⟩ := hx
   obtain ⟨b7, o8, _, he10, hc9, hr_x⟩ := Sl.elem (a_f.up le3) hx
   obtain rfl := hr_x
   refine ze X X (fun _ _ => (zp he10 X X (hk := X) (hu := Tryz.underlying39) (hz := Tryz.sizeOf3)))<|ze X X (fun _ hC => (zb (j := 0) hC.sub hc9 X X X Tryz.isAgg3))<|ze X X (fun _ _ => (zy (v := b_v) X))<|ze X X (fun _ _ => (zo X)) ?_
   have hy : ∃ y_, (b)[k]? = some y_ := ⟨_, List.getElem?_eq_getElem (by omega)⟩
   obtain ⟨y, hy⟩ := hy
   obtain ⟨b11, o12, _, he14, hc13, hr_y⟩ := Sl.elem (b_f.up le3) hy
   obtain rfl := hr_y
   refine ze X X (fun _ _ => (zp he14 X X (hk := X) (hu := Tryz.underlying39) (hz := Tryz.sizeOf3)))<|ze X X (fun _ hC => (zb (j := 0) hC.sub hc13 X X X Tryz.isAgg3))<|ze X X (fun _ _ => (r_neq X X))<|zac ?_
   rintro w15 ⟨h16, s17⟩
   have st18 := st4.call0 s17
   refine M ?_
   refine zt rfl (fun c19 => ?_) (fun c19 => ?_)
   ·
    replace c19 := of_decide_eq_true c19
    refine zd<|O<|Y X X (zJ X)<|U<|M<|zA<|zL<|zk<|zk<|zL<|zk<|zi Tryz.results17 ?_
    refine ⟨h16, _, rfl, st18.done, ?_⟩
    refine zw ?_
    have q := ne_of_get hx hy (by simpa using c19)
    simp [q]
   ·
    replace c19 := of_decide_eq_false c19
    refine zz<|zI<|M<|O<|Y X X (zah X X t_om)<|Y X X (zo X)<|U<|M ?_
    refine ⟨⟨k + 1, h16⟩, ⟨rfl, trivial⟩, ?_, ⟨(le3.trans s17.le), st18, ?_, ?_⟩, ?_⟩
    ·exact zae
    ·first | omega | (simp; omega)
    ·exact eq_take_succ he hx hy (by simpa using c19)
    ·show a.length - ((k + 1)) < a.length - k
     omega
  ·
   replace c6 := of_decide_eq_false c6
   refine zab<|zn<|zn<|zT<|M<|zd<|O<|Y X X (zJ X)<|U<|M<|zA<|zi Tryz.results17 ?_
   refine ⟨h2, _, rfl, st4.done, ?_⟩
   refine zw ?_
   have q := eq_of_take he (by omega) (by omega)
   simp [q]
end Go.Pk

namespace Go.Pk
open Go Go.RowKit Go.Proofs
set_option maxRecDepth 4000 in
theorem c_leaf_open {h : Heap} {w : World} (hs : Sub h w) {t : Text} {t_v0 : Value} (t_f0 : Sl LChapter h t_v0 t.chapters) : Calls Tryz.prog 179 #[.agg #[t_v0]] w (Rets h w (fun h' _ res_ => ∃ u0, res_ = .tuple #[u0, .int .i64 ((if textB t then 0 else 10))] ∧ Box LText h' (textB t) t u0)) := by
 refine zM (n := 13) (args := [.agg #[t_v0]]) Tryz.func179 X X X ?_
 have st0 : St h w h w [] := St.start hs
 have t_f0_b := t_f0.le
 refine zd<|O<|zr st0 (cs := [t_v0]) X X X ?_
 intro b1 w2 h3 le4 hc5 st6
 refine Y X X (zD X)<|Y X X (zx X)<|U<|M<|zd<|zd<|O<|Y X X (zf st6.sub hc5 X Tryz.isAgg24 Tryz.sizeOf24 X)<|zm st6 X X X Tryz.call47 X (c_leaf_Check st6.sub (t := t) (t_f0.up le4)) ?_
 intro r7 w8 h9 le10 st11 q12
 obtain rfl := q12
 refine Y X X (zx X)<|U<|M<|zd<|O<|Y X X (zo X)<|Y X X (r_neq X X)<|U<|M ?_
 refine zt rfl (fun c13 => ?_) (fun c13 => ?_)
 ·
  replace c13 := of_decide_eq_true c13
  refine zd<|O<|Y X X (zo X)<|Y X X (zD X)<|Y X X (zx X)<|U<|M<|zA<|zk<|zS Tryz.results179 ?_
  refine ⟨h9, _, rfl, st11.done, ?_⟩
  refine ⟨_, tup2 rfl (zW ?_), Box.nil ?_⟩
  ·simp_all
  ·simp_all
 ·
  replace c13 := of_decide_eq_false c13
  refine zz<|M<|zd<|O<|Y X X (zf st11.sub (hc5.up le10) X Tryz.isAgg24 Tryz.sizeOf24 X) ?_
  refine Y rfl rfl (r_build (cs := [t_v0]) (by obtain ⟨_, _, rfl⟩ := Sl.form t_f0; kernel_rfl)) ?_
  refine zr st11 (cs := [t_v0]) X X X ?_
  intro b14 w15 h16 le17 hc18 st19
  refine Y X X (r_asP X)<|Y X X (zx X)<|U<|M<|zA<|zS Tryz.results179 ?_
  refine ⟨h16, _, rfl, st19.done, ?_⟩
  refine ⟨_, tup2 rfl (zW ?_), Box.some ?_ hc18 ⟨_, rfl, (t_f0.up ((le4.trans le10).trans le17))⟩⟩
  ·simp_all
  ·simp_all
set_option maxRecDepth 4000 in
theorem c_leaf_book_line {h : Heap} {w : World} (hs : Sub h w) {t_b : Nat} {t : Text} {t_v0 : Value} (t_f0 : Sl LChapter h t_v0 t.chapters) (t_c : Cells h t_b 0 [t_v0]) {p : Place} : Calls Tryz.prog 138 #[.pointer (some ⟨t_b, 0, none⟩), .agg #[.int .i64 p.chapter, .int .i64 p.line, .int .i64 p.word]] w (Rets h w (fun h' _ res_ => ∃ u0, res_ = u0 ∧ Sl LStr h' u0 ((lineAt t p).getD []))) := by
 refine zM (n := 50) (args := [.pointer (some ⟨t_b, 0, none⟩), .agg #[.int .i64 p.chapter, .int .i64 p.line, .int .i64 p.word]]) Tryz.func138 X X X ?_
 have st0 : St h w h w [] := St.start hs
 have t_f0_b := t_f0.le
 refine zd<|O<|zr st0 (cs := [.int .i64 (p.chapter), .int .i64 (p.line), .int .i64 (p.word)]) X X X ?_
 intro b1 w2 h3 le4 hc5 st6
 refine Y X X (r_asL X)<|U<|M<|zd<|zd ?_
 rcases Bool.eq_false_or_eq_true ((!(inAll (([(p.chapter)])) (0) (((t.chapters.length : Int) - 1))))) with g7 | g7
 ·
  have g7_r := g7
  refine zaa (er := ([], [], [], [], 0)) (dsts := [5, 6, 7, 8, 9, 10, 11, 12, 13, 14, 15, 16, 17, 18, 19, 20, 21, 22, 23, 24, 25, 26, 27, 28, 29, 30, 31, 32, 33, 34, 35]) st6 Tryz.mixed<|zh 0 [] X t_kr t_kr X X (fun hD wD τD hL hS hO  => (r_mvP X))<|zh 1 [0] X t_kr t_kr X X (fun hD wD τD hL hS hO _ _ => (r_nil_check X))<|zh 2 [0] X t_kr t_kr X X (fun hD wD τD hL hS hO _ _ => (zc X Tryz.underlying236 X Tryz.sizeOf24 X))<|zh 3 [0] X t_kr t_kr X X (fun hD wD τD hL hS hO _ _ => (zc X Tryz.underlying24 X Tryz.sizeOf22 X))<|zh 4 [0] X t_kr t_kr X X (fun hD wD τD hL hS hO _ _ => (zb (j := 0) (hL.sub hS) (t_c.up le4) X X X Tryz.isAgg22))<|zh 5 [0] X t_kr t_kr X X (fun hD wD τD hL hS hO _ _ => (zag (t_f0.up le4) X Tryz.underlying22))<|zh 6 [0] X t_kr t_kr X X (fun hD wD τD hL hS hO _ _ => (r_sub X X t_om))<|zh 7 [] X t_kr t_kr X X (fun hD wD τD hL hS hO  => (zc X Tryz.underlying52 X Tryz.sizeOf3 X))<|zh 8 [0] X t_kr t_kr X X (fun hD wD τD hL hS hO _ _ => (zb (j := 0) (hL.sub hS) hc5 X X X Tryz.isAgg3)) ?_
  refine zQ 9 (.res (fun h' res_ => Sl LInt h' res_ ([(p.chapter)])) (fun _ _ _ hl f => f.up hl)) [0] rfl t_kr t_kr ?_ ?_
  ·
   intro hD wD τD hL hS hO _ _
   have st8 := St.start hS
   refine zV (L := LInt) (xs := [(p.chapter)]) (cs := [.int .i64 (p.chapter)]) st8 (Enc.cons (L := LInt) (vs := [.int .i64 (p.chapter)]) (x := (p.chapter)) (h := hD) (X) Enc.nil) X X X Tryz.underlying39 Tryz.info3 X X X t_kr ?_
   intro v9 w10 h13 le14 f11 st12
   exact U ⟨_, _, rfl, st12, _, rfl, f11⟩
  refine zQ 10 (.det (.bool (inAll (([(p.chapter)])) (0) (((t.chapters.length : Int) - 1))))) [3, 0] rfl t_kr t_kr ?_ ?_
  ·
   intro hD wD τD hL hS hO _ _ gv9_0 gf9_0
   have st15 := St.start hS
   refine zm st15 X X X Tryz.call89 X (c_leaf_in st15.sub _ _ gf9_0) ?_
   intro r16 w17 h18 le19 st20 q21
   obtain rfl := q21
   exact U ⟨_, _, rfl, st20, (), rfl, trivial⟩
  refine zh 11 [0] X t_kr t_kr X X (fun hD wD τD hL hS hO _ _ => (Run.lit (r_not X) g7_r))<|zh 12 [0, 1] X t_kr t_kr X X (fun hD wD τD hL hS hO _ _ _ _ => (zN X))<|zap 13 [0] X t_kr t_kr X X X X (fun hD wD τD hL hS hO _ _ => X)<|zap 14 [0, 1] X t_kr t_kr X X X X (fun hD wD τD hL hS hO _ _ _ _ => X)<|zap 15 [0, 2] X t_kr t_kr X X X X (fun hD wD τD hL hS hO _ _ _ _ => X)<|zap 16 [0, 3] X t_kr t_kr X X X X (fun hD wD τD hL hS hO _ _ _ _ => X)<|zap 17 [0, 4] X t_kr t_kr X X X X (fun hD wD τD hL hS hO _ _ _ _ => X)<|zap 18 [5] X t_kr t_kr X X X X (fun hD wD τD hL hS hO _ _ => X)<|zap 19 [0, 6] X t_kr t_kr X X X X (fun hD wD τD hL hS hO _ _ _ _ => X)<|zap 20 [2, 0, 7] X t_kr t_kr X X X X (fun hD wD τD hL hS hO _ _ _ _ _ _ => X)<|zap 21 [0, 8] X t_kr t_kr X X X X (fun hD wD τD hL hS hO _ _ _ _ => X)<|zap 22 [0, 9] X t_kr t_kr X X X X (fun hD wD τD hL hS hO _ _ _ _ => X)<|zap 23 [0, 10] X t_kr t_kr X X X X (fun hD wD τD hL hS hO _ _ _ _ => X)<|zap 24 [0, 11] X t_kr t_kr X X X X (fun hD wD τD hL hS hO _ _ _ _ => X)<|zap 25 [12] X t_kr t_kr X X X X (fun hD wD τD hL hS hO _ _ => X)<|zap 26 [0, 13] X t_kr t_kr X X X X (fun hD wD τD hL hS hO _ _ _ _ => X)<|zap 27 [0, 14] X t_kr t_kr X X X X (fun hD wD τD hL hS hO _ _ _ _ => X)<|zap 28 [3, 0, 15] X t_kr t_kr X X X X (fun hD wD τD hL hS hO _ _ _ _ _ _ => X)<|zap 29 [0, 16] X t_kr t_kr X X X X (fun hD wD τD hL hS hO _ _ _ _ => X)<|zh 30 [17, 0] X t_kr t_kr X X (fun hD wD τD hL hS hO _ _ _ _ => (zK (v := (.bool _)) X X))<|zan X X X X X X ⟨t_kr, X, t_kr, X, t_kr, X, X, t_kr, cx_nil⟩ ?_
  intro hE22 w23 _ le24 st25 _ _ _ _ _ _ _ _ _ _ _ _ _ _ _ _ _ _ gv9_0x26 gf9_0x26 _ _ _ _ _ _ _ _ _ _ _ _ _ _ _ _ _ _ _ _ _ _ _ _ _ _ _ _ _ _ _ _ _ _ _ _ _ _ _ _ _ _
  refine AllDeps.fin X<|M ?_
  refine zt rfl (fun c27 => ?_) (fun c27 => ?_)
  ·
   refine zd<|O<|Y X X (r_asL X)<|U<|M<|zA<|zk<|zi Tryz.results138 ?_
   refine ⟨hE22, _, rfl, st25.done, ?_⟩
   refine ⟨_, rfl, Sl.to (Sl.nil _ _) ?_⟩
   have q : lineAt t p = none := line_none1 (by
    have q := g7
    simp [inAll, inB] at q
    omega)
   simp [q]
  ·
   cases c27
 ·
  have g7_r := g7
  have q1 : 0 ≤ p.chapter ∧ p.chapter < t.chapters.length := by
   have q := g7
   simp [inAll, inB] at q
   omega
  have hc : ∃ y_, (t.chapters)[p.chapter.toNat]? = some y_ := ⟨_, List.getElem?_eq_getElem (by omega)⟩
  obtain ⟨c, hc⟩ := hc
  obtain ⟨b28, o29, _, he31, hc30, hr_c⟩ := Sl.elem (t_f0.up le4) hc
  obtain ⟨v32, rfl, f33⟩ := hr_c
  have f33_b := f33.le
  refine zaa (er := ([], [], [], [], 0)) (dsts := [5, 6, 7, 8, 9, 10, 11, 12, 13, 14, 15, 16, 17, 18, 19, 20, 21, 22, 23, 24, 25, 26, 27, 28, 29, 30, 31, 32, 33, 34, 35]) st6 Tryz.mixed<|zh 0 [] X t_kr t_kr X X (fun hD wD τD hL hS hO  => (r_mvP X))<|zh 1 [0] X t_kr t_kr X X (fun hD wD τD hL hS hO _ _ => (r_nil_check X))<|zh 2 [0] X t_kr t_kr X X (fun hD wD τD hL hS hO _ _ => (zc X Tryz.underlying236 X Tryz.sizeOf24 X))<|zh 3 [0] X t_kr t_kr X X (fun hD wD τD hL hS hO _ _ => (zc X Tryz.underlying24 X Tryz.sizeOf22 X))<|zh 4 [0] X t_kr t_kr X X (fun hD wD τD hL hS hO _ _ => (zb (j := 0) (hL.sub hS) (t_c.up le4) X X X Tryz.isAgg22))<|zh 5 [0] X t_kr t_kr X X (fun hD wD τD hL hS hO _ _ => (zag (t_f0.up le4) X Tryz.underlying22))<|zh 6 [0] X t_kr t_kr X X (fun hD wD τD hL hS hO _ _ => (r_sub X X t_om))<|zh 7 [] X t_kr t_kr X X (fun hD wD τD hL hS hO  => (zc X Tryz.underlying52 X Tryz.sizeOf3 X))<|zh 8 [0] X t_kr t_kr X X (fun hD wD τD hL hS hO _ _ => (zb (j := 0) (hL.sub hS) hc5 X X X Tryz.isAgg3)) ?_
  refine zQ 9 (.res (fun h' res_ => Sl LInt h' res_ ([(p.chapter)])) (fun _ _ _ hl f => f.up hl)) [0] rfl t_kr t_kr ?_ ?_
  ·
   intro hD wD τD hL hS hO _ _
   have st34 := St.start hS
   refine zV (L := LInt) (xs := [(p.chapter)]) (cs := [.int .i64 (p.chapter)]) st34 (Enc.cons (L := LInt) (vs := [.int .i64 (p.chapter)]) (x := (p.chapter)) (h := hD) (X) Enc.nil) X X X Tryz.underlying39 Tryz.info3 X X X t_kr ?_
   intro v35 w36 h39 le40 f37 st38
   exact U ⟨_, _, rfl, st38, _, rfl, f37⟩
  refine zQ 10 (.det (.bool (inAll (([(p.chapter)])) (0) (((t.chapters.length : Int) - 1))))) [3, 0] rfl t_kr t_kr ?_ ?_
  ·
   intro hD wD τD hL hS hO _ _ gv9_0 gf9_0
   have st41 := St.start hS
   refine zm st41 X X X Tryz.call89 X (c_leaf_in st41.sub _ _ gf9_0) ?_
   intro r42 w43 h44 le45 st46 q47
   obtain rfl := q47
   exact U ⟨_, _, rfl, st46, (), rfl, trivial⟩
  refine zh 11 [0] X t_kr t_kr X X (fun hD wD τD hL hS hO _ _ => (Run.lit (r_not X) g7_r))<|zh 12 [0, 1] X t_kr t_kr X X (fun hD wD τD hL hS hO _ _ _ _ => (zN X))<|Drw.detG 13 [0] X t_kr t_kr X X X (fun hD wD τD hL hS hO _ _ => ⟨rfl, (r_mvP X)⟩)<|Drw.detG 14 [0, 1] X t_kr t_kr X X X (fun hD wD τD hL hS hO _ _ _ _ => ⟨rfl, (r_nil_check X)⟩)<|Drw.detG 15 [0, 2] X t_kr t_kr X X X (fun hD wD τD hL hS hO _ _ _ _ => ⟨rfl, (zc X Tryz.underlying236 X Tryz.sizeOf24 X)⟩)<|Drw.detG 16 [0, 3] X t_kr t_kr X X X (fun hD wD τD hL hS hO _ _ _ _ => ⟨rfl, (zc X Tryz.underlying24 X Tryz.sizeOf22 X)⟩)<|Drw.detG 17 [0, 4] X t_kr t_kr X X X (fun hD wD τD hL hS hO _ _ _ _ => ⟨rfl, (zb (j := 0) (hL.sub hS) (t_c.up le4) X X X Tryz.isAgg22)⟩)<|Drw.detG 18 [5] X t_kr t_kr X X X (fun hD wD τD hL hS hO _ _ => ⟨rfl, (zc X Tryz.underlying52 X Tryz.sizeOf3 X)⟩)<|Drw.detG 19 [0, 6] X t_kr t_kr X X X (fun hD wD τD hL hS hO _ _ _ _ => ⟨rfl, (zb (j := 0) (hL.sub hS) hc5 X X X Tryz.isAgg3)⟩) ?_
  refine Drw.detG 20 [2, 0, 7] rfl t_kr t_kr rfl rfl rfl (fun hD wD τD hL hS hO _ _ _ _ _ _ => ⟨rfl, (zp he31 rfl rfl (hk := (show _ = ((p.chapter.toNat : Nat) : Int) by omega)) (hu := Tryz.underlying22) (hz := Tryz.sizeOf93))⟩) ?_
  refine Drw.detG 21 [0, 8] X t_kr t_kr X X X (fun hD wD τD hL hS hO _ _ _ _ => ⟨rfl, (zc X Tryz.underlying93 X Tryz.sizeOf91 X)⟩)<|Drw.detG 22 [0, 9] X t_kr t_kr X X X (fun hD wD τD hL hS hO _ _ _ _ => ⟨rfl, (zb (j := 1) (hL.sub hS) hc30 X X X Tryz.isAgg91)⟩)<|Drw.detG 23 [0, 10] X t_kr t_kr X X X (fun hD wD τD hL hS hO _ _ _ _ => ⟨rfl, (zag f33 X Tryz.underlying91)⟩)<|Drw.detG 24 [0, 11] X t_kr t_kr X X X (fun hD wD τD hL hS hO _ _ _ _ => ⟨rfl, (r_sub X X t_om)⟩)<|Drw.detG 25 [12] X t_kr t_kr X X X (fun hD wD τD hL hS hO _ _ => ⟨rfl, (zc X Tryz.underlying52 X Tryz.sizeOf3 X)⟩)<|Drw.detG 26 [0, 13] X t_kr t_kr X X X (fun hD wD τD hL hS hO _ _ _ _ => ⟨rfl, (zb (j := 1) (hL.sub hS) hc5 X X X Tryz.isAgg3)⟩) ?_
  refine zQ 27 (.res (fun h' res_ => Sl LInt h' res_ ([(p.line)])) (fun _ _ _ hl f => f.up hl)) [0, 14] rfl t_kr t_kr ?_ ?_
  ·
   intro hD wD τD hL hS hO _ _ _ _
   have st48 := St.start hS
   refine za X X (d := 17) X<|zV (L := LInt) (xs := [(p.line)]) (cs := [.int .i64 (p.line)]) st48 (Enc.cons (L := LInt) (vs := [.int .i64 (p.line)]) (x := (p.line)) (h := hD) (X) Enc.nil) X X X Tryz.underlying39 Tryz.info3 X X X t_kr ?_
   intro v49 w50 h53 le54 f51 st52
   exact U ⟨_, _, rfl, st52, _, rfl, f51⟩
  refine zQ 28 (.det (.bool (inAll (([(p.line)])) (0) (((c.lines.length : Int) - 1))))) [3, 0, 15] rfl t_kr t_kr ?_ ?_
  ·
   intro hD wD τD hL hS hO _ _ gv27_0 gf27_0 _ _
   have st55 := St.start hS
   refine za X X (d := 17) X<|zm st55 X X X Tryz.call89 X (c_leaf_in st55.sub _ _ gf27_0) ?_
   intro r56 w57 h58 le59 st60 q61
   obtain rfl := q61
   exact U ⟨_, _, rfl, st60, (), rfl, trivial⟩
  refine Drw.detG 29 [0, 16] X t_kr t_kr X X X (fun hD wD τD hL hS hO _ _ _ _ => ⟨rfl, (r_not X)⟩)<|zh 30 [17, 0] X t_kr t_kr X X (fun hD wD τD hL hS hO _ _ _ _ => (zC (v := (.bool _)) X X))<|zan X X X X X X ⟨t_kr, X, t_kr, X, t_kr, X, X, t_kr, cx_nil⟩ ?_
  intro hE62 w63 _ le64 st65 _ _ _ _ _ _ _ _ _ _ _ _ _ _ _ _ _ _ gv9_0x66 gf9_0x66 _ _ _ _ _ _ _ _ _ _ _ _ _ _ _ _ _ _ _ _ _ _ _ _ _ _ _ _ _ _ _ _ _ _ gv27_0x66 gf27_0x66 _ _ _ _ _ _
  refine AllDeps.fin X<|M ?_
  refine zt rfl (fun c67 => ?_) (fun c67 => ?_)
  ·
   refine zd<|O<|Y X X (r_asL X)<|U<|M<|zA<|zk<|zi Tryz.results138 ?_
   refine ⟨hE62, _, rfl, st65.done, ?_⟩
   refine ⟨_, rfl, Sl.to (Sl.nil _ _) ?_⟩
   have q : lineAt t p = none := line_none2 hc (by
    have q := c67
    simp [inAll, inB] at q
    omega)
   simp [q]
  ·
   refine zz<|M<|zd ?_
   have q1 : 0 ≤ p.chapter ∧ p.chapter < t.chapters.length ∧ 0 ≤ p.line ∧ p.line < c.lines.length := by
    have q := g7
    have q0 := c67
    simp [inAll, inB] at q q0
    omega
   refine zai Tryz.mixed t_kr (Cls hE62 _) (Cls.drew st65)<|ze X X (fun _ _ => (r_mvP X))<|ze X X (fun _ _ => (r_nil_check X))<|ze X X (fun _ _ => (zc X Tryz.underlying236 X Tryz.sizeOf24 X))<|ze X X (fun _ _ => (zc X Tryz.underlying24 X Tryz.sizeOf22 X))<|ze X X (fun _ hC => (zb (j := 0) hC.sub (t_c.up (le4.trans le64)) X X X Tryz.isAgg22))<|ze X X (fun _ _ => (zc X Tryz.underlying52 X Tryz.sizeOf3 X))<|ze X X (fun _ hC => (zb (j := 0) hC.sub (hc5.up le64) X X X Tryz.isAgg3)) ?_
   refine ze rfl rfl (fun _ _ => (zp he31 rfl rfl (hk := (show _ = ((p.chapter.toNat : Nat) : Int) by omega)) (hu := Tryz.underlying22) (hz := Tryz.sizeOf93))) ?_
   refine ze X X (fun _ _ => (zc X Tryz.underlying93 X Tryz.sizeOf91 X))<|ze X X (fun _ hC => (zb (j := 1) hC.sub (hc30.up le64) X X X Tryz.isAgg91))<|ze X X (fun _ _ => (zc X Tryz.underlying52 X Tryz.sizeOf3 X))<|ze X X (fun _ hC => (zb (j := 1) hC.sub (hc5.up le64) X X X Tryz.isAgg3)) ?_
   have hln : ∃ y_, (c.lines)[p.line.toNat]? = some y_ := ⟨_, List.getElem?_eq_getElem (by omega)⟩
   obtain ⟨ln, hln⟩ := hln
   obtain ⟨b68, o69, _, he71, hc70, hr_ln⟩ := Sl.elem (f33.up le64) hln
   obtain ⟨v72, rfl, f73⟩ := hr_ln
   have f73_b := f73.le
   refine ze rfl rfl (fun _ _ => (zp he71 rfl rfl (hk := (show _ = ((p.line.toNat : Nat) : Int) by omega)) (hu := Tryz.underlying91) (hz := Tryz.sizeOf33))) ?_
   refine ze X X (fun _ hC => (zb (j := 0) hC.sub hc70 X X X Tryz.isAgg33))<|ze X X (fun _ _ => (zD (v := v72) X))<|zac ?_
   rintro w74 ⟨h75, s76⟩
   have st77 := st65.call0 s76
   refine M<|zA<|zi Tryz.results138 ?_
   refine ⟨h75, _, rfl, st77.done, ?_⟩
   refine ⟨_, rfl, Sl.to (f73.up s76.le) ?_⟩
   rw [line_some hc q1.1 hln q1.2.2.1]; rfl
set_option maxRecDepth 4000 in
theorem c_leaf_book_has {h : Heap} {w : World} (hs : Sub h w) {t_b : Nat} {t : Text} {t_v0 : Value} (t_f0 : Sl LChapter h t_v0 t.chapters) (t_c : Cells h t_b 0 [t_v0]) {p : Place} : Calls Tryz.prog 180 #[.pointer (some ⟨t_b, 0, none⟩), .agg #[.int .i64 p.chapter, .int .i64 p.line, .int .i64 p.word]] w (Rets h w (fun _ _ res_ => res_ = .bool (placeB t p))) := by
 refine zM (n := 14) (args := [.pointer (some ⟨t_b, 0, none⟩), .agg #[.int .i64 p.chapter, .int .i64 p.line, .int .i64 p.word]]) Tryz.func180 X X X ?_
 have st0 : St h w h w [] := St.start hs
 have t_f0_b := t_f0.le
 refine zd<|O<|zr st0 (cs := [.int .i64 (p.chapter), .int .i64 (p.line), .int .i64 (p.word)]) X X X ?_
 intro b1 w2 h3 le4 hc5 st6
 refine Y X X (zJ X)<|U<|M<|zd ?_
 have qb := line_le t_f0 p
 refine zaa (er := ([], [], [], [], 0)) (dsts := [5, 6, 7, 8, 9, 10, 11, 12, 13, 4]) st6 Tryz.mixed<|zh 0 [] X t_kr t_kr X X (fun hD wD τD hL hS hO  => (r_mvP X))<|zh 1 [] X t_kr t_kr X X (fun hD wD τD hL hS hO  => (zf (hL.sub hS) hc5 X Tryz.isAgg52 Tryz.sizeOf52 X)) ?_
 refine zQ 2 (.res (fun h' res_ => Sl LStr h' res_ ((lineAt (t) (p)).getD [])) (fun _ _ _ hl f => f.up hl)) [1, 0] rfl t_kr t_kr ?_ ?_
 ·
  intro hD wD τD hL hS hO _ _ _ _
  have st7 := St.start hS
  refine zm st7 X X X Tryz.call138 X (c_leaf_book_line st7.sub (t := t) (t_f0.up (le4.trans hL)) (t_c.up (le4.trans hL)) (p := p)) ?_
  intro r8 w9 h10 le11 st12 q13
  obtain ⟨v14, e16, f15⟩ := q13
  rw [← e16] at f15
  have f15_b := f15.le
  exact U ⟨_, _, rfl, st12, _, rfl, f15⟩
 refine zQ 3 (.det (.int .i64 (((lineAt (t) (p)).getD []).length : Int))) [0] rfl t_kr t_kr ?_ ?_
 ·
  intro hD wD τD hL hS hO gv2_0 gf2_0
  have st17 := St.start hS
  refine Y X X (zag gf2_0 X Tryz.underlying33) ?_
  exact U ⟨_, _, rfl, st17, (), rfl, trivial⟩
 refine zh 4 [0] X t_kr t_kr X X (fun hD wD τD hL hS hO _ _ => (r_sub X X t_om))<|zh 5 [] X t_kr t_kr X X (fun hD wD τD hL hS hO  => (zc X Tryz.underlying52 X Tryz.sizeOf3 X))<|zh 6 [0] X t_kr t_kr X X (fun hD wD τD hL hS hO _ _ => (zb (j := 2) (hL.sub hS) hc5 X X X Tryz.isAgg3)) ?_
 refine zQ 7 (.res (fun h' res_ => Sl LInt h' res_ ([(p.word)])) (fun _ _ _ hl f => f.up hl)) [0] rfl t_kr t_kr ?_ ?_
 ·
  intro hD wD τD hL hS hO _ _
  have st18 := St.start hS
  refine zV (L := LInt) (xs := [(p.word)]) (cs := [.int .i64 (p.word)]) st18 (Enc.cons (L := LInt) (vs := [.int .i64 (p.word)]) (x := (p.word)) (h := hD) (X) Enc.nil) X X X Tryz.underlying39 Tryz.info3 X X X t_kr ?_
  intro v19 w20 h23 le24 f21 st22
  exact U ⟨_, _, rfl, st22, _, rfl, f21⟩
 refine zQ 8 (.det (.bool (inAll (([(p.word)])) (0) (((((lineAt (t) (p)).getD []).length : Int) - 1))))) [3, 0, 5] rfl t_kr t_kr ?_ ?_
 ·
  intro hD wD τD hL hS hO _ _ gv7_0 gf7_0 gv2_0 gf2_0
  have st25 := St.start hS
  refine zm st25 X X X Tryz.call89 X (c_leaf_in st25.sub _ _ gf7_0) ?_
  intro r26 w27 h28 le29 st30 q31
  obtain rfl := q31
  exact U ⟨_, _, rfl, st30, (), rfl, trivial⟩
 refine zh 9 [8, 7, 6, 5, 4, 3, 2, 1, 0] X t_kr t_kr X X (fun hD wD τD hL hS hO _ _ _ _ gv2_0 gf2_0 _ _ _ _ _ _ _ _ gv7_0 gf7_0 _ _ => (zJ X))<|zan X X X X X X ⟨t_kr, X, t_kr, X, t_kr, X, X, t_kr, cx_nil⟩ ?_
 intro hE32 w33 _ le34 st35 _ _ _ _ gv2_0x36 gf2_0x36 _ _ _ _ _ _ _ _ gv7_0x36 gf7_0x36 _ _ _ _
 refine AllDeps.fin X<|M<|zA<|zi Tryz.results180 ?_
 refine ⟨hE32, _, rfl, st35.done, ?_⟩
 refine zw ?_
 rw [place_eq]
 cases hq : lineAt t p with
 | none => simp [inAll, inB]; omega
 | some l => simp [inAll]
set_option maxRecDepth 4000 in
theorem c_leaf_placed {h : Heap} {w : World} (hs : Sub h w) {t : Text} {t_v0 : Value} (t_f0 : Sl LChapter h t_v0 t.chapters) {p : Place} : Calls Tryz.prog 137 #[.agg #[t_v0], .agg #[.int .i64 p.chapter, .int .i64 p.line, .int .i64 p.word]] w (Rets h w (fun h' _ res_ => ∃ u0, res_ = .tuple #[u0, .int .i64 ((if textB t && placeB t p then 0 else if textB t then 12 else 10))] ∧ Box LText h' (textB t && placeB t p) t u0)) := by
 refine zM (n := 21) (args := [.agg #[t_v0], .agg #[.int .i64 p.chapter, .int .i64 p.line, .int .i64 p.word]]) Tryz.func137 X X X ?_
 have st0 : St h w h w [] := St.start hs
 have t_f0_b := t_f0.le
 refine zd<|O<|zr st0 (cs := [t_v0]) X X X ?_
 intro b1 w2 h3 le4 hc5 st6
 refine zr st6 (cs := [.int .i64 (p.chapter), .int .i64 (p.line), .int .i64 (p.word)]) X X X ?_
 intro b7 w8 h9 le10 hc11 st12
 refine Y X X (zD X)<|Y X X (zx X)<|U<|M<|zd<|O<|Y X X (zf st12.sub (hc5.up le10) X Tryz.isAgg24 Tryz.sizeOf24 X)<|zm st12 X X X Tryz.call179 X (c_leaf_open st12.sub (t := t) (t_f0.up (le4.trans le10))) ?_
 intro r13 w14 h15 le16 st17 q18
 rcases Bool.eq_false_or_eq_true (textB (t)) with hb19 | hb19
 ·
  simp only [hb19, if_true, if_false, Bool.false_eq_true, reduceIte] at q18
  obtain ⟨v20, rfl, f21⟩ := q18
  obtain ⟨b22, vs23, rfl, hc24, hr25⟩ := f21
  obtain ⟨v26, rfl, f27⟩ := hr25
  have f27_b := f27.le
  refine Y X X (r_mvT X)<|Y X X (zH (v := (.pointer (some _))) X X)<|Y X X (zH (v := (.int _ _)) X X)<|Y X X (r_asP X)<|Y X X (zx X)<|U<|M<|zd<|zd<|O<|Y X X (zo X)<|Y X X (r_neq X X)<|U<|M ?_
  refine zt rfl (fun c28 => ?_) (fun c28 => ?_)
  ·
   exact absurd c28 (by decide)
  ·
   refine zz<|M<|zd<|zd<|O<|Y X X (r_mvP X)<|Y X X (zf st17.sub (hc11.up le16) X Tryz.isAgg52 Tryz.sizeOf52 X)<|zm st17 X X X Tryz.call180 X (c_leaf_book_has st17.sub (t := (t)) f27 hc24 (p := p)) ?_
   intro r29 w30 h31 le32 st33 q34
   obtain rfl := q34
   refine Y X X (r_not X)<|U<|M ?_
   refine zt rfl (fun c35 => ?_) (fun c35 => ?_)
   ·
    refine zd<|O<|Y X X (zD X)<|Y X X (zx X)<|U<|M<|zA<|zk<|zS Tryz.results137 ?_
    refine ⟨h31, _, rfl, st33.done, ?_⟩
    refine ⟨_, tup2 rfl (zW ?_), Box.nil ?_⟩
    ·simp_all
    ·simp_all
   ·
    refine zz<|M<|zd<|O<|Y X X (r_mvP X)<|Y X X (r_asP X)<|Y X X (zx X)<|U<|M<|zA<|zS Tryz.results137 ?_
    refine ⟨h31, _, rfl, st33.done, ?_⟩
    refine ⟨_, tup2 rfl (zW ?_), Box.some ?_ (hc24.up le32) ⟨_, rfl, (f27.up le32)⟩⟩
    ·simp_all
    ·simp_all
 ·
  simp only [hb19, if_true, if_false, Bool.false_eq_true, reduceIte] at q18
  obtain ⟨v36, rfl, f37⟩ := q18
  obtain rfl := f37
  refine Y X X (r_mvT X)<|Y X X (zH (v := (.pointer none)) X X)<|Y X X (zH (v := (.int _ _)) X X)<|Y X X (zD X)<|Y X X (zx X)<|U<|M<|zd<|zd<|O<|Y X X (zo X)<|Y X X (r_neq X X)<|U<|M ?_
  refine zt rfl (fun c38 => ?_) (fun c38 => ?_)
  ·
   refine zd<|O<|Y X X (zo X)<|Y X X (zD X)<|Y X X (zx X)<|U<|M<|zA<|zk<|zS Tryz.results137 ?_
   refine ⟨h15, _, rfl, st17.done, ?_⟩
   refine ⟨_, tup2 rfl (zW ?_), Box.nil ?_⟩
   ·simp_all
   ·simp_all
  ·
   exact absurd c38 (by decide)
set_option maxRecDepth 4000 in
theorem c_leaf_At {h : Heap} {w : World} (hs : Sub h w) {t : Text} {t_v0 : Value} (t_f0 : Sl LChapter h t_v0 t.chapters) {p : Place} : Calls Tryz.prog 99 #[.agg #[t_v0], .agg #[.int .i64 p.chapter, .int .i64 p.line, .int .i64 p.word]] w (Rets h w (fun _ _ res_ => res_ = .tuple #[strV ((if textB t then (wordAt t p).getD [] else [])), .int .i64 ((if textB t && placeB t p then 0 else if textB t then 12 else 10))])) := by
 refine zM (n := 24) (args := [.agg #[t_v0], .agg #[.int .i64 p.chapter, .int .i64 p.line, .int .i64 p.word]]) Tryz.func99 X X X ?_
 have st0 : St h w h w [] := St.start hs
 have t_f0_b := t_f0.le
 refine zd<|O<|zr st0 (cs := [t_v0]) X X X ?_
 intro b1 w2 h3 le4 hc5 st6
 refine zr st6 (cs := [.int .i64 (p.chapter), .int .i64 (p.line), .int .i64 (p.word)]) X X X ?_
 intro b7 w8 h9 le10 hc11 st12
 refine Y X X (r_asS X)<|Y X X (zx X)<|U<|M<|zd<|O<|Y X X (zf st12.sub (hc5.up le10) X Tryz.isAgg24 Tryz.sizeOf24 X)<|Y X X (zf st12.sub hc11 X Tryz.isAgg52 Tryz.sizeOf52 X)<|zm st12 X X X Tryz.call137 X (c_leaf_placed st12.sub (t := t) (t_f0.up (le4.trans le10)) (p := p)) ?_
 intro r13 w14 h15 le16 st17 q18
 rcases Bool.eq_false_or_eq_true (textB (t) && placeB (t) (p)) with hb19 | hb19
 ·
  simp only [hb19, if_true, if_false, Bool.false_eq_true, reduceIte] at q18
  obtain ⟨v20, rfl, f21⟩ := q18
  obtain ⟨b22, vs23, rfl, hc24, hr25⟩ := f21
  obtain ⟨v26, rfl, f27⟩ := hr25
  have f27_b := f27.le
  refine Y X X (r_mvT X)<|Y X X (zH (v := (.pointer (some _))) X X)<|Y X X (zH (v := (.int _ _)) X X)<|Y X X (r_asP X)<|Y X X (zx X)<|U<|M<|zd<|zd<|O<|Y X X (zo X)<|Y X X (r_neq X X)<|U<|M ?_
  refine zt rfl (fun c28 => ?_) (fun c28 => ?_)
  ·
   exact absurd c28 (by decide)
  ·
   refine zz<|M<|zd ?_
   have q1 : placeB t p = true := by simp_all
   have q2 := place_eq t p
   have q3 : 0 ≤ p.word ∧ p.word < (((lineAt t p).getD []).length : Int) := by
    rw [q1] at q2
    simp [inB] at q2
    omega
   have hwd : ∃ y_, (((lineAt ((t)) (p)).getD []))[p.word.toNat]? = some y_ := ⟨_, List.getElem?_eq_getElem (by omega)⟩
   obtain ⟨wd, hwd⟩ := hwd
   refine zaa (er := ([], [], [], [], 0)) (dsts := [17, 18, 19, 20, 21, 22, 23, 4, 5]) st17 Tryz.mixed<|zh 0 [] X t_kr t_kr X X (fun hD wD τD hL hS hO  => (r_mvP X))<|zh 1 [] X t_kr t_kr X X (fun hD wD τD hL hS hO  => (zf (hL.sub hS) (hc11.up le16) X Tryz.isAgg52 Tryz.sizeOf52 X)) ?_
   refine zQ 2 (.res (fun h' res_ => Sl LStr h' res_ ((lineAt ((t)) (p)).getD [])) (fun _ _ _ hl f => f.up hl)) [1, 0] rfl t_kr t_kr ?_ ?_
   ·
    intro hD wD τD hL hS hO _ _ _ _
    have st29 := St.start hS
    refine zm st29 X X X Tryz.call138 X (c_leaf_book_line st29.sub (t := (t)) (f27.up hL) (hc24.up hL) (p := p)) ?_
    intro r30 w31 h32 le33 st34 q35
    obtain ⟨v36, e38, f37⟩ := q35
    rw [← e38] at f37
    have f37_b := f37.le
    exact U ⟨_, _, rfl, st34, _, rfl, f37⟩
   refine zh 3 [] X t_kr t_kr X X (fun hD wD τD hL hS hO  => (zc X Tryz.underlying52 X Tryz.sizeOf3 X))<|zh 4 [0] X t_kr t_kr X X (fun hD wD τD hL hS hO _ _ => (zb (j := 2) (hL.sub hS) (hc11.up le16) X X X Tryz.isAgg3)) ?_
   refine zQ 5 (.res (fun h' res_ => ∃ b o, res_ = .pointer (some ⟨b, o, none⟩) ∧ Cells h' b o [strV wd]) (by rintro _ _ _ hl ⟨b, o, e, c⟩; exact ⟨b, o, e, c.up hl⟩)) [2, 0] rfl t_kr t_kr ?_ ?_
   ·
    intro hD wD τD hL hS hO gv2_0 gf2_0 _ _
    have st39 := St.start hS
    obtain ⟨b_, o_, _, he_, hc_, hr_⟩ := Sl.elem gf2_0 hwd
    obtain ⟨rfl, ls40⟩ := hr_
    simp only [big] at ls40
    refine Y rfl rfl (zp he_ rfl rfl (hk := (show _ = ((p.word.toNat : Nat) : Int) by omega)) (hu := Tryz.underlying33) (hz := Tryz.sizeOf9)) ?_
    exact U ⟨_, _, rfl, st39, _, rfl, _, _, rfl, hc_⟩
   refine zQ 6 (.det (strV wd)) [0] rfl t_kr t_kr ?_ ?_
   ·
    intro hD wD τD hL hS hO gv5_ gf5_
    obtain ⟨gb5, go5, rfl, gc5⟩ := gf5_
    have st41 := St.start hS
    refine Y X X (zb (j := 0) hS gc5 X X X Tryz.isAgg9) ?_
    exact U ⟨_, _, rfl, st41, (), rfl, trivial⟩
   refine zh 7 [6, 5, 4, 3, 2, 1, 0] X t_kr t_kr X X (fun hD wD τD hL hS hO _ _ _ _ gv2_0 gf2_0 _ _ _ _ gv5_ gf5_ _ _ => (r_asS X))<|zh 8 [7, 6, 5, 4, 3, 2, 1, 0] X t_kr t_kr X X (fun hD wD τD hL hS hO _ _ _ _ gv2_0 gf2_0 _ _ _ _ gv5_ gf5_ _ _ _ _ => (zx X))<|zan X X X X X X ⟨t_kr, X, t_kr, X, t_kr, X, X, t_kr, cx_nil⟩ ?_
   intro hE42 w43 _ le44 st45 _ _ _ _ gv2_0x46 gf2_0x46 _ _ _ _ gv5_x46 gf5_x46 _ _ _ _ _ _
   obtain ⟨gb5x46, go5x46, rfl, gc5x46⟩ := gf5_x46
   refine AllDeps.fin X<|M<|zA<|zS Tryz.results99 ?_
   refine ⟨hE42, _, rfl, st45.done, ?_⟩
   refine tup2 (str_eq ?_) (zW ?_)
   all_goals have qq : textB t = true ∧ placeB t p = true := by simp_all
   ·simp [qq.1, word_some qq.2 hwd]
   ·simp [qq.1, qq.2]
 ·
  simp only [hb19, if_true, if_false, Bool.false_eq_true, reduceIte] at q18
  obtain ⟨v47, rfl, f48⟩ := q18
  obtain rfl := f48
  refine Y X X (r_mvT X)<|Y X X (zH (v := (.pointer none)) X X)<|Y X X (zH (v := (.int _ _)) X X)<|Y X X (zD X)<|Y X X (zx X)<|U<|M<|zd<|zd<|O<|Y X X (zo X)<|Y X X (r_neq X X)<|U<|M ?_
  refine zt rfl (fun c49 => ?_) (fun c49 => ?_)
  ·
   replace c49 := of_decide_eq_true c49
   refine zd<|O<|Y X X (zo X)<|Y X X (r_asS X)<|Y X X (zx X)<|U<|M<|zA<|zk<|zS Tryz.results99 ?_
   refine ⟨h15, _, rfl, st17.done, ?_⟩
   refine tup2 (str_eq ?_) (zW ?_)
   all_goals have qq : textB t = true → placeB t p = false := by simp_all
   ·cases q0 : textB t
    ·rfl
    ·simp [word_none (qq q0)]
   ·cases q0 : textB t
    ·rfl
    ·simp [qq q0]
  ·
   replace c49 := of_decide_eq_false c49
   exfalso
   revert c49
   split <;> simp
end Go.Pk

namespace Go.Pk
open Go Go.RowKit Go.Proofs
set_option maxRecDepth 4000 in
theorem c_strings_indexFunc {s : Str} (hlen : s.length ≤ 281474976710656) {g : FuncId} {caps : List Value} (p : Int → Bool) (hp : ∀ x : Int, 128 ≤ x → p x = true)
  (hf : ∀ (x : Int) h w, Sub h w → Calls Tryz.prog g (.int .i32 x :: caps).toArray w (Rets h w fun _ _ r => r = .bool (p x)))
  (hg : ∀ a w, (callFunc g a).run Tryz.prog w = .ok (.enter g a) w) {h : Heap} {w : World} (hs : Sub h w) :
  Calls Tryz.prog 170 #[strV s, .func (.func g) #[] caps.toArray, .bool true] w (Rets h w fun _ _ r => ∃ k : Int, r = .int .i64 k ∧ (0 ≤ k ↔ (s.any fun c => p (c.toNat : Int)) = true)) := by
 refine zM (n := 21) (args := [strV s, .func (.func g) #[] caps.toArray, .bool true]) Tryz.func170 X X X ?_
 have st0 : St h w h w [] := St.start hs
 refine zd<|O<|Y X X (zx X)<|U<|M<|zd<|zd<|O<|Y X X (r_mvS X)<|OpsL.rangeS st0 X Tryz.underlying9 X ?_
 intro b w1 st1
 refine U<|M<|zF ?_
 refine zX [7, 8, 11, 12, 13, 14, 15, 16, 17, 18, 19, 20, 6] (G := Nat × Heap) (fun ⟨k, _⟩ => []) (fun ⟨k, h'⟩ w' => Le h h' ∧ St h w h' w' [[(b, .stringIter ⟨s.toArray⟩ k)]] ∧ k ≤ s.length ∧ ∀ j c, j < k → s[j]? = some c → p (c.toNat : Int) = false) (fun ⟨k, _⟩ => s.length - k) ⟨0, h⟩ trivial ⟨Le.refl _, st1, by omega, by intros; omega⟩ ?_
 rintro ⟨k, h2⟩ _ w2 ⟨le2, st2, hk, hall⟩
 rcases Nat.lt_or_ge k s.length with hlt | hge
 ·obtain ⟨c, hc⟩ : ∃ c, s[k]? = some c := ⟨_, List.getElem?_eq_getElem hlt⟩
  refine zd<|O<|OpsL.nextS st2 (k := 0) X X hc X ?_
  intro w3 st3
  generalize hR : Utf8.decode ⟨s.toArray⟩ k = R at st3
  refine Y X X (zH (v := .bool _) X X)<|U<|M<|zd ?_
  refine zt rfl (fun c1 => ?_) (fun c1 => ?_)
  ·refine zz ?_
   refine M<|zF<|zd<|O<|Y X X (zH (v := .int _ _) X X)<|Y X X (zH (v := .int _ _) X X)<|Y X X (zx X)<|Y X X (zx X)<|U<|M<|zd<|O<|Y X X (r_mvF X)<|Y X X (zo X) ?_
   refine zad rfl rfl (run_call_value (fs := []) (cs := caps) rfl rfl hg rfl) ((hf (R.1 : Int) h2 w3 st3.sub).mono ?_)
   rintro e w4 ⟨h4, r4, rfl, s4, rfl⟩
   refine ⟨_, rfl, ?_⟩
   have st4 := st3.call0 s4
   refine Y X X (zN X)<|Y X X (r_beql X X Tryz.underlying4)<|U<|M ?_
   refine zt rfl (fun c2 => ?_) (fun c2 => ?_)
   ·have c3 : p (R.1 : Int) = true := by simpa using c2
    refine zd<|O<|Y X X (zo X)<|Y X X (zx X)<|U<|M<|zA ?_
    repeat (first | refine zL ?_ | refine zk ?_)
    refine zi Tryz.results170 ?_
    refine ⟨h4, _, rfl, st4.done, (k : Int), rfl, ⟨fun _ => ?_, fun _ => by omega⟩⟩
    rw [List.any_eq_true]
    refine ⟨c, List.mem_of_getElem? hc, ?_⟩
    by_cases hl : c.toNat < 128
    ·rw [decode_low hc hl] at hR; subst hR; exact c3
    ·exact hp _ (by omega)
   ·have c3 : p (R.1 : Int) = false := by simpa using c2
    have hl : c.toNat < 128 := by
     rcases Nat.lt_or_ge c.toNat 128 with h5 | h5
     ·exact h5
     ·have q := decode_high hc (by omega)
      rw [hR] at q
      rw [hp _ (by omega)] at c3; cases c3
    rw [decode_low hc hl] at hR
    subst hR
    refine zz<|zI ?_
    refine ⟨⟨k + 1, h4⟩, trivial, ?_, ⟨le2.trans s4.le, st4, by omega, ?_⟩, ?_⟩
    ·exact zae
    ·intro j d hj hd
     rcases Nat.lt_or_ge j k with h3 | h3
     ·exact hall j d h3 hd
     ·obtain rfl : j = k := by omega
      rw [hc] at hd; cases hd
      exact c3
    ·show s.length - (k + 1) < s.length - k
     omega
  ·cases c1
 ·refine zd ?_
  refine O<|OpsL.nextE st2 (k := 0) X X hge X<|Y X X (zH (v := .bool _) X X)<|U<|M<|zd ?_
  refine zt rfl (fun c1 => ?_) (fun c1 => ?_)
  ·cases c1
  ·refine zab ?_
   refine zn<|zn<|zT<|M<|zd<|O<|Y X X (zx X)<|U<|M<|zA<|zi Tryz.results170 ?_
   refine ⟨h2, _, rfl, st2.done, _, rfl, ⟨fun q => absurd q (by decide), fun q => ?_⟩⟩
   rw [List.any_eq_true] at q
   obtain ⟨c, hc, hpc⟩ := q
   obtain ⟨j, hj⟩ := List.mem_iff_getElem?.1 hc
   have hjl := (List.getElem?_eq_some_iff.1 hj).1
   rw [hall j c (by omega) hj] at hpc; cases hpc
set_option maxRecDepth 4000 in
theorem c_strings_IndexFunc {s : Str} (hlen : s.length ≤ 281474976710656) {g : FuncId} {caps : List Value} (p : Int → Bool) (hp : ∀ x : Int, 128 ≤ x → p x = true)
  (hf : ∀ (x : Int) h w, Sub h w → Calls Tryz.prog g (.int .i32 x :: caps).toArray w (Rets h w fun _ _ r => r = .bool (p x)))
  (hg : ∀ a w, (callFunc g a).run Tryz.prog w = .ok (.enter g a) w) {h : Heap} {w : World} (hs : Sub h w) :
  Calls Tryz.prog 116 #[strV s, .func (.func g) #[] caps.toArray] w (Rets h w fun _ _ r => ∃ k : Int, r = .int .i64 k ∧ (0 ≤ k ↔ (s.any fun c => p (c.toNat : Int)) = true)) := by
 refine zM (n := 8) (args := [strV s, .func (.func g) #[] caps.toArray]) Tryz.func116 X X X ?_
 have st0 : St h w h w [] := St.start hs
 refine zd<|O<|Y X X (zx X)<|U<|M<|zd<|O<|Y X X (r_mvS X)<|Y X X (r_mvF X)<|zm st0 X X X Tryz.call170 X (c_strings_indexFunc hlen p hp hf hg st0.sub) ?_
 rintro v w1 h1 le1 st1 ⟨k, rfl, hk⟩
 refine Y X X (zx X)<|U<|M<|zA<|zi Tryz.results116 ?_
 exact ⟨h1, _, rfl, st1.done, k, rfl, hk⟩
set_option maxRecDepth 4000 in
theorem c_strings_ContainsFunc {s : Str} (hlen : s.length ≤ 281474976710656) {g : FuncId} {caps : List Value} (p : Int → Bool) (hp : ∀ x : Int, 128 ≤ x → p x = true)
  (hf : ∀ (x : Int) h w, Sub h w → Calls Tryz.prog g (.int .i32 x :: caps).toArray w (Rets h w fun _ _ r => r = .bool (p x)))
  (hg : ∀ a w, (callFunc g a).run Tryz.prog w = .ok (.enter g a) w) {h : Heap} {w : World} (hs : Sub h w) :
  Calls Tryz.prog 81 #[strV s, .func (.func g) #[] caps.toArray] w (Rets h w fun _ _ r => r = .bool (s.any fun c => p (c.toNat : Int))) := by
 refine zM (n := 9) (args := [strV s, .func (.func g) #[] caps.toArray]) Tryz.func81 X X X ?_
 have st0 : St h w h w [] := St.start hs
 refine zd<|O<|Y X X (zJ X)<|U<|M<|zd<|O<|Y X X (r_mvS X)<|Y X X (r_mvF X)<|zm st0 X X X Tryz.call116 X (c_strings_IndexFunc hlen p hp hf hg st0.sub) ?_
 rintro v w1 h1 le1 st1 ⟨k, rfl, hk⟩
 refine Y X X (r_geq X X)<|Y X X (zJ X)<|U<|M<|zA<|zi Tryz.results81 ?_
 refine ⟨h1, _, rfl, st1.done, zw ?_⟩
 rw [Bool.eq_iff_iff, decide_eq_true_eq]
 exact hk
end Go.Pk

namespace Go.Pk
open Go Go.RowKit Go.Proofs
set_option maxRecDepth 4000 in
theorem c_stem_letters_1 {h : Heap} {w : World} (hs : Sub h w) (c : Int) : Calls Tryz.prog 82 #[.int .i32 c] w (Rets h w (fun _ _ res_ => res_ = .bool ((decide (c < 97) || decide (122 < c))))) := by
 refine zM (n := 9) (args := [.int .i32 c]) Tryz.func82 X X X ?_
 have st0 : St h w h w [] := St.start hs
 refine zd<|O<|Y X X (zJ X)<|U<|M<|zd<|O<|Y X X (zo X)<|Y X X (zal X X)<|Y X X (zN X) ?_
 refine zG (d := 5) rfl (fun g1 => ?_) (fun g1 => ?_)
 ·
  replace g1 := of_decide_eq_true g1
  refine E X X (d := 5) X X X<|E X X (d := 5) X X X<|Y X X (zK (v := (.bool _)) X X)<|Y X X (zJ X)<|U<|M<|zA<|zi Tryz.results82 ?_
  refine ⟨h, _, rfl, st0.done, ?_⟩
  refine zw ?_
  first | (simp_all; done) | (simp_all; omega)
 ·
  replace g1 := of_decide_eq_false g1
  refine za X X (d := 5) X<|Y X X (zo X)<|za X X (d := 5) X<|Y X X (r_gtr X X)<|Y X X (zC (v := (.bool _)) X X)<|Y X X (zJ X)<|U<|M<|zA<|zi Tryz.results82 ?_
  refine ⟨h, _, rfl, st0.done, ?_⟩
  refine zw ?_
  first | (simp_all; done) | (simp_all; omega)
set_option maxRecDepth 4000 in
theorem c_stem_letters {h : Heap} {w : World} (hs : Sub h w) (s : Str) (s_le : s.length ≤ 281474976710656) (lo : Int) : Calls Tryz.prog 41 #[strV s, .int .i64 lo] w (Rets h w (fun _ _ res_ => res_ = .bool (lettersB s lo))) := by
 refine zM (n := 15) (args := [strV s, .int .i64 lo]) Tryz.func41 X X X ?_
 have st0 : St h w h w [] := St.start hs
 refine zd<|O<|Y X X (zJ X)<|U<|M<|zd<|O<|Y X X (zo X)<|Y X X (r_mvS X)<|Y X X (zar X Tryz.underlying9)<|zV (L := LInt) (xs := [(s.length : Int)]) (cs := [.int .i64 (s.length : Int)]) st0 (Enc.cons (L := LInt) (vs := [.int .i64 (s.length : Int)]) (x := (s.length : Int)) (h := h) (X) Enc.nil) X X X Tryz.underlying39 Tryz.info3 X X X t_kr ?_
 intro v1 w2 h5 le6 f3 st4
 refine zm st4 X X X Tryz.call50 X (c_stem_in st4.sub _ _ f3) ?_
 intro r7 w8 h9 le10 st11 q12
 obtain rfl := q12
 refine Y X X (zN X) ?_
 refine zG (d := 10) rfl (fun g13 => ?_) (fun g13 => ?_)
 ·
  refine za X X (d := 10) X<|Y X X (r_mvS X)<|za X X (d := 10) X ?_
  refine zm st11 rfl rfl rfl Tryz.call81 rfl (c_strings_ContainsFunc (s := s) zZ (fun x_ : Int => (decide ((x_) < 97) || decide (122 < (x_)))) (by intro x_ hx_; simp; omega) (fun x_ h_ w_ hs_ => c_stem_letters_1 hs_ x_) Tryz.call82 st11.sub) ?_
  intro r14 w15 h16 le17 st18 q19
  obtain rfl := q19
  refine za X X (d := 10) X<|Y X X (r_not X)<|Y X X (zK (v := (.bool _)) X X)<|Y X X (zJ X)<|U<|M<|zA<|zi Tryz.results41 ?_
  refine ⟨h16, _, rfl, st18.done, ?_⟩
  refine zw ?_
  rw [letters_eq]
  simp_all [inAll]
 ·
  refine E X X (d := 10) X X X<|E X X (d := 10) X X X<|E X X (d := 10) X X X<|Y X X (zC (v := (.bool _)) X X)<|Y X X (zJ X)<|U<|M<|zA<|zi Tryz.results41 ?_
  refine ⟨h9, _, rfl, st11.done, ?_⟩
  refine zw ?_
  rw [letters_eq]
  simp_all [inAll]
set_option maxRecDepth 4000 in
theorem c_stem_right {h : Heap} {w : World} (hs : Sub h w) {hd : Head} (hd_l1 : hd.stem.length ≤ 281474976710656) (hd_l2 : 0 ≤ hd.mark ∧ hd.mark ≤ 255) : Calls Tryz.prog 100 #[.agg #[strV hd.stem, .int .u8 hd.mark]] w (Rets h w (fun _ _ res_ => res_ = .bool (headB hd))) := by
 refine zM (n := 11) (args := [.agg #[strV hd.stem, .int .u8 hd.mark]]) Tryz.func100 X X X ?_
 have st0 : St h w h w [] := St.start hs
 refine zd<|O<|zr st0 (cs := [strV (hd.stem), .int .u8 (hd.mark)]) X X X ?_
 intro b1 w2 h3 le4 hc5 st6
 refine Y X X (zJ X)<|U<|M<|zd<|O<|Y X X (zc X Tryz.underlying54 X Tryz.sizeOf9 X)<|Y X X (zb (j := 0) st6.sub hc5 X X X Tryz.isAgg9)<|zm st6 X X X Tryz.call41 X (c_stem_letters st6.sub _ zZ _) ?_
 intro r7 w8 h9 le10 st11 q12
 obtain rfl := q12
 refine Y X X (zN X) ?_
 refine zG (d := 6) rfl (fun g13 => ?_) (fun g13 => ?_)
 ·
  refine za X X (d := 6) X<|Y X X (zc X Tryz.underlying54 X Tryz.sizeOf5 X)<|za X X (d := 6) X<|Y X X (zb (j := 1) st11.sub (hc5.up le10) X X X Tryz.isAgg5)<|za X X (d := 6) X<|Y X X (r_leq X X)<|Y X X (zK (v := (.bool _)) X X)<|Y X X (zJ X)<|U<|M<|zA<|zi Tryz.results100 ?_
  refine ⟨h9, _, rfl, st11.done, ?_⟩
  refine zw ?_
  rw [head_eq _ (by omega)]
  simp_all
 ·
  refine E X X (d := 6) X X X<|E X X (d := 6) X X X<|E X X (d := 6) X X X<|Y X X (zC (v := (.bool _)) X X)<|Y X X (zJ X)<|U<|M<|zA<|zi Tryz.results100 ?_
  refine ⟨h9, _, rfl, st11.done, ?_⟩
  refine zw ?_
  rw [head_eq _ (by omega)]
  simp_all
end Go.Pk

namespace Go.Pk
open Go Go.RowKit Go.Proofs
def _root_.Go.Proofs.Tryz.glob0 : List Value := [.bool false, .bool false, .bool false, .bool false, .nilFunc, .bool true, .bool false, .bool true, .bool false, .func (.func 218) #[] #[], .bool true, .bool true, .bool true, .bool false, .func (.func 219) #[] #[], .bool false, .bool true, .bool true, .bool false, .func (.func 220) #[] #[], .bool false, .bool false, .bool false, .bool true, .func (.func 221) #[] #[]]
set_option maxRecDepth 4000 in
set_option maxHeartbeats 4000000 in
theorem c_stem_decided {h : Heap} {w : World} (hs : Sub h w) {t : Text} {t_v0 : Value} (t_f0 : Sl LChapter h t_v0 t.chapters) {d : Decision} (d_l2 : 0 ≤ d.kind ∧ d.kind ≤ 255) (d_l3 : d.form.length ≤ 281474976710656) (d_l7 : d.to.stem.length ≤ 281474976710656) (d_l8 : 0 ≤ d.to.mark ∧ d.to.mark ≤ 255) (K0 : Cells h 0 0 Tryz.glob0) (ht : textB t = true) : Calls Tryz.prog 53 #[.agg #[t_v0], .agg #[.int .i64 d.number, .int .u8 d.kind, strV d.form, .int .i64 d.at_.chapter, .int .i64 d.at_.line, .int .i64 d.at_.word, strV d.to.stem, .int .u8 d.to.mark, .int .i64 d.of_]] w (Rets h w (fun _ _ res_ => res_ = .bool (decisionB t d))) := by
 refine zM (n := 104) (args := [.agg #[t_v0], .agg #[.int .i64 d.number, .int .u8 d.kind, strV d.form, .int .i64 d.at_.chapter, .int .i64 d.at_.line, .int .i64 d.at_.word, strV d.to.stem, .int .u8 d.to.mark, .int .i64 d.of_]]) Tryz.func53 X X X ?_
 have st0 : St h w h w [] := St.start hs
 have t_f0_b := t_f0.le
 refine zd<|O<|zr st0 (cs := [t_v0]) X X X ?_
 intro b1 w2 h3 le4 hc5 st6
 refine zr st6 (cs := [.int .i64 (d.number), .int .u8 (d.kind), strV (d.form), .int .i64 (d.at_.chapter), .int .i64 (d.at_.line), .int .i64 (d.at_.word), strV (d.to.stem), .int .u8 (d.to.mark), .int .i64 (d.of_)]) X X X ?_
 intro b7 w8 h9 le10 hc11 st12
 refine Y X X (zJ X)<|U<|M<|zd<|zd<|O<|Y X X (zc X Tryz.underlying56 X Tryz.sizeOf5 X)<|Y X X (zb (j := 1) st12.sub hc11 X X X Tryz.isAgg5) ?_
 refine Y rfl rfl (r_conv_int rfl rfl Tryz.underlying3 (IntWalk.i64_in _ (by omega))) ?_
 refine zV (L := LInt) (xs := [(d.kind)]) (cs := [.int .i64 (d.kind)]) st12 (Enc.cons (L := LInt) (vs := [.int .i64 (d.kind)]) (x := (d.kind)) (h := h9) (X) Enc.nil) X X X Tryz.underlying39 Tryz.info3 X X X t_kr ?_
 intro v13 w14 h17 le18 f15 st16
 refine zm st16 X X X Tryz.call50 X (c_stem_in st16.sub _ _ f15) ?_
 intro r19 w20 h21 le22 st23 q24
 obtain rfl := q24
 refine Y X X (r_not X)<|Y X X (zN X) ?_
 refine zG (d := 15) rfl (fun g25 => ?_) (fun g25 => ?_)
 ·
  refine E X X (d := 15) X X X<|E X X (d := 15) X X X<|E X X (d := 15) X X X<|E X X (d := 15) X X X<|E X X (d := 15) X X X<|Y X X (zK (v := (.bool _)) X X)<|U<|M ?_
  refine zt rfl (fun c26 => ?_) (fun c26 => ?_)
  ·
   refine zd<|O<|Y X X (zJ X)<|U<|M<|zA<|zk<|zi Tryz.results53 ?_
   refine ⟨h21, _, rfl, st23.done, ?_⟩
   refine zw ?_
   have q := g25
   simp only [inAll_one, inB, Bool.not_eq_true', Bool.and_eq_false_iff, decide_eq_false_iff_not] at q
   have q1 : d.kind ≠ 1 := by omega
   have q2 : d.kind ≠ 2 := by omega
   have q3 : d.kind ≠ 3 := by omega
   have q4 : d.kind ≠ 4 := by omega
   simp [decisionB, q1, q2, q3, q4]
  ·
   cases c26
 ·
  refine za X X (d := 15) X<|Y X X (zc X Tryz.underlying56 X Tryz.sizeOf3 X)<|za X X (d := 15) X<|Y X X (zb (j := 0) st23.sub (hc11.up (le18.trans le22)) X X X Tryz.isAgg3)<|za X X (d := 15) X<|zV (L := LInt) (xs := [(d.number)]) (cs := [.int .i64 (d.number)]) st23 (Enc.cons (L := LInt) (vs := [.int .i64 (d.number)]) (x := (d.number)) (h := h21) (X) Enc.nil) X X X Tryz.underlying39 Tryz.info3 X X X t_kr ?_
  intro v27 w28 h31 le32 f29 st30
  refine za X X (d := 15) X<|zm st30 X X X Tryz.call50 X (c_stem_in st30.sub _ _ f29) ?_
  intro r33 w34 h35 le36 st37 q38
  obtain rfl := q38
  refine za X X (d := 15) X<|Y X X (r_not X)<|Y X X (zC (v := (.bool _)) X X)<|U<|M ?_
  refine zt rfl (fun c39 => ?_) (fun c39 => ?_)
  ·
   refine zd<|O<|Y X X (zJ X)<|U<|M<|zA<|zk<|zi Tryz.results53 ?_
   refine ⟨h35, _, rfl, st37.done, ?_⟩
   refine zw ?_
   have q := c39
   simp only [inAll_one] at q
   simp_all [decisionB]
  ·
   refine zz<|M<|zd ?_
   rcases (show d.kind = 1 ∨ d.kind = 2 ∨ d.kind = 3 ∨ d.kind = 4 by have q := g25; simp [inAll, inB] at q; omega) with hk40 | hk40 | hk40 | hk40
   ·
    refine O<|Y X X (zc X Tryz.underlying56 X Tryz.sizeOf5 X)<|Y X X (zb (j := 1) st37.sub (hc11.up (((le18.trans le22).trans le32).trans le36)) X X X Tryz.isAgg5) ?_
    refine Y rfl rfl (r_index_arr rfl rfl (show _ = ((1 : Nat) : Int) by rw [hk40]; rfl) rfl Tryz.underlying165 Tryz.sizeOf164) ?_
    refine Y X X (zR (j := 5) st37.sub (K0.up (((((le4.trans le10).trans le18).trans le22).trans le32).trans le36)) (us := [.bool true, .bool false, .bool true, .bool false, .func (.func 218) #[] #[]]) X X Tryz.isAgg164 Tryz.sizeOf164 X X)<|zO st37 Tryz.zeroValue164 X X ?_
    intro b41 w42 st43
    refine zB st43 (k := 0) X X X (zg X (zg X (zg X (zg X (zg X zU))))) Tryz.sizeOf164 X X X ?_
    intro w44 st45
    obtain ⟨h46, le47, hb48, st50⟩ := st45.freeze (k := 0) rfl
    have hc49 := Cells.of hb48
    refine U<|M<|zd<|O<|Y X X (zc X Tryz.underlying56 X Tryz.sizeOf3 X)<|Y X X (zb (j := 0) st50.sub (hc11.up ((((le18.trans le22).trans le32).trans le36).trans le47)) X X X Tryz.isAgg3)<|Y X X (zc X Tryz.underlying56 X Tryz.sizeOf5 X)<|Y X X (zb (j := 1) st50.sub (hc11.up ((((le18.trans le22).trans le32).trans le36).trans le47)) X X X Tryz.isAgg5)<|Y X X (r_build (cs := [.int .i64 (d.number), .int .u8 (d.kind), strV [], .int .i64 0, .int .i64 0, .int .i64 0, strV [], .int .u8 0, .int .i64 0]) t_kr)<|zO st50 Tryz.zeroValue56 X X ?_
    intro b51 w52 st53
    refine zB st53 (k := 1) X X X (zg X (zg X (zg X (zg X (zg X (zg X (zg X (zg X (zg X zU))))))))) Tryz.sizeOf56 X X X ?_
    intro w54 st55
    refine U<|M<|zd<|zd<|O<|Y X X (zc X Tryz.underlying164 X Tryz.sizeOf4 X)<|Y X X (zb (j := 0) st55.sub hc49 X X X Tryz.isAgg4)<|U<|M ?_
    refine zt rfl (fun c56 => ?_) (fun c56 => ?_)
    ·
     refine O<|Y X X (zc X Tryz.underlying56 X Tryz.sizeOf9 X)<|Y X X (zb (j := 2) st55.sub (hc11.up ((((le18.trans le22).trans le32).trans le36).trans le47)) X X X Tryz.isAgg9)<|Y X X (zc X Tryz.underlying56 X Tryz.sizeOf9 X)<|zas st55 (k := 1) X X X X Tryz.sizeOf9 X X X ?_
     intro w57 st58
     refine U<|M<|zd<|zd<|O<|Y X X (zc X Tryz.underlying164 X Tryz.sizeOf4 X)<|Y X X (zb (j := 1) st58.sub hc49 X X X Tryz.isAgg4)<|U<|M ?_
     refine zt rfl (fun c59 => ?_) (fun c59 => ?_)
     ·
      cases c59
     ·
      refine zz<|M<|zd<|zd<|O<|Y X X (zc X Tryz.underlying164 X Tryz.sizeOf4 X)<|Y X X (zb (j := 2) st58.sub hc49 X X X Tryz.isAgg4)<|U<|M ?_
      refine zt rfl (fun c60 => ?_) (fun c60 => ?_)
      ·
       refine O<|Y X X (zc X Tryz.underlying56 X Tryz.sizeOf54 X)<|Y X X (zR (j := 6) st58.sub (hc11.up ((((le18.trans le22).trans le32).trans le36).trans le47)) (us := [strV (d.to.stem), .int .u8 (d.to.mark)]) X X Tryz.isAgg54 Tryz.sizeOf54 X X)<|Y X X (zc X Tryz.underlying56 X Tryz.sizeOf54 X)<|zB st58 (k := 1) X X X (zg X (zg X zU)) Tryz.sizeOf54 X X X ?_
       intro w61 st62
       refine U<|M<|zd<|zd<|O<|Y X X (zc X Tryz.underlying164 X Tryz.sizeOf4 X)<|Y X X (zb (j := 3) st62.sub hc49 X X X Tryz.isAgg4)<|U<|M ?_
       refine zt rfl (fun c63 => ?_) (fun c63 => ?_)
       ·
        cases c63
       ·
        refine zz<|M<|zd<|O<|Y X X (zf st62.sub (hc5.up (((((le10.trans le18).trans le22).trans le32).trans le36).trans le47)) X Tryz.isAgg24 Tryz.sizeOf24 X)<|Y X X (zc X Tryz.underlying56 X Tryz.sizeOf52 X)<|Y X X (zR (j := 3) st62.sub (hc11.up ((((le18.trans le22).trans le32).trans le36).trans le47)) (us := [.int .i64 (d.at_.chapter), .int .i64 (d.at_.line), .int .i64 (d.at_.word)]) X X Tryz.isAgg52 Tryz.sizeOf52 X X)<|zm st62 X X X Tryz.call99 X (c_leaf_At st62.sub (t := t) (t_f0.up ((((((le4.trans le10).trans le18).trans le22).trans le32).trans le36).trans le47)) (p := d.at_)) ?_
        intro r64 w65 h66 le67 st68 q69
        obtain rfl := q69
        refine Y X X (r_mvT X)<|Y X X (zH (v := (strV _)) X X)<|Y X X (zH (v := (.int _ _)) X X)<|Y X X (r_asS X)<|Y X X (zx X)<|U<|M<|zd ?_
        have qn : 1 ≤ d.number ∧ d.number ≤ 999 := by
         have q := c39
         simp [inAll, inB] at q
         omega
        refine O<|Y X X (zf st68.sub (hc11.up (((((le18.trans le22).trans le32).trans le36).trans le47).trans le67)) X Tryz.isAgg56 Tryz.sizeOf56 X)<|Y X X (r_load_ball (st68.get (k := 1) X) X Tryz.isAgg56 Tryz.sizeOf56 X)<|Y X X (r_steql X X Tryz.eqGuardType56 (Tryz.eq_Decision d (Decision.mk (d.number) (d.kind) (d.form) (Place.mk 0 0 0) (Head.mk (d.to.stem) (d.to.mark)) 0)))<|Y X X (zN X) ?_
        refine zG (d := 61) rfl (fun g70 => ?_) (fun g70 => ?_)
        ·
         replace g70 := of_decide_eq_true g70
         refine za X X (d := 61) X<|Y X X (zc X Tryz.underlying164 X Tryz.sizeOf4 X)<|za X X (d := 61) X<|Y X X (zb (j := 0) st68.sub (hc49.up le67) X X X Tryz.isAgg4)<|za X X (d := 61) X<|Y X X (r_not X)<|za X X (d := 61) X<|Y X X (zN X)<|za X X (d := 65) X<|Y X X (zc X Tryz.underlying56 X Tryz.sizeOf9 X)<|za X X (d := 65) X<|Y X X (zb (j := 2) st68.sub (hc11.up (((((le18.trans le22).trans le32).trans le36).trans le47).trans le67)) X X X Tryz.isAgg9)<|za X X (d := 65) X<|zm st68 X X X Tryz.call41 X (c_stem_letters st68.sub _ zZ _) ?_
         intro r71 w72 h73 le74 st75 q76
         obtain rfl := q76
         refine za X X (d := 61) X<|Y X X (zC (v := (.bool _)) X X)<|Y X X (zK (v := (.bool _)) X X)<|Y X X (zN X) ?_
         refine zG (d := 71) rfl (fun g77 => ?_) (fun g77 => ?_)
         ·
          refine za X X (d := 71) X<|Y X X (zc X Tryz.underlying164 X Tryz.sizeOf4 X)<|za X X (d := 71) X<|Y X X (zb (j := 1) st75.sub (hc49.up (le67.trans le74)) X X X Tryz.isAgg4)<|za X X (d := 71) X<|Y X X (r_not X)<|za X X (d := 71) X<|Y X X (zN X)<|E X X (d := 75) X X X<|E X X (d := 75) X X X<|za X X (d := 71) X<|Y X X (zK (v := (.bool _)) X X)<|Y X X (zK (v := (.bool _)) X X)<|Y X X (zN X)<|za X X (d := 80) X<|Y X X (zc X Tryz.underlying164 X Tryz.sizeOf4 X)<|za X X (d := 80) X<|Y X X (zb (j := 2) st75.sub (hc49.up (le67.trans le74)) X X X Tryz.isAgg4)<|za X X (d := 80) X<|Y X X (r_not X)<|za X X (d := 80) X<|Y X X (zN X)<|za X X (d := 84) X<|Y X X (zc X Tryz.underlying56 X Tryz.sizeOf54 X)<|za X X (d := 84) X<|Y X X (zR (j := 6) st75.sub (hc11.up ((((((le18.trans le22).trans le32).trans le36).trans le47).trans le67).trans le74)) (us := [strV (d.to.stem), .int .u8 (d.to.mark)]) X X Tryz.isAgg54 Tryz.sizeOf54 X X)<|za X X (d := 84) X<|zm st75 X X X Tryz.call100 X (c_stem_right st75.sub (hd := d.to) zZ t_u8) ?_
          intro r78 w79 h80 le81 st82 q83
          obtain rfl := q83
          refine za X X (d := 80) X<|Y X X (zC (v := (.bool _)) X X)<|Y X X (zK (v := (.bool _)) X X)<|Y X X (zN X) ?_
          refine zG (d := 90) rfl (fun g84 => ?_) (fun g84 => ?_)
          ·
           refine za X X (d := 90) X<|Y X X (zc X Tryz.underlying164 X Tryz.sizeOf4 X)<|za X X (d := 90) X<|Y X X (zb (j := 3) st82.sub (hc49.up ((le67.trans le74).trans le81)) X X X Tryz.isAgg4)<|za X X (d := 90) X<|Y X X (r_not X)<|za X X (d := 90) X<|Y X X (zN X)<|E X X (d := 94) X X X<|E X X (d := 94) X X X<|E X X (d := 94) X X X<|E X X (d := 94) X X X<|E X X (d := 94) X X X<|E X X (d := 94) X X X<|E X X (d := 94) X X X<|za X X (d := 90) X<|Y X X (zK (v := (.bool _)) X X)<|Y X X (zK (v := (.bool _)) X X)<|Y X X (zJ X)<|U<|M<|zA<|zi Tryz.results53 ?_
           refine ⟨h80, _, rfl, st82.done, ?_⟩
           refine zw ?_
           exact dec1_t ht hk40 c39 g70 g77 g84
          ·
           refine E X X (d := 90) X X X<|E X X (d := 90) X X X<|E X X (d := 90) X X X<|E X X (d := 90) X X X<|zl X X (d := 94) X X<|zl X X (d := 94) X X<|zl X X (d := 94) X X<|zl X X (d := 94) X X<|zl X X (d := 94) X X<|zl X X (d := 94) X X<|zl X X (d := 94) X X<|E X X (d := 90) X X X<|Y X X (zC (v := (.bool _)) X X)<|Y X X (zJ X)<|U<|M<|zA<|zi Tryz.results53 ?_
           refine ⟨h80, _, rfl, st82.done, ?_⟩
           refine zw ?_
           exact dec1_f1 ht hk40 c39 g70 g77 g84
         ·
          refine E X X (d := 71) X X X<|E X X (d := 71) X X X<|E X X (d := 71) X X X<|E X X (d := 71) X X X<|zl X X (d := 75) X X<|zl X X (d := 75) X X<|E X X (d := 71) X X X<|Y X X (zC (v := (.bool _)) X X)<|Y X X (zN X)<|E X X (d := 80) X X X<|E X X (d := 80) X X X<|E X X (d := 80) X X X<|E X X (d := 80) X X X<|zl X X (d := 84) X X<|zl X X (d := 84) X X<|zl X X (d := 84) X X<|E X X (d := 80) X X X<|Y X X (zC (v := (.bool _)) X X)<|Y X X (zN X)<|E X X (d := 90) X X X<|E X X (d := 90) X X X<|E X X (d := 90) X X X<|E X X (d := 90) X X X<|zl X X (d := 94) X X<|zl X X (d := 94) X X<|zl X X (d := 94) X X<|zl X X (d := 94) X X<|zl X X (d := 94) X X<|zl X X (d := 94) X X<|zl X X (d := 94) X X ?_
          refine E X X (d := 90) X X X<|Y X X (zC (v := (.bool _)) X X)<|Y X X (zJ X)<|U<|M<|zA<|zi Tryz.results53 ?_
          refine ⟨h73, _, rfl, st75.done, ?_⟩
          refine zw ?_
          exact dec1_f0 ht hk40 c39 g70 g77
        ·
         replace g70 := of_decide_eq_false g70
         refine E X X (d := 61) X X X<|E X X (d := 61) X X X<|E X X (d := 61) X X X<|E X X (d := 61) X X X<|zl X X (d := 65) X X<|zl X X (d := 65) X X<|zl X X (d := 65) X X<|E X X (d := 61) X X X<|Y X X (zC (v := (.bool _)) X X)<|Y X X (zN X)<|E X X (d := 71) X X X<|E X X (d := 71) X X X<|E X X (d := 71) X X X<|E X X (d := 71) X X X<|zl X X (d := 75) X X<|zl X X (d := 75) X X<|E X X (d := 71) X X X<|Y X X (zC (v := (.bool _)) X X)<|Y X X (zN X)<|E X X (d := 80) X X X<|E X X (d := 80) X X X<|E X X (d := 80) X X X<|E X X (d := 80) X X X<|zl X X (d := 84) X X<|zl X X (d := 84) X X<|zl X X (d := 84) X X<|E X X (d := 80) X X X<|Y X X (zC (v := (.bool _)) X X)<|Y X X (zN X)<|E X X (d := 90) X X X ?_
         refine E X X (d := 90) X X X<|E X X (d := 90) X X X<|E X X (d := 90) X X X<|zl X X (d := 94) X X<|zl X X (d := 94) X X<|zl X X (d := 94) X X<|zl X X (d := 94) X X<|zl X X (d := 94) X X<|zl X X (d := 94) X X<|zl X X (d := 94) X X<|E X X (d := 90) X X X<|Y X X (zC (v := (.bool _)) X X)<|Y X X (zJ X)<|U<|M<|zA<|zi Tryz.results53 ?_
         refine ⟨h66, _, rfl, st68.done, ?_⟩
         refine zw ?_
         exact dec1_n ht hk40 c39 g70
      ·
       cases c60
    ·
     cases c56
   ·
    refine O<|Y X X (zc X Tryz.underlying56 X Tryz.sizeOf5 X)<|Y X X (zb (j := 1) st37.sub (hc11.up (((le18.trans le22).trans le32).trans le36)) X X X Tryz.isAgg5) ?_
    refine Y rfl rfl (r_index_arr rfl rfl (show _ = ((2 : Nat) : Int) by rw [hk40]; rfl) rfl Tryz.underlying165 Tryz.sizeOf164) ?_
    refine Y X X (zR (j := 10) st37.sub (K0.up (((((le4.trans le10).trans le18).trans le22).trans le32).trans le36)) (us := [.bool true, .bool true, .bool true, .bool false, .func (.func 219) #[] #[]]) X X Tryz.isAgg164 Tryz.sizeOf164 X X)<|zO st37 Tryz.zeroValue164 X X ?_
    intro b85 w86 st87
    refine zB st87 (k := 0) X X X (zg X (zg X (zg X (zg X (zg X zU))))) Tryz.sizeOf164 X X X ?_
    intro w88 st89
    obtain ⟨h90, le91, hb92, st94⟩ := st89.freeze (k := 0) rfl
    have hc93 := Cells.of hb92
    refine U<|M<|zd<|O<|Y X X (zc X Tryz.underlying56 X Tryz.sizeOf3 X)<|Y X X (zb (j := 0) st94.sub (hc11.up ((((le18.trans le22).trans le32).trans le36).trans le91)) X X X Tryz.isAgg3)<|Y X X (zc X Tryz.underlying56 X Tryz.sizeOf5 X)<|Y X X (zb (j := 1) st94.sub (hc11.up ((((le18.trans le22).trans le32).trans le36).trans le91)) X X X Tryz.isAgg5)<|Y X X (r_build (cs := [.int .i64 (d.number), .int .u8 (d.kind), strV [], .int .i64 0, .int .i64 0, .int .i64 0, strV [], .int .u8 0, .int .i64 0]) t_kr)<|zO st94 Tryz.zeroValue56 X X ?_
    intro b95 w96 st97
    refine zB st97 (k := 1) X X X (zg X (zg X (zg X (zg X (zg X (zg X (zg X (zg X (zg X zU))))))))) Tryz.sizeOf56 X X X ?_
    intro w98 st99
    refine U<|M<|zd<|zd<|O<|Y X X (zc X Tryz.underlying164 X Tryz.sizeOf4 X)<|Y X X (zb (j := 0) st99.sub hc93 X X X Tryz.isAgg4)<|U<|M ?_
    refine zt rfl (fun c100 => ?_) (fun c100 => ?_)
    ·
     refine O<|Y X X (zc X Tryz.underlying56 X Tryz.sizeOf9 X)<|Y X X (zb (j := 2) st99.sub (hc11.up ((((le18.trans le22).trans le32).trans le36).trans le91)) X X X Tryz.isAgg9)<|Y X X (zc X Tryz.underlying56 X Tryz.sizeOf9 X)<|zas st99 (k := 1) X X X X Tryz.sizeOf9 X X X ?_
     intro w101 st102
     refine U<|M<|zd<|zd<|O<|Y X X (zc X Tryz.underlying164 X Tryz.sizeOf4 X)<|Y X X (zb (j := 1) st102.sub hc93 X X X Tryz.isAgg4)<|U<|M ?_
     refine zt rfl (fun c103 => ?_) (fun c103 => ?_)
     ·
      refine O<|Y X X (zc X Tryz.underlying56 X Tryz.sizeOf52 X)<|Y X X (zR (j := 3) st102.sub (hc11.up ((((le18.trans le22).trans le32).trans le36).trans le91)) (us := [.int .i64 (d.at_.chapter), .int .i64 (d.at_.line), .int .i64 (d.at_.word)]) X X Tryz.isAgg52 Tryz.sizeOf52 X X)<|Y X X (zc X Tryz.underlying56 X Tryz.sizeOf52 X)<|zB st102 (k := 1) X X X (zg X (zg X (zg X zU))) Tryz.sizeOf52 X X X ?_
      intro w104 st105
      refine U<|M<|zd<|zd<|O<|Y X X (zc X Tryz.underlying164 X Tryz.sizeOf4 X)<|Y X X (zb (j := 2) st105.sub hc93 X X X Tryz.isAgg4)<|U<|M ?_
      refine zt rfl (fun c106 => ?_) (fun c106 => ?_)
      ·
       refine O<|Y X X (zc X Tryz.underlying56 X Tryz.sizeOf54 X)<|Y X X (zR (j := 6) st105.sub (hc11.up ((((le18.trans le22).trans le32).trans le36).trans le91)) (us := [strV (d.to.stem), .int .u8 (d.to.mark)]) X X Tryz.isAgg54 Tryz.sizeOf54 X X)<|Y X X (zc X Tryz.underlying56 X Tryz.sizeOf54 X)<|zB st105 (k := 1) X X X (zg X (zg X zU)) Tryz.sizeOf54 X X X ?_
       intro w107 st108
       refine U<|M<|zd<|zd<|O<|Y X X (zc X Tryz.underlying164 X Tryz.sizeOf4 X)<|Y X X (zb (j := 3) st108.sub hc93 X X X Tryz.isAgg4)<|U<|M ?_
       refine zt rfl (fun c109 => ?_) (fun c109 => ?_)
       ·
        cases c109
       ·
        refine zz<|M<|zd<|O<|Y X X (zf st108.sub (hc5.up (((((le10.trans le18).trans le22).trans le32).trans le36).trans le91)) X Tryz.isAgg24 Tryz.sizeOf24 X)<|Y X X (zc X Tryz.underlying56 X Tryz.sizeOf52 X)<|Y X X (zR (j := 3) st108.sub (hc11.up ((((le18.trans le22).trans le32).trans le36).trans le91)) (us := [.int .i64 (d.at_.chapter), .int .i64 (d.at_.line), .int .i64 (d.at_.word)]) X X Tryz.isAgg52 Tryz.sizeOf52 X X)<|zm st108 X X X Tryz.call99 X (c_leaf_At st108.sub (t := t) (t_f0.up ((((((le4.trans le10).trans le18).trans le22).trans le32).trans le36).trans le91)) (p := d.at_)) ?_
        intro r110 w111 h112 le113 st114 q115
        obtain rfl := q115
        refine Y X X (r_mvT X)<|Y X X (zH (v := (strV _)) X X)<|Y X X (zH (v := (.int _ _)) X X)<|Y X X (r_asS X)<|Y X X (zx X)<|U<|M<|zd ?_
        have qn : 1 ≤ d.number ∧ d.number ≤ 999 := by
         have q := c39
         simp [inAll, inB] at q
         omega
        refine O<|Y X X (zf st114.sub (hc11.up (((((le18.trans le22).trans le32).trans le36).trans le91).trans le113)) X Tryz.isAgg56 Tryz.sizeOf56 X)<|Y X X (r_load_ball (st114.get (k := 1) X) X Tryz.isAgg56 Tryz.sizeOf56 X)<|Y X X (r_steql X X Tryz.eqGuardType56 (Tryz.eq_Decision d (Decision.mk (d.number) (d.kind) (d.form) (Place.mk (d.at_.chapter) (d.at_.line) (d.at_.word)) (Head.mk (d.to.stem) (d.to.mark)) 0)))<|Y X X (zN X) ?_
        refine zG (d := 61) rfl (fun g116 => ?_) (fun g116 => ?_)
        ·
         replace g116 := of_decide_eq_true g116
         refine za X X (d := 61) X<|Y X X (zc X Tryz.underlying164 X Tryz.sizeOf4 X)<|za X X (d := 61) X<|Y X X (zb (j := 0) st114.sub (hc93.up le113) X X X Tryz.isAgg4)<|za X X (d := 61) X<|Y X X (r_not X)<|za X X (d := 61) X<|Y X X (zN X)<|za X X (d := 65) X<|Y X X (zc X Tryz.underlying56 X Tryz.sizeOf9 X)<|za X X (d := 65) X<|Y X X (zb (j := 2) st114.sub (hc11.up (((((le18.trans le22).trans le32).trans le36).trans le91).trans le113)) X X X Tryz.isAgg9)<|za X X (d := 65) X<|zm st114 X X X Tryz.call41 X (c_stem_letters st114.sub _ zZ _) ?_
         intro r117 w118 h119 le120 st121 q122
         obtain rfl := q122
         refine za X X (d := 61) X<|Y X X (zC (v := (.bool _)) X X)<|Y X X (zK (v := (.bool _)) X X)<|Y X X (zN X) ?_
         refine zG (d := 71) rfl (fun g123 => ?_) (fun g123 => ?_)
         ·
          refine za X X (d := 71) X<|Y X X (zc X Tryz.underlying164 X Tryz.sizeOf4 X)<|za X X (d := 71) X<|Y X X (zb (j := 1) st121.sub (hc93.up (le113.trans le120)) X X X Tryz.isAgg4)<|za X X (d := 71) X<|Y X X (r_not X)<|za X X (d := 71) X<|Y X X (zN X)<|za X X (d := 75) X<|Y X X (zo X)<|za X X (d := 75) X<|Y X X (r_eql X X)<|za X X (d := 71) X<|Y X X (zC (v := (.bool _)) X X)<|Y X X (zK (v := (.bool _)) X X)<|Y X X (zN X) ?_
          refine zG (d := 80) rfl (fun g124 => ?_) (fun g124 => ?_)
          ·
           replace g124 := of_decide_eq_true g124
           refine za X X (d := 80) X<|Y X X (zc X Tryz.underlying164 X Tryz.sizeOf4 X)<|za X X (d := 80) X<|Y X X (zb (j := 2) st121.sub (hc93.up (le113.trans le120)) X X X Tryz.isAgg4)<|za X X (d := 80) X<|Y X X (r_not X)<|za X X (d := 80) X<|Y X X (zN X)<|za X X (d := 84) X<|Y X X (zc X Tryz.underlying56 X Tryz.sizeOf54 X)<|za X X (d := 84) X<|Y X X (zR (j := 6) st121.sub (hc11.up ((((((le18.trans le22).trans le32).trans le36).trans le91).trans le113).trans le120)) (us := [strV (d.to.stem), .int .u8 (d.to.mark)]) X X Tryz.isAgg54 Tryz.sizeOf54 X X)<|za X X (d := 84) X<|zm st121 X X X Tryz.call100 X (c_stem_right st121.sub (hd := d.to) zZ t_u8) ?_
           intro r125 w126 h127 le128 st129 q130
           obtain rfl := q130
           refine za X X (d := 80) X<|Y X X (zC (v := (.bool _)) X X)<|Y X X (zK (v := (.bool _)) X X)<|Y X X (zN X) ?_
           refine zG (d := 90) rfl (fun g131 => ?_) (fun g131 => ?_)
           ·
            refine za X X (d := 90) X<|Y X X (zc X Tryz.underlying164 X Tryz.sizeOf4 X)<|za X X (d := 90) X<|Y X X (zb (j := 3) st129.sub (hc93.up ((le113.trans le120).trans le128)) X X X Tryz.isAgg4)<|za X X (d := 90) X<|Y X X (r_not X)<|za X X (d := 90) X<|Y X X (zN X)<|E X X (d := 94) X X X<|E X X (d := 94) X X X<|E X X (d := 94) X X X<|E X X (d := 94) X X X<|E X X (d := 94) X X X<|E X X (d := 94) X X X<|E X X (d := 94) X X X<|za X X (d := 90) X<|Y X X (zK (v := (.bool _)) X X)<|Y X X (zK (v := (.bool _)) X X)<|Y X X (zJ X)<|U<|M<|zA<|zi Tryz.results53 ?_
            refine ⟨h127, _, rfl, st129.done, ?_⟩
            refine zw ?_
            exact dec2_t ht hk40 c39 g116 g123 g124 g131
           ·
            refine E X X (d := 90) X X X<|E X X (d := 90) X X X<|E X X (d := 90) X X X<|E X X (d := 90) X X X<|zl X X (d := 94) X X<|zl X X (d := 94) X X<|zl X X (d := 94) X X<|zl X X (d := 94) X X<|zl X X (d := 94) X X<|zl X X (d := 94) X X<|zl X X (d := 94) X X<|E X X (d := 90) X X X<|Y X X (zC (v := (.bool _)) X X)<|Y X X (zJ X)<|U<|M<|zA<|zi Tryz.results53 ?_
            refine ⟨h127, _, rfl, st129.done, ?_⟩
            refine zw ?_
            exact dec2_f2 ht hk40 c39 g116 g123 g124 g131
          ·
           replace g124 := of_decide_eq_false g124
           refine E X X (d := 80) X X X<|E X X (d := 80) X X X<|E X X (d := 80) X X X<|E X X (d := 80) X X X<|zl X X (d := 84) X X<|zl X X (d := 84) X X<|zl X X (d := 84) X X<|E X X (d := 80) X X X<|Y X X (zC (v := (.bool _)) X X)<|Y X X (zN X)<|E X X (d := 90) X X X<|E X X (d := 90) X X X<|E X X (d := 90) X X X<|E X X (d := 90) X X X<|zl X X (d := 94) X X<|zl X X (d := 94) X X<|zl X X (d := 94) X X<|zl X X (d := 94) X X<|zl X X (d := 94) X X<|zl X X (d := 94) X X<|zl X X (d := 94) X X<|E X X (d := 90) X X X<|Y X X (zC (v := (.bool _)) X X)<|Y X X (zJ X)<|U<|M<|zA<|zi Tryz.results53 ?_
           refine ⟨h119, _, rfl, st121.done, ?_⟩
           refine zw ?_
           exact dec2_f1 ht hk40 c39 g116 g123 g124
         ·
          refine E X X (d := 71) X X X<|E X X (d := 71) X X X<|E X X (d := 71) X X X<|E X X (d := 71) X X X<|zl X X (d := 75) X X<|zl X X (d := 75) X X<|E X X (d := 71) X X X<|Y X X (zC (v := (.bool _)) X X)<|Y X X (zN X)<|E X X (d := 80) X X X<|E X X (d := 80) X X X<|E X X (d := 80) X X X<|E X X (d := 80) X X X<|zl X X (d := 84) X X<|zl X X (d := 84) X X<|zl X X (d := 84) X X<|E X X (d := 80) X X X<|Y X X (zC (v := (.bool _)) X X)<|Y X X (zN X)<|E X X (d := 90) X X X<|E X X (d := 90) X X X<|E X X (d := 90) X X X<|E X X (d := 90) X X X<|zl X X (d := 94) X X<|zl X X (d := 94) X X<|zl X X (d := 94) X X<|zl X X (d := 94) X X<|zl X X (d := 94) X X<|zl X X (d := 94) X X<|zl X X (d := 94) X X ?_
          refine E X X (d := 90) X X X<|Y X X (zC (v := (.bool _)) X X)<|Y X X (zJ X)<|U<|M<|zA<|zi Tryz.results53 ?_
          refine ⟨h119, _, rfl, st121.done, ?_⟩
          refine zw ?_
          exact dec2_f0 ht hk40 c39 g116 g123
        ·
         replace g116 := of_decide_eq_false g116
         refine E X X (d := 61) X X X<|E X X (d := 61) X X X<|E X X (d := 61) X X X<|E X X (d := 61) X X X<|zl X X (d := 65) X X<|zl X X (d := 65) X X<|zl X X (d := 65) X X<|E X X (d := 61) X X X<|Y X X (zC (v := (.bool _)) X X)<|Y X X (zN X)<|E X X (d := 71) X X X<|E X X (d := 71) X X X<|E X X (d := 71) X X X<|E X X (d := 71) X X X<|zl X X (d := 75) X X<|zl X X (d := 75) X X<|E X X (d := 71) X X X<|Y X X (zC (v := (.bool _)) X X)<|Y X X (zN X)<|E X X (d := 80) X X X<|E X X (d := 80) X X X<|E X X (d := 80) X X X<|E X X (d := 80) X X X<|zl X X (d := 84) X X<|zl X X (d := 84) X X<|zl X X (d := 84) X X<|E X X (d := 80) X X X<|Y X X (zC (v := (.bool _)) X X)<|Y X X (zN X)<|E X X (d := 90) X X X ?_
         refine E X X (d := 90) X X X<|E X X (d := 90) X X X<|E X X (d := 90) X X X<|zl X X (d := 94) X X<|zl X X (d := 94) X X<|zl X X (d := 94) X X<|zl X X (d := 94) X X<|zl X X (d := 94) X X<|zl X X (d := 94) X X<|zl X X (d := 94) X X<|E X X (d := 90) X X X<|Y X X (zC (v := (.bool _)) X X)<|Y X X (zJ X)<|U<|M<|zA<|zi Tryz.results53 ?_
         refine ⟨h112, _, rfl, st114.done, ?_⟩
         refine zw ?_
         exact dec2_n ht hk40 c39 g116
      ·
       cases c106
     ·
      cases c103
    ·
     cases c100
   ·
    refine O<|Y X X (zc X Tryz.underlying56 X Tryz.sizeOf5 X)<|Y X X (zb (j := 1) st37.sub (hc11.up (((le18.trans le22).trans le32).trans le36)) X X X Tryz.isAgg5) ?_
    refine Y rfl rfl (r_index_arr rfl rfl (show _ = ((3 : Nat) : Int) by rw [hk40]; rfl) rfl Tryz.underlying165 Tryz.sizeOf164) ?_
    refine Y X X (zR (j := 15) st37.sub (K0.up (((((le4.trans le10).trans le18).trans le22).trans le32).trans le36)) (us := [.bool false, .bool true, .bool true, .bool false, .func (.func 220) #[] #[]]) X X Tryz.isAgg164 Tryz.sizeOf164 X X)<|zO st37 Tryz.zeroValue164 X X ?_
    intro b132 w133 st134
    refine zB st134 (k := 0) X X X (zg X (zg X (zg X (zg X (zg X zU))))) Tryz.sizeOf164 X X X ?_
    intro w135 st136
    obtain ⟨h137, le138, hb139, st141⟩ := st136.freeze (k := 0) rfl
    have hc140 := Cells.of hb139
    refine U<|M<|zd<|O<|Y X X (zc X Tryz.underlying56 X Tryz.sizeOf3 X)<|Y X X (zb (j := 0) st141.sub (hc11.up ((((le18.trans le22).trans le32).trans le36).trans le138)) X X X Tryz.isAgg3)<|Y X X (zc X Tryz.underlying56 X Tryz.sizeOf5 X)<|Y X X (zb (j := 1) st141.sub (hc11.up ((((le18.trans le22).trans le32).trans le36).trans le138)) X X X Tryz.isAgg5)<|Y X X (r_build (cs := [.int .i64 (d.number), .int .u8 (d.kind), strV [], .int .i64 0, .int .i64 0, .int .i64 0, strV [], .int .u8 0, .int .i64 0]) t_kr)<|zO st141 Tryz.zeroValue56 X X ?_
    intro b142 w143 st144
    refine zB st144 (k := 1) X X X (zg X (zg X (zg X (zg X (zg X (zg X (zg X (zg X (zg X zU))))))))) Tryz.sizeOf56 X X X ?_
    intro w145 st146
    refine U<|M<|zd<|zd<|O<|Y X X (zc X Tryz.underlying164 X Tryz.sizeOf4 X)<|Y X X (zb (j := 0) st146.sub hc140 X X X Tryz.isAgg4)<|U<|M ?_
    refine zt rfl (fun c147 => ?_) (fun c147 => ?_)
    ·
     cases c147
    ·
     refine zz<|M<|zd<|zd<|O<|Y X X (zc X Tryz.underlying164 X Tryz.sizeOf4 X)<|Y X X (zb (j := 1) st146.sub hc140 X X X Tryz.isAgg4)<|U<|M ?_
     refine zt rfl (fun c148 => ?_) (fun c148 => ?_)
     ·
      refine O<|Y X X (zc X Tryz.underlying56 X Tryz.sizeOf52 X)<|Y X X (zR (j := 3) st146.sub (hc11.up ((((le18.trans le22).trans le32).trans le36).trans le138)) (us := [.int .i64 (d.at_.chapter), .int .i64 (d.at_.line), .int .i64 (d.at_.word)]) X X Tryz.isAgg52 Tryz.sizeOf52 X X)<|Y X X (zc X Tryz.underlying56 X Tryz.sizeOf52 X)<|zB st146 (k := 1) X X X (zg X (zg X (zg X zU))) Tryz.sizeOf52 X X X ?_
      intro w149 st150
      refine U<|M<|zd<|zd<|O<|Y X X (zc X Tryz.underlying164 X Tryz.sizeOf4 X)<|Y X X (zb (j := 2) st150.sub hc140 X X X Tryz.isAgg4)<|U<|M ?_
      refine zt rfl (fun c151 => ?_) (fun c151 => ?_)
      ·
       refine O<|Y X X (zc X Tryz.underlying56 X Tryz.sizeOf54 X)<|Y X X (zR (j := 6) st150.sub (hc11.up ((((le18.trans le22).trans le32).trans le36).trans le138)) (us := [strV (d.to.stem), .int .u8 (d.to.mark)]) X X Tryz.isAgg54 Tryz.sizeOf54 X X)<|Y X X (zc X Tryz.underlying56 X Tryz.sizeOf54 X)<|zB st150 (k := 1) X X X (zg X (zg X zU)) Tryz.sizeOf54 X X X ?_
       intro w152 st153
       refine U<|M<|zd<|zd<|O<|Y X X (zc X Tryz.underlying164 X Tryz.sizeOf4 X)<|Y X X (zb (j := 3) st153.sub hc140 X X X Tryz.isAgg4)<|U<|M ?_
       refine zt rfl (fun c154 => ?_) (fun c154 => ?_)
       ·
        cases c154
       ·
        refine zz<|M<|zd<|O<|Y X X (zf st153.sub (hc5.up (((((le10.trans le18).trans le22).trans le32).trans le36).trans le138)) X Tryz.isAgg24 Tryz.sizeOf24 X)<|Y X X (zc X Tryz.underlying56 X Tryz.sizeOf52 X)<|Y X X (zR (j := 3) st153.sub (hc11.up ((((le18.trans le22).trans le32).trans le36).trans le138)) (us := [.int .i64 (d.at_.chapter), .int .i64 (d.at_.line), .int .i64 (d.at_.word)]) X X Tryz.isAgg52 Tryz.sizeOf52 X X)<|zm st153 X X X Tryz.call99 X (c_leaf_At st153.sub (t := t) (t_f0.up ((((((le4.trans le10).trans le18).trans le22).trans le32).trans le36).trans le138)) (p := d.at_)) ?_
        intro r155 w156 h157 le158 st159 q160
        obtain rfl := q160
        refine Y X X (r_mvT X)<|Y X X (zH (v := (strV _)) X X)<|Y X X (zH (v := (.int _ _)) X X)<|Y X X (r_asS X)<|Y X X (zx X)<|U<|M<|zd ?_
        have qn : 1 ≤ d.number ∧ d.number ≤ 999 := by
         have q := c39
         simp [inAll, inB] at q
         omega
        refine O<|Y X X (zf st159.sub (hc11.up (((((le18.trans le22).trans le32).trans le36).trans le138).trans le158)) X Tryz.isAgg56 Tryz.sizeOf56 X)<|Y X X (r_load_ball (st159.get (k := 1) X) X Tryz.isAgg56 Tryz.sizeOf56 X)<|Y X X (r_steql X X Tryz.eqGuardType56 (Tryz.eq_Decision d (Decision.mk (d.number) (d.kind) ([]) (Place.mk (d.at_.chapter) (d.at_.line) (d.at_.word)) (Head.mk (d.to.stem) (d.to.mark)) 0)))<|Y X X (zN X) ?_
        refine zG (d := 61) rfl (fun g161 => ?_) (fun g161 => ?_)
        ·
         replace g161 := of_decide_eq_true g161
         refine za X X (d := 61) X<|Y X X (zc X Tryz.underlying164 X Tryz.sizeOf4 X)<|za X X (d := 61) X<|Y X X (zb (j := 0) st159.sub (hc140.up le158) X X X Tryz.isAgg4)<|za X X (d := 61) X<|Y X X (r_not X)<|za X X (d := 61) X<|Y X X (zN X)<|E X X (d := 65) X X X<|E X X (d := 65) X X X<|E X X (d := 65) X X X<|za X X (d := 61) X<|Y X X (zK (v := (.bool _)) X X)<|Y X X (zK (v := (.bool _)) X X)<|Y X X (zN X)<|za X X (d := 71) X<|Y X X (zc X Tryz.underlying164 X Tryz.sizeOf4 X)<|za X X (d := 71) X<|Y X X (zb (j := 1) st159.sub (hc140.up le158) X X X Tryz.isAgg4)<|za X X (d := 71) X<|Y X X (r_not X)<|za X X (d := 71) X<|Y X X (zN X)<|za X X (d := 75) X<|Y X X (zo X)<|za X X (d := 75) X<|Y X X (r_eql X X)<|za X X (d := 71) X<|Y X X (zC (v := (.bool _)) X X)<|Y X X (zK (v := (.bool _)) X X) ?_
         refine Y X X (zN X) ?_
         refine zG (d := 80) rfl (fun g162 => ?_) (fun g162 => ?_)
         ·
          replace g162 := of_decide_eq_true g162
          refine za X X (d := 80) X<|Y X X (zc X Tryz.underlying164 X Tryz.sizeOf4 X)<|za X X (d := 80) X<|Y X X (zb (j := 2) st159.sub (hc140.up le158) X X X Tryz.isAgg4)<|za X X (d := 80) X<|Y X X (r_not X)<|za X X (d := 80) X<|Y X X (zN X)<|za X X (d := 84) X<|Y X X (zc X Tryz.underlying56 X Tryz.sizeOf54 X)<|za X X (d := 84) X<|Y X X (zR (j := 6) st159.sub (hc11.up (((((le18.trans le22).trans le32).trans le36).trans le138).trans le158)) (us := [strV (d.to.stem), .int .u8 (d.to.mark)]) X X Tryz.isAgg54 Tryz.sizeOf54 X X)<|za X X (d := 84) X<|zm st159 X X X Tryz.call100 X (c_stem_right st159.sub (hd := d.to) zZ t_u8) ?_
          intro r163 w164 h165 le166 st167 q168
          obtain rfl := q168
          refine za X X (d := 80) X<|Y X X (zC (v := (.bool _)) X X)<|Y X X (zK (v := (.bool _)) X X)<|Y X X (zN X) ?_
          refine zG (d := 90) rfl (fun g169 => ?_) (fun g169 => ?_)
          ·
           refine za X X (d := 90) X<|Y X X (zc X Tryz.underlying164 X Tryz.sizeOf4 X)<|za X X (d := 90) X<|Y X X (zb (j := 3) st167.sub (hc140.up (le158.trans le166)) X X X Tryz.isAgg4)<|za X X (d := 90) X<|Y X X (r_not X)<|za X X (d := 90) X<|Y X X (zN X)<|E X X (d := 94) X X X<|E X X (d := 94) X X X<|E X X (d := 94) X X X<|E X X (d := 94) X X X<|E X X (d := 94) X X X<|E X X (d := 94) X X X<|E X X (d := 94) X X X<|za X X (d := 90) X<|Y X X (zK (v := (.bool _)) X X)<|Y X X (zK (v := (.bool _)) X X)<|Y X X (zJ X)<|U<|M<|zA<|zi Tryz.results53 ?_
           refine ⟨h165, _, rfl, st167.done, ?_⟩
           refine zw ?_
           exact dec3_t ht hk40 c39 g161 g162 g169
          ·
           refine E X X (d := 90) X X X<|E X X (d := 90) X X X<|E X X (d := 90) X X X<|E X X (d := 90) X X X<|zl X X (d := 94) X X<|zl X X (d := 94) X X<|zl X X (d := 94) X X<|zl X X (d := 94) X X<|zl X X (d := 94) X X<|zl X X (d := 94) X X<|zl X X (d := 94) X X<|E X X (d := 90) X X X<|Y X X (zC (v := (.bool _)) X X)<|Y X X (zJ X)<|U<|M<|zA<|zi Tryz.results53 ?_
           refine ⟨h165, _, rfl, st167.done, ?_⟩
           refine zw ?_
           exact dec3_f1 ht hk40 c39 g161 g162 g169
         ·
          replace g162 := of_decide_eq_false g162
          refine E X X (d := 80) X X X<|E X X (d := 80) X X X<|E X X (d := 80) X X X<|E X X (d := 80) X X X<|zl X X (d := 84) X X<|zl X X (d := 84) X X<|zl X X (d := 84) X X<|E X X (d := 80) X X X<|Y X X (zC (v := (.bool _)) X X)<|Y X X (zN X)<|E X X (d := 90) X X X<|E X X (d := 90) X X X<|E X X (d := 90) X X X<|E X X (d := 90) X X X<|zl X X (d := 94) X X<|zl X X (d := 94) X X<|zl X X (d := 94) X X<|zl X X (d := 94) X X<|zl X X (d := 94) X X<|zl X X (d := 94) X X<|zl X X (d := 94) X X<|E X X (d := 90) X X X<|Y X X (zC (v := (.bool _)) X X)<|Y X X (zJ X)<|U<|M<|zA<|zi Tryz.results53 ?_
          refine ⟨h157, _, rfl, st159.done, ?_⟩
          refine zw ?_
          exact dec3_f0 ht hk40 c39 g161 g162
        ·
         replace g161 := of_decide_eq_false g161
         refine E X X (d := 61) X X X<|E X X (d := 61) X X X<|E X X (d := 61) X X X<|E X X (d := 61) X X X<|zl X X (d := 65) X X<|zl X X (d := 65) X X<|zl X X (d := 65) X X<|E X X (d := 61) X X X<|Y X X (zC (v := (.bool _)) X X)<|Y X X (zN X)<|E X X (d := 71) X X X<|E X X (d := 71) X X X<|E X X (d := 71) X X X<|E X X (d := 71) X X X<|zl X X (d := 75) X X<|zl X X (d := 75) X X<|E X X (d := 71) X X X<|Y X X (zC (v := (.bool _)) X X)<|Y X X (zN X)<|E X X (d := 80) X X X<|E X X (d := 80) X X X<|E X X (d := 80) X X X<|E X X (d := 80) X X X<|zl X X (d := 84) X X<|zl X X (d := 84) X X<|zl X X (d := 84) X X<|E X X (d := 80) X X X<|Y X X (zC (v := (.bool _)) X X)<|Y X X (zN X)<|E X X (d := 90) X X X ?_
         refine E X X (d := 90) X X X<|E X X (d := 90) X X X<|E X X (d := 90) X X X<|zl X X (d := 94) X X<|zl X X (d := 94) X X<|zl X X (d := 94) X X<|zl X X (d := 94) X X<|zl X X (d := 94) X X<|zl X X (d := 94) X X<|zl X X (d := 94) X X<|E X X (d := 90) X X X<|Y X X (zC (v := (.bool _)) X X)<|Y X X (zJ X)<|U<|M<|zA<|zi Tryz.results53 ?_
         refine ⟨h157, _, rfl, st159.done, ?_⟩
         refine zw ?_
         exact dec3_n ht hk40 c39 g161
      ·
       cases c151
     ·
      cases c148
   ·
    refine O<|Y X X (zc X Tryz.underlying56 X Tryz.sizeOf5 X)<|Y X X (zb (j := 1) st37.sub (hc11.up (((le18.trans le22).trans le32).trans le36)) X X X Tryz.isAgg5) ?_
    refine Y rfl rfl (r_index_arr rfl rfl (show _ = ((4 : Nat) : Int) by rw [hk40]; rfl) rfl Tryz.underlying165 Tryz.sizeOf164) ?_
    refine Y X X (zR (j := 20) st37.sub (K0.up (((((le4.trans le10).trans le18).trans le22).trans le32).trans le36)) (us := [.bool false, .bool false, .bool false, .bool true, .func (.func 221) #[] #[]]) X X Tryz.isAgg164 Tryz.sizeOf164 X X)<|zO st37 Tryz.zeroValue164 X X ?_
    intro b170 w171 st172
    refine zB st172 (k := 0) X X X (zg X (zg X (zg X (zg X (zg X zU))))) Tryz.sizeOf164 X X X ?_
    intro w173 st174
    obtain ⟨h175, le176, hb177, st179⟩ := st174.freeze (k := 0) rfl
    have hc178 := Cells.of hb177
    refine U<|M<|zd<|O<|Y X X (zc X Tryz.underlying56 X Tryz.sizeOf3 X)<|Y X X (zb (j := 0) st179.sub (hc11.up ((((le18.trans le22).trans le32).trans le36).trans le176)) X X X Tryz.isAgg3)<|Y X X (zc X Tryz.underlying56 X Tryz.sizeOf5 X)<|Y X X (zb (j := 1) st179.sub (hc11.up ((((le18.trans le22).trans le32).trans le36).trans le176)) X X X Tryz.isAgg5)<|Y X X (r_build (cs := [.int .i64 (d.number), .int .u8 (d.kind), strV [], .int .i64 0, .int .i64 0, .int .i64 0, strV [], .int .u8 0, .int .i64 0]) t_kr)<|zO st179 Tryz.zeroValue56 X X ?_
    intro b180 w181 st182
    refine zB st182 (k := 1) X X X (zg X (zg X (zg X (zg X (zg X (zg X (zg X (zg X (zg X zU))))))))) Tryz.sizeOf56 X X X ?_
    intro w183 st184
    refine U<|M<|zd<|zd<|O<|Y X X (zc X Tryz.underlying164 X Tryz.sizeOf4 X)<|Y X X (zb (j := 0) st184.sub hc178 X X X Tryz.isAgg4)<|U<|M ?_
    refine zt rfl (fun c185 => ?_) (fun c185 => ?_)
    ·
     cases c185
    ·
     refine zz<|M<|zd<|zd<|O<|Y X X (zc X Tryz.underlying164 X Tryz.sizeOf4 X)<|Y X X (zb (j := 1) st184.sub hc178 X X X Tryz.isAgg4)<|U<|M ?_
     refine zt rfl (fun c186 => ?_) (fun c186 => ?_)
     ·
      cases c186
     ·
      refine zz<|M<|zd<|zd<|O<|Y X X (zc X Tryz.underlying164 X Tryz.sizeOf4 X)<|Y X X (zb (j := 2) st184.sub hc178 X X X Tryz.isAgg4)<|U<|M ?_
      refine zt rfl (fun c187 => ?_) (fun c187 => ?_)
      ·
       cases c187
      ·
       refine zz<|M<|zd<|zd<|O<|Y X X (zc X Tryz.underlying164 X Tryz.sizeOf4 X)<|Y X X (zb (j := 3) st184.sub hc178 X X X Tryz.isAgg4)<|U<|M ?_
       refine zt rfl (fun c188 => ?_) (fun c188 => ?_)
       ·
        refine O<|Y X X (zc X Tryz.underlying56 X Tryz.sizeOf3 X)<|Y X X (zb (j := 8) st184.sub (hc11.up ((((le18.trans le22).trans le32).trans le36).trans le176)) X X X Tryz.isAgg3)<|Y X X (zc X Tryz.underlying56 X Tryz.sizeOf3 X)<|zas st184 (k := 1) X X X X Tryz.sizeOf3 X X X ?_
        intro w189 st190
        refine U<|M<|zd<|O<|Y X X (zf st190.sub (hc5.up (((((le10.trans le18).trans le22).trans le32).trans le36).trans le176)) X Tryz.isAgg24 Tryz.sizeOf24 X)<|Y X X (zc X Tryz.underlying56 X Tryz.sizeOf52 X)<|Y X X (zR (j := 3) st190.sub (hc11.up ((((le18.trans le22).trans le32).trans le36).trans le176)) (us := [.int .i64 (d.at_.chapter), .int .i64 (d.at_.line), .int .i64 (d.at_.word)]) X X Tryz.isAgg52 Tryz.sizeOf52 X X)<|zm st190 X X X Tryz.call99 X (c_leaf_At st190.sub (t := t) (t_f0.up ((((((le4.trans le10).trans le18).trans le22).trans le32).trans le36).trans le176)) (p := d.at_)) ?_
        intro r191 w192 h193 le194 st195 q196
        obtain rfl := q196
        refine Y X X (r_mvT X)<|Y X X (zH (v := (strV _)) X X)<|Y X X (zH (v := (.int _ _)) X X)<|Y X X (r_asS X)<|Y X X (zx X)<|U<|M<|zd ?_
        have qn : 1 ≤ d.number ∧ d.number ≤ 999 := by
         have q := c39
         simp [inAll, inB] at q
         omega
        refine O<|Y X X (zf st195.sub (hc11.up (((((le18.trans le22).trans le32).trans le36).trans le176).trans le194)) X Tryz.isAgg56 Tryz.sizeOf56 X)<|Y X X (r_load_ball (st195.get (k := 1) X) X Tryz.isAgg56 Tryz.sizeOf56 X)<|Y X X (r_steql X X Tryz.eqGuardType56 (Tryz.eq_Decision d (Decision.mk (d.number) (d.kind) ([]) (Place.mk 0 0 0) (Head.mk ([]) 0) (d.of_))))<|Y X X (zN X) ?_
        refine zG (d := 61) rfl (fun g197 => ?_) (fun g197 => ?_)
        ·
         replace g197 := of_decide_eq_true g197
         refine za X X (d := 61) X<|Y X X (zc X Tryz.underlying164 X Tryz.sizeOf4 X)<|za X X (d := 61) X<|Y X X (zb (j := 0) st195.sub (hc178.up le194) X X X Tryz.isAgg4)<|za X X (d := 61) X<|Y X X (r_not X)<|za X X (d := 61) X<|Y X X (zN X)<|E X X (d := 65) X X X<|E X X (d := 65) X X X<|E X X (d := 65) X X X<|za X X (d := 61) X<|Y X X (zK (v := (.bool _)) X X)<|Y X X (zK (v := (.bool _)) X X)<|Y X X (zN X)<|za X X (d := 71) X<|Y X X (zc X Tryz.underlying164 X Tryz.sizeOf4 X)<|za X X (d := 71) X<|Y X X (zb (j := 1) st195.sub (hc178.up le194) X X X Tryz.isAgg4)<|za X X (d := 71) X<|Y X X (r_not X)<|za X X (d := 71) X<|Y X X (zN X)<|E X X (d := 75) X X X<|E X X (d := 75) X X X<|za X X (d := 71) X<|Y X X (zK (v := (.bool _)) X X)<|Y X X (zK (v := (.bool _)) X X)<|Y X X (zN X)<|za X X (d := 80) X ?_
         refine Y X X (zc X Tryz.underlying164 X Tryz.sizeOf4 X)<|za X X (d := 80) X<|Y X X (zb (j := 2) st195.sub (hc178.up le194) X X X Tryz.isAgg4)<|za X X (d := 80) X<|Y X X (r_not X)<|za X X (d := 80) X<|Y X X (zN X)<|E X X (d := 84) X X X<|E X X (d := 84) X X X<|E X X (d := 84) X X X<|za X X (d := 80) X<|Y X X (zK (v := (.bool _)) X X)<|Y X X (zK (v := (.bool _)) X X)<|Y X X (zN X)<|za X X (d := 90) X<|Y X X (zc X Tryz.underlying164 X Tryz.sizeOf4 X)<|za X X (d := 90) X<|Y X X (zb (j := 3) st195.sub (hc178.up le194) X X X Tryz.isAgg4)<|za X X (d := 90) X<|Y X X (r_not X)<|za X X (d := 90) X<|Y X X (zN X)<|za X X (d := 94) X<|Y X X (zc X Tryz.underlying56 X Tryz.sizeOf3 X)<|za X X (d := 94) X<|Y X X (zb (j := 0) st195.sub (hc11.up (((((le18.trans le22).trans le32).trans le36).trans le176).trans le194)) X X X Tryz.isAgg3)<|za X X (d := 94) X<|Y X X (r_sub X X t_om)<|za X X (d := 94) X<|Y X X (zc X Tryz.underlying56 X Tryz.sizeOf3 X) ?_
         refine za X X (d := 94) X<|Y X X (zb (j := 8) st195.sub (hc11.up (((((le18.trans le22).trans le32).trans le36).trans le176).trans le194)) X X X Tryz.isAgg3)<|za X X (d := 94) X<|zV (L := LInt) (xs := [(d.of_)]) (cs := [.int .i64 (d.of_)]) st195 (Enc.cons (L := LInt) (vs := [.int .i64 (d.of_)]) (x := (d.of_)) (h := h193) (X) Enc.nil) X X X Tryz.underlying39 Tryz.info3 X X X t_kr ?_
         intro v198 w199 h202 le203 f200 st201
         refine za X X (d := 94) X<|zm st201 X X X Tryz.call50 X (c_stem_in st201.sub _ _ f200) ?_
         intro r204 w205 h206 le207 st208 q209
         obtain rfl := q209
         refine za X X (d := 90) X<|Y X X (zC (v := (.bool _)) X X)<|Y X X (zK (v := (.bool _)) X X)<|Y X X (zJ X)<|U<|M<|zA<|zi Tryz.results53 ?_
         refine ⟨h206, _, rfl, st208.done, ?_⟩
         refine zw ?_
         exact dec4_t ht hk40 c39 g197
        ·
         replace g197 := of_decide_eq_false g197
         refine E X X (d := 61) X X X<|E X X (d := 61) X X X<|E X X (d := 61) X X X<|E X X (d := 61) X X X<|zl X X (d := 65) X X<|zl X X (d := 65) X X<|zl X X (d := 65) X X<|E X X (d := 61) X X X<|Y X X (zC (v := (.bool _)) X X)<|Y X X (zN X)<|E X X (d := 71) X X X<|E X X (d := 71) X X X<|E X X (d := 71) X X X<|E X X (d := 71) X X X<|zl X X (d := 75) X X<|zl X X (d := 75) X X<|E X X (d := 71) X X X<|Y X X (zC (v := (.bool _)) X X)<|Y X X (zN X)<|E X X (d := 80) X X X<|E X X (d := 80) X X X<|E X X (d := 80) X X X<|E X X (d := 80) X X X<|zl X X (d := 84) X X<|zl X X (d := 84) X X<|zl X X (d := 84) X X<|E X X (d := 80) X X X<|Y X X (zC (v := (.bool _)) X X)<|Y X X (zN X)<|E X X (d := 90) X X X ?_
         refine E X X (d := 90) X X X<|E X X (d := 90) X X X<|E X X (d := 90) X X X<|zl X X (d := 94) X X<|zl X X (d := 94) X X<|zl X X (d := 94) X X<|zl X X (d := 94) X X<|zl X X (d := 94) X X<|zl X X (d := 94) X X<|zl X X (d := 94) X X<|E X X (d := 90) X X X<|Y X X (zC (v := (.bool _)) X X)<|Y X X (zJ X)<|U<|M<|zA<|zi Tryz.results53 ?_
         refine ⟨h193, _, rfl, st195.done, ?_⟩
         refine zw ?_
         exact dec4_n ht hk40 c39 g197
       ·
        cases c188
end Go.Pk

namespace Go.Pk
open Go Go.RowKit Go.Proofs
set_option maxRecDepth 4000 in
theorem c_stem_all_api_Rule_st {xs : List Rule} {v : Value} {g : FuncId} {caps : List Value} (S : Nat → Heap → World → Prop) (p : Nat → Bool)
  (hS : ∀ k h w, S k h w → Sub h w ∧ Sl LRule h v xs) (hup : ∀ k h w h' w', S k h w → St h w h' w' [] → S k h' w')
  (hf : ∀ k x h w vs, S k h w → xs[k]? = some x → LRule.R h vs x → Calls Tryz.prog g (.agg vs.toArray :: caps).toArray w (fun e w' => ∃ h', e = .returned (.bool (p k)) ∧ Le h h' ∧ S (k + 1) h' w'))
  (hg : ∀ a w, (callFunc g a).run Tryz.prog w = .ok (.enter g a) w) {h : Heap} {w : World} (h0 : S 0 h w) :
  Calls Tryz.prog 48 #[v, .func (.func g) #[] caps.toArray] w (fun e w' => ∃ h' k b, e = .returned (.bool b) ∧ S k h' w' ∧ (b = true ↔ ∀ j, j < xs.length → p j = true)) := by
 refine zM (n := 9) (args := [v, .func (.func g) #[] caps.toArray]) Tryz.func48 X X X ?_
 have st0 : St h w h w [] := St.start (hS _ _ _ h0).1
 refine zd<|O<|zr st0 (v := .func (.func g) #[] caps.toArray) (cs := [.func (.func g) #[] caps.toArray]) X X X ?_
 intro b w1 h1 le1 hc st1
 have h1S := hup _ _ _ _ _ h0 st1
 refine Y X X (zJ X)<|U<|M<|zd<|O<|Y X X (zy (v := v) X)<|Y X X (r_make_func X X) ?_
 have con := c_slices_ContainsFunc_Lapi_Rule_api_Rule_st (v := v) (g := 94) (caps := [.pointer (some ⟨b, 0, none⟩)]) (fun k h w => S k h w ∧ Cells h b 0 [.func (.func g) #[] caps.toArray]) (fun k => !p k) (fun k h w hs => hS k h w hs.1) (fun k x h2 w2 vs hs hx hr u hu => by
  subst hu
  obtain ⟨hs, hc2⟩ := hs
  refine zM (n := 8) (args := [.agg vs.toArray, .pointer (some ⟨b, 0, none⟩)]) Tryz.func94 X X X ?_
  have st2 : St h2 w2 h2 w2 [] := St.start (hS _ _ _ hs).1
  refine zd<|O<|zr st2 (v := .agg vs.toArray) (cs := vs) X X X ?_
  intro b3 w3 h3 le3 hc3 st3
  have hs3 := hup _ _ _ _ _ hs st3
  refine Y X X (zJ X)<|U<|M<|zd<|O<|Y X X (zb (j := 0) st3.sub (hc2.up le3) X X X Tryz.isAgg110)<|Y X X (zf st3.sub hc3 X Tryz.isAgg70 Tryz.sizeOf70 (LRule.len hr)) ?_
  refine zad rfl rfl (run_call_value (fs := []) (cs := caps) rfl rfl hg rfl) ((hf k x h3 w3 vs hs3 hx (LRule.up hr le3)).mono ?_)
  rintro e w4 ⟨h4, rfl, le4, hs4⟩
  refine ⟨_, rfl, ?_⟩
  refine Y X X (r_not X)<|Y X X (zJ X)<|U<|M<|zA<|zi Tryz.results94 ?_
  exact ⟨h4, rfl, hs4, hc2.up (le3.trans le4)⟩) Tryz.call94 ⟨h1S, hc⟩
 refine zad rfl rfl (zaj rfl Tryz.call93 rfl) (con.mono ?_)
 rintro e w2 ⟨h2, k, rfl, q1, q2, q3, q4⟩
 refine ⟨_, rfl, ?_⟩
 refine Y X X (r_not X)<|Y X X (zJ X)<|U<|M<|zA<|zi Tryz.results48 ?_
 refine ⟨h2, _, _, rfl, q4.1, ?_⟩
 simp only [Bool.not_eq_true', decide_eq_false_iff_not, Bool.not_eq_false', Bool.not_eq_true] at q2 q3 ⊢
 constructor
 ·intro hk j hj
  exact q2 j (by omega)
 ·intro hall hk
  have := q3 hk
  rw [hall k hk] at this; cases this
/-- a test that hangs on no memory of its own -/
theorem c_stem_all_api_Rule {xs : List Rule} {v : Value} {g : FuncId} {caps : List Value} {h : Heap} {w : World} (hs : Sub h w) (hx : Sl LRule h v xs) (q : Rule → Bool)
  (hf : ∀ x h' w' vs, Le h h' → Sub h' w' → x ∈ xs → LRule.R h' vs x → ∀ u, u = .agg vs.toArray → Calls Tryz.prog g (u :: caps).toArray w' (Rets h' w' fun _ _ r => r = .bool (q x)))
  (hg : ∀ a w, (callFunc g a).run Tryz.prog w = .ok (.enter g a) w) :
  Calls Tryz.prog 48 #[v, .func (.func g) #[] caps.toArray] w (Rets h w fun _ _ r => r = .bool (xs.all q)) := by
 refine (c_stem_all_api_Rule_st (xs := xs) (v := v) (fun _ h' w' => St h w h' w' []) (fun k => ((xs[k]?).map q).getD true) (fun k h' w' s => ⟨s.sub, hx.up s.le⟩) (fun k h1 w1 h2 w2 s1 s2 => s1.call0 s2) (fun k x h1 w1 vs s1 hk hr => ?_) hg (St.start hs)).mono ?_
 ·refine (hf x h1 w1 vs s1.le s1.sub (List.mem_of_getElem? hk) hr _ rfl).mono ?_
  rintro e w2 ⟨h2, r, rfl, s2, rfl⟩
  refine ⟨h2, ?_, s2.le, s1.call0 s2⟩
  rw [hk]; rfl
 ·rintro e w2 ⟨h2, k, b, rfl, s2, hb⟩
  refine ⟨h2, _, rfl, s2, congrArg Value.bool ?_⟩
  rw [Bool.eq_iff_iff, hb, List.all_eq_true]
  constructor
  ·intro hall x hx'
   obtain ⟨j, hj⟩ := List.mem_iff_getElem?.1 hx'
   have := hall j (List.getElem?_eq_some_iff.1 hj).1
   rw [hj] at this; exact this
  ·intro hall j hj
   rw [List.getElem?_eq_getElem hj]
   exact hall _ (List.getElem_mem hj)
set_option maxRecDepth 4000 in
theorem c_stem_all_api_Decision_st {xs : List Decision} {v : Value} {g : FuncId} {caps : List Value} (S : Nat → Heap → World → Prop) (p : Nat → Bool)
  (hS : ∀ k h w, S k h w → Sub h w ∧ Sl LDecision h v xs) (hup : ∀ k h w h' w', S k h w → St h w h' w' [] → S k h' w')
  (hf : ∀ k x h w vs, S k h w → xs[k]? = some x → LDecision.R h vs x → Calls Tryz.prog g (.agg vs.toArray :: caps).toArray w (fun e w' => ∃ h', e = .returned (.bool (p k)) ∧ Le h h' ∧ S (k + 1) h' w'))
  (hg : ∀ a w, (callFunc g a).run Tryz.prog w = .ok (.enter g a) w) {h : Heap} {w : World} (h0 : S 0 h w) :
  Calls Tryz.prog 51 #[v, .func (.func g) #[] caps.toArray] w (fun e w' => ∃ h' k b, e = .returned (.bool b) ∧ S k h' w' ∧ (b = true ↔ ∀ j, j < xs.length → p j = true)) := by
 refine zM (n := 9) (args := [v, .func (.func g) #[] caps.toArray]) Tryz.func51 X X X ?_
 have st0 : St h w h w [] := St.start (hS _ _ _ h0).1
 refine zd<|O<|zr st0 (v := .func (.func g) #[] caps.toArray) (cs := [.func (.func g) #[] caps.toArray]) X X X ?_
 intro b w1 h1 le1 hc st1
 have h1S := hup _ _ _ _ _ h0 st1
 refine Y X X (zJ X)<|U<|M<|zd<|O<|Y X X (zy (v := v) X)<|Y X X (r_make_func X X) ?_
 have con := c_slices_ContainsFunc_Lapi_Decision_api_Decision_st (v := v) (g := 98) (caps := [.pointer (some ⟨b, 0, none⟩)]) (fun k h w => S k h w ∧ Cells h b 0 [.func (.func g) #[] caps.toArray]) (fun k => !p k) (fun k h w hs => hS k h w hs.1) (fun k x h2 w2 vs hs hx hr u hu => by
  subst hu
  obtain ⟨hs, hc2⟩ := hs
  refine zM (n := 8) (args := [.agg vs.toArray, .pointer (some ⟨b, 0, none⟩)]) Tryz.func98 X X X ?_
  have st2 : St h2 w2 h2 w2 [] := St.start (hS _ _ _ hs).1
  refine zd<|O<|zr st2 (v := .agg vs.toArray) (cs := vs) X X X ?_
  intro b3 w3 h3 le3 hc3 st3
  have hs3 := hup _ _ _ _ _ hs st3
  refine Y X X (zJ X)<|U<|M<|zd<|O<|Y X X (zb (j := 0) st3.sub (hc2.up le3) X X X Tryz.isAgg113)<|Y X X (zf st3.sub hc3 X Tryz.isAgg56 Tryz.sizeOf56 (LDecision.len hr)) ?_
  refine zad rfl rfl (run_call_value (fs := []) (cs := caps) rfl rfl hg rfl) ((hf k x h3 w3 vs hs3 hx (LDecision.up hr le3)).mono ?_)
  rintro e w4 ⟨h4, rfl, le4, hs4⟩
  refine ⟨_, rfl, ?_⟩
  refine Y X X (r_not X)<|Y X X (zJ X)<|U<|M<|zA<|zi Tryz.results98 ?_
  exact ⟨h4, rfl, hs4, hc2.up (le3.trans le4)⟩) Tryz.call98 ⟨h1S, hc⟩
 refine zad rfl rfl (zaj rfl Tryz.call97 rfl) (con.mono ?_)
 rintro e w2 ⟨h2, k, rfl, q1, q2, q3, q4⟩
 refine ⟨_, rfl, ?_⟩
 refine Y X X (r_not X)<|Y X X (zJ X)<|U<|M<|zA<|zi Tryz.results51 ?_
 refine ⟨h2, _, _, rfl, q4.1, ?_⟩
 simp only [Bool.not_eq_true', decide_eq_false_iff_not, Bool.not_eq_false', Bool.not_eq_true] at q2 q3 ⊢
 constructor
 ·intro hk j hj
  exact q2 j (by omega)
 ·intro hall hk
  have := q3 hk
  rw [hall k hk] at this; cases this
/-- a test that hangs on no memory of its own -/
theorem c_stem_all_api_Decision {xs : List Decision} {v : Value} {g : FuncId} {caps : List Value} {h : Heap} {w : World} (hs : Sub h w) (hx : Sl LDecision h v xs) (q : Decision → Bool)
  (hf : ∀ x h' w' vs, Le h h' → Sub h' w' → x ∈ xs → LDecision.R h' vs x → ∀ u, u = .agg vs.toArray → Calls Tryz.prog g (u :: caps).toArray w' (Rets h' w' fun _ _ r => r = .bool (q x)))
  (hg : ∀ a w, (callFunc g a).run Tryz.prog w = .ok (.enter g a) w) :
  Calls Tryz.prog 51 #[v, .func (.func g) #[] caps.toArray] w (Rets h w fun _ _ r => r = .bool (xs.all q)) := by
 refine (c_stem_all_api_Decision_st (xs := xs) (v := v) (fun _ h' w' => St h w h' w' []) (fun k => ((xs[k]?).map q).getD true) (fun k h' w' s => ⟨s.sub, hx.up s.le⟩) (fun k h1 w1 h2 w2 s1 s2 => s1.call0 s2) (fun k x h1 w1 vs s1 hk hr => ?_) hg (St.start hs)).mono ?_
 ·refine (hf x h1 w1 vs s1.le s1.sub (List.mem_of_getElem? hk) hr _ rfl).mono ?_
  rintro e w2 ⟨h2, r, rfl, s2, rfl⟩
  refine ⟨h2, ?_, s2.le, s1.call0 s2⟩
  rw [hk]; rfl
 ·rintro e w2 ⟨h2, k, b, rfl, s2, hb⟩
  refine ⟨h2, _, rfl, s2, congrArg Value.bool ?_⟩
  rw [Bool.eq_iff_iff, hb, List.all_eq_true]
  constructor
  ·intro hall x hx'
   obtain ⟨j, hj⟩ := List.mem_iff_getElem?.1 hx'
   have := hall j (List.getElem?_eq_some_iff.1 hj).1
   rw [hj] at this; exact this
  ·intro hall j hj
   rw [List.getElem?_eq_getElem hj]
   exact hall _ (List.getElem_mem hj)
end Go.Pk
