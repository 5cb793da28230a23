/- A PART OF THE PROOF: contracts of functions, each walked once (much of it printed by a program of the author's own). -/
import Derived.Test.YtngmpkoobdkeiaaGreatDoorT8
import Derived.Test.YtngmpkoobdkeiaaGreatDoorT3
import Derived.Test.YtngmpkoobdkeiaaGreatDoorT2
import Derived.Test.YtngmpkoobdkeiaaGreatDoorT6
namespace Go.Pk
open Go Go.RowKit Go.Proofs
set_option maxRecDepth 4000 in
theorem c_cmp_isNaN_int {h : Heap} {w : World} (hs : Sub h w) (x : Int) : Calls Tryz.prog 177 #[.int .i64 x] w (Rets h w (fun _ _ res_ => res_ = .bool (false))) := by
 refine zM (n := 6) (args := [.int .i64 x]) Tryz.func177 X X X ?_
 have st0 : St h w h w [] := St.start hs
 refine zd<|O<|Y X X (zJ X)<|U<|M<|zd<|O<|Y X X (zo X)<|Y X X (zo X)<|Y X X (r_neq X X)<|Y X X (zJ X)<|U<|M<|zA<|zi Tryz.results177 ?_
 refine ⟨h, _, rfl, st0.done, ?_⟩
 refine zw ?_
 simp
set_option maxRecDepth 4000 in
theorem c_cmp_Compare_int {h : Heap} {w : World} (hs : Sub h w) (a : Int) (b : Int) : Calls Tryz.prog 199 #[.int .i64 a, .int .i64 b] w (Rets h w (fun _ _ res_ => res_ = .int .i64 (cmpI a b))) := by
 refine zM (n := 20) (args := [.int .i64 a, .int .i64 b]) Tryz.func199 X X X ?_
 have st0 : St h w h w [] := St.start hs
 refine zd<|O<|Y X X (zx X)<|U<|M<|zd<|O<|Y X X (zo X)<|zm st0 X X X Tryz.call177 X (c_cmp_isNaN_int st0.sub _) ?_
 intro r1 w2 h3 le4 st5 q6
 obtain rfl := q6
 refine Y X X (zJ X)<|U<|M<|zd<|O<|Y X X (zo X)<|zm st5 X X X Tryz.call177 X (c_cmp_isNaN_int st5.sub _) ?_
 intro r7 w8 h9 le10 st11 q12
 obtain rfl := q12
 refine Y X X (zJ X)<|U<|M<|zd<|zd<|O<|Y X X (zN X)<|U<|M ?_
 refine zt rfl (fun c13 => ?_) (fun c13 => ?_)
 ·
  refine zd<|zd<|O<|Y X X (zN X)<|U<|M ?_
  refine zt rfl (fun c14 => ?_) (fun c14 => ?_)
  ·
   refine zd<|O<|Y X X (zx X)<|U<|M<|zA<|zk<|zk<|zi Tryz.results199 ?_
   refine ⟨h9, _, rfl, st11.done, ?_⟩
   refine zW ?_
   all_goals (unfold cmpI; repeat' split)
   all_goals (first | omega | simp_all | rfl)
  ·
   refine zz<|M<|zd<|O<|Y X X (zx X)<|U<|M<|zA<|zk<|zi Tryz.results199 ?_
   refine ⟨h9, _, rfl, st11.done, ?_⟩
   refine zW ?_
   all_goals (unfold cmpI; repeat' split)
   all_goals (first | omega | simp_all | rfl)
 ·
  refine zz<|M<|zd<|zd<|O<|Y X X (zN X)<|U<|M ?_
  refine zt rfl (fun c15 => ?_) (fun c15 => ?_)
  ·
   refine zd<|O<|Y X X (zx X)<|U<|M<|zA<|zk<|zi Tryz.results199 ?_
   refine ⟨h9, _, rfl, st11.done, ?_⟩
   refine zW ?_
   all_goals (unfold cmpI; repeat' split)
   all_goals (first | omega | simp_all | rfl)
  ·
   refine zz<|M<|zd<|zd<|O<|Y X X (zo X)<|Y X X (zo X)<|Y X X (zal X X)<|U<|M ?_
   refine zt rfl (fun c16 => ?_) (fun c16 => ?_)
   ·
    replace c16 := of_decide_eq_true c16
    refine zd<|O<|Y X X (zx X)<|U<|M<|zA<|zk<|zi Tryz.results199 ?_
    refine ⟨h9, _, rfl, st11.done, ?_⟩
    refine zW ?_
    all_goals (unfold cmpI; repeat' split)
    all_goals (first | omega | simp_all | rfl)
   ·
    replace c16 := of_decide_eq_false c16
    refine zz<|M<|zd<|zd<|O<|Y X X (zo X)<|Y X X (zo X)<|Y X X (r_gtr X X)<|U<|M ?_
    refine zt rfl (fun c17 => ?_) (fun c17 => ?_)
    ·
     replace c17 := of_decide_eq_true c17
     refine zd<|O<|Y X X (zx X)<|U<|M<|zA<|zk<|zi Tryz.results199 ?_
     refine ⟨h9, _, rfl, st11.done, ?_⟩
     refine zW ?_
     all_goals (unfold cmpI; repeat' split)
     all_goals (first | omega | simp_all | rfl)
    ·
     replace c17 := of_decide_eq_false c17
     refine zz<|M<|zd<|O<|Y X X (zx X)<|U<|M<|zA<|zi Tryz.results199 ?_
     refine ⟨h9, _, rfl, st11.done, ?_⟩
     refine zW ?_
     all_goals (unfold cmpI; repeat' split)
     all_goals (first | omega | simp_all | rfl)
set_option maxRecDepth 4000 in
theorem c_slices_Compare_Lint_int {h : Heap} {w : World} (hs : Sub h w) {a_v : Value} {a : (List Int)} (a_f : Sl LInt h a_v a) {b_v : Value} {b : (List Int)} (b_f : Sl LInt h b_v b) : Calls Tryz.prog 195 #[a_v, b_v] w (Rets h w (fun _ _ res_ => res_ = .int .i64 (cmpL a b))) := by
 refine zM (n := 36) (args := [a_v, b_v]) Tryz.func195 X X X ?_
 have st0 : St h w h w [] := St.start hs
 have a_f_b := a_f.le
 have b_f_b := b_f.le
 refine zd<|O<|Y X X (zx X)<|U<|M<|zd<|zd<|O<|Y X X (zy (v := a_v) X)<|Y X X (zag a_f X Tryz.underlying39)<|Y X X (zo X)<|U<|M<|zF ?_
 refine zX [4, 5, 6, 7, 8, 11, 12, 13, 14, 15, 16, 17, 18, 19, 20, 21, 22, 23, 24, 25, 26, 27, 28, 29, 30] (G := Nat × Heap) (fun ⟨k, h1⟩ => [(11, .int .i64 (k : Int))]) (fun ⟨k, h1⟩ w' => Le h h1 ∧ St h w h1 w' [] ∧ (k ≤ a.length) ∧ (k ≤ b.length) ∧ (cmpL a b = cmpL (a.drop k) (b.drop k))) (fun ⟨k, h1⟩ => a.length - k) ⟨0, h⟩ ⟨rfl, trivial⟩ ⟨Le.refl _, st0, zak, zak, (by rfl)⟩ ?_
 rintro ⟨k, h1⟩ _ w4 ⟨le2, st3, hk, hkb, he⟩
 refine zd<|O<|Y X X (zal X X)<|U<|M<|zd ?_
 refine zt rfl (fun c5 => ?_) (fun c5 => ?_)
 ·
  replace c5 := of_decide_eq_true c5
  refine zz<|M<|zd<|zF<|zd<|O<|Y X X (zo X) ?_
  have hx : ∃ y_, (a)[k]? = some y_ := ⟨_, List.getElem?_eq_getElem (by omega)⟩
  obtain ⟨x, hx⟩ := hx
  obtain ⟨b6, o7, _, he9, hc8, hr_x⟩ := Sl.elem (a_f.up le2) hx
  obtain rfl := hr_x
  refine Y X X (zp he9 X X (hk := X) (hu := Tryz.underlying39) (hz := Tryz.sizeOf3))<|Y X X (zb (j := 0) st3.sub hc8 X X X Tryz.isAgg3)<|Y X X (zx X)<|Y X X (zx X)<|U<|M<|zd<|zd<|O<|Y X X (zo X)<|Y X X (zy (v := b_v) X)<|Y X X (zag (b_f.up le2) X Tryz.underlying39)<|Y X X (r_geq X X)<|U<|M ?_
  refine zt rfl (fun c10 => ?_) (fun c10 => ?_)
  ·
   replace c10 := of_decide_eq_true c10
   refine zd<|O<|Y X X (zx X)<|U<|M<|zA<|zk<|zL<|zk<|zk<|zL<|zk<|zi Tryz.results195 ?_
   refine ⟨h1, _, rfl, st3.done, ?_⟩
   refine zW ?_
   rw [he, cmpL_cons_nil (List.drop_eq_nil_of_le (by omega)) (by intro q; have := List.drop_eq_nil_iff.1 q; omega)]
  ·
   replace c10 := of_decide_eq_false c10
   refine zz<|M<|zd<|O<|Y X X (zy (v := b_v) X)<|Y X X (zo X) ?_
   have hy : ∃ y_, (b)[k]? = some y_ := ⟨_, List.getElem?_eq_getElem (by omega)⟩
   obtain ⟨y, hy⟩ := hy
   obtain ⟨b11, o12, _, he14, hc13, hr_y⟩ := Sl.elem (b_f.up le2) hy
   obtain rfl := hr_y
   refine Y X X (zp he14 X X (hk := X) (hu := Tryz.underlying39) (hz := Tryz.sizeOf3))<|Y X X (zb (j := 0) st3.sub hc13 X X X Tryz.isAgg3)<|Y X X (zx X)<|U<|M<|zd<|O<|Y X X (zo X)<|Y X X (zo X)<|zm st3 X X X Tryz.call199 X (c_cmp_Compare_int st3.sub _ _) ?_
   intro r15 w16 h17 le18 st19 q20
   obtain rfl := q20
   refine Y X X (zx X)<|U<|M<|zd<|O<|Y X X (zo X)<|Y X X (r_neq X X)<|U<|M ?_
   refine zt rfl (fun c21 => ?_) (fun c21 => ?_)
   ·
    replace c21 := of_decide_eq_true c21
    refine zd<|O<|Y X X (zo X)<|Y X X (zx X)<|U<|M<|zA<|zL<|zk<|zk<|zL<|zk<|zi Tryz.results195 ?_
    refine ⟨h17, _, rfl, st19.done, ?_⟩
    refine zW ?_
    rw [he, cmpL_step hx hy, if_pos (by simpa using c21)]
   ·
    replace c21 := of_decide_eq_false c21
    refine zz<|zI<|M<|O<|Y X X (zah X X t_om)<|Y X X (zo X)<|U<|M ?_
    refine ⟨⟨k + 1, h17⟩, ⟨rfl, trivial⟩, ?_, ⟨(le2.trans le18), st19, ?_, ?_, ?_⟩, ?_⟩
    ·exact zae
    ·first | omega | (simp; omega)
    ·have := (List.getElem?_eq_some_iff.1 hy).1; omega
    ·rw [he, cmpL_step hx hy, if_neg (by simpa using c21)]
    ·show a.length - ((k + 1)) < a.length - k
     omega
 ·
  replace c5 := of_decide_eq_false c5
  refine zab<|zn<|zn<|zT<|M<|zd<|zd<|O<|Y X X (zy (v := a_v) X)<|Y X X (zag (a_f.up le2) X Tryz.underlying39)<|Y X X (zy (v := b_v) X)<|Y X X (zag (b_f.up le2) X Tryz.underlying39)<|Y X X (zal X X)<|U<|M ?_
  refine zt rfl (fun c22 => ?_) (fun c22 => ?_)
  ·
   replace c22 := of_decide_eq_true c22
   refine zd<|O<|Y X X (zx X)<|U<|M<|zA<|zk<|zi Tryz.results195 ?_
   refine ⟨h1, _, rfl, st3.done, ?_⟩
   refine zW ?_
   rw [he, cmpL_nil_cons (List.drop_eq_nil_of_le (by omega)) (by intro q; have := List.drop_eq_nil_iff.1 q; omega)]
  ·
   replace c22 := of_decide_eq_false c22
   refine zz<|M<|zd<|O<|Y X X (zx X)<|U<|M<|zA<|zi Tryz.results195 ?_
   refine ⟨h1, _, rfl, st3.done, ?_⟩
   refine zW ?_
   rw [he, List.drop_eq_nil_of_le (by omega), List.drop_eq_nil_of_le (by omega)]; rfl
set_option maxRecDepth 4000 in
theorem c_stem_order {h : Heap} {w : World} (hs : Sub h w) {a : Place} {b : Place} : Calls Tryz.prog 182 #[.agg #[.int .i64 a.chapter, .int .i64 a.line, .int .i64 a.word], .agg #[.int .i64 b.chapter, .int .i64 b.line, .int .i64 b.word]] w (Rets h w (fun _ _ res_ => res_ = .int .i64 (ordI a b))) := by
 refine zM (n := 24) (args := [.agg #[.int .i64 a.chapter, .int .i64 a.line, .int .i64 a.word], .agg #[.int .i64 b.chapter, .int .i64 b.line, .int .i64 b.word]]) Tryz.func182 X X X ?_
 have st0 : St h w h w [] := St.start hs
 refine zd<|O<|zr st0 (cs := [.int .i64 (a.chapter), .int .i64 (a.line), .int .i64 (a.word)]) X X X ?_
 intro b1 w2 h3 le4 hc5 st6
 refine zr st6 (cs := [.int .i64 (b.chapter), .int .i64 (b.line), .int .i64 (b.word)]) X X X ?_
 intro b7 w8 h9 le10 hc11 st12
 refine Y X X (zx X)<|U<|M<|zd<|zaa (er := ([], [], [], [], 0)) (dsts := [7, 8, 9, 10, 11, 12, 13, 14, 15, 16, 17, 18, 19, 20, 5, 6]) st12 Tryz.mixed<|zh 0 [] X t_kr t_kr X X (fun hD wD τD hL hS hO  => (zc X Tryz.underlying52 X Tryz.sizeOf3 X))<|zh 1 [0] X t_kr t_kr X X (fun hD wD τD hL hS hO _ _ => (zb (j := 0) (hL.sub hS) (hc5.up le10) X X X Tryz.isAgg3))<|zh 2 [] X t_kr t_kr X X (fun hD wD τD hL hS hO  => (zc X Tryz.underlying52 X Tryz.sizeOf3 X))<|zh 3 [0] X t_kr t_kr X X (fun hD wD τD hL hS hO _ _ => (zb (j := 1) (hL.sub hS) (hc5.up le10) X X X Tryz.isAgg3))<|zh 4 [] X t_kr t_kr X X (fun hD wD τD hL hS hO  => (zc X Tryz.underlying52 X Tryz.sizeOf3 X))<|zh 5 [0] X t_kr t_kr X X (fun hD wD τD hL hS hO _ _ => (zb (j := 2) (hL.sub hS) (hc5.up le10) X X X Tryz.isAgg3))<|zh 6 [4, 2, 0] X t_kr t_kr X X (fun hD wD τD hL hS hO _ _ _ _ _ _ => (r_build (cs := [.int .i64 (a.chapter), .int .i64 (a.line), .int .i64 (a.word)]) t_kr))<|zh 7 [] X t_kr t_kr X X (fun hD wD τD hL hS hO  => (zc X Tryz.underlying52 X Tryz.sizeOf3 X))<|zh 8 [0] X t_kr t_kr X X (fun hD wD τD hL hS hO _ _ => (zb (j := 0) (hL.sub hS) hc11 X X X Tryz.isAgg3))<|zh 9 [] X t_kr t_kr X X (fun hD wD τD hL hS hO  => (zc X Tryz.underlying52 X Tryz.sizeOf3 X))<|zh 10 [0] X t_kr t_kr X X (fun hD wD τD hL hS hO _ _ => (zb (j := 1) (hL.sub hS) hc11 X X X Tryz.isAgg3))<|zh 11 [] X t_kr t_kr X X (fun hD wD τD hL hS hO  => (zc X Tryz.underlying52 X Tryz.sizeOf3 X))<|zh 12 [0] X t_kr t_kr X X (fun hD wD τD hL hS hO _ _ => (zb (j := 2) (hL.sub hS) hc11 X X X Tryz.isAgg3))<|zh 13 [4, 2, 0] X t_kr t_kr X X (fun hD wD τD hL hS hO _ _ _ _ _ _ => (r_build (cs := [.int .i64 (b.chapter), .int .i64 (b.line), .int .i64 (b.word)]) t_kr))<|Drw.al Tryz.zeroValue246 X<|Drw.al Tryz.zeroValue246 X<|zaf<|zaf<|zan X X X X X X ⟨t_kr, X, t_kr, X, t_kr, X, X, t_kr, (zY X (zY X cx_nil))⟩ ?_
 intro b13
 intro b14
 intro hE16 w17 _ le18 st19 _ _ _ _ _ _ _ _ _ _ _ _ _ _
 refine zB st19 (k := 0) X X X (zg X (zg X (zg X zU))) Tryz.sizeOf246 X X X ?_
 intro w20 st21
 obtain ⟨h22, le23, hb24, st26⟩ := st21.freeze (k := 0) rfl
 have hc25 := Cells.of hb24
 refine U ⟨undef, rfl, _, _, le23, st26, ?_⟩
 intro hE28 w29 _ le30 st31 _ _ _ _ _ _ _ _ _ _ _ _ _ _ _ _ _ _ _ _ _ _ _ _ _ _ _ _
 refine zB st31 (k := 1) X X X (zg X (zg X (zg X zU))) Tryz.sizeOf246 X X X ?_
 intro w32 st33
 obtain ⟨h34, le35, hb36, st38⟩ := st33.freeze (k := 1) rfl
 have hc37 := Cells.of hb36
 refine U ⟨undef, rfl, _, _, le35, st38, ?_⟩
 intro hE39 w40 _ le41 st42 _ _ _ _ _ _ _ _ _ _ _ _ _ _ _ _ _ _ _ _ _ _ _ _ _ _ _ _
 refine AllDeps.fin X<|M<|zd<|zai Tryz.mixed t_kr (Cls hE39 _) (Cls.drew st42) ?_
 have fa45 := Sl.ofCells (L := LInt) (xs := [(a.chapter), (a.line), (a.word)]) hc25 (Enc.cons (L := LInt) (vs := [.int .i64 (a.chapter)]) (x := (a.chapter)) (h := h22) (rfl) (Enc.cons (L := LInt) (vs := [.int .i64 (a.line)]) (x := (a.line)) (h := h22) (rfl) (Enc.cons (L := LInt) (vs := [.int .i64 (a.word)]) (x := (a.word)) (h := h22) (rfl) Enc.nil))) (by simp [big])
 refine ze X X (fun _ _ => (r_slice_arr X Tryz.underlying246 Tryz.sizeOf3)) ?_
 have fa47 := Sl.ofCells (L := LInt) (xs := [(b.chapter), (b.line), (b.word)]) hc37 (Enc.cons (L := LInt) (vs := [.int .i64 (b.chapter)]) (x := (b.chapter)) (h := h34) (rfl) (Enc.cons (L := LInt) (vs := [.int .i64 (b.line)]) (x := (b.line)) (h := h34) (rfl) (Enc.cons (L := LInt) (vs := [.int .i64 (b.word)]) (x := (b.word)) (h := h34) (rfl) Enc.nil))) (by simp [big])
 refine ze X X (fun _ _ => (r_slice_arr X Tryz.underlying246 Tryz.sizeOf3))<|OpsQ.calls X X (fun _ => zaj X Tryz.call195 X) (fun _ hC => Rets.quiet hC (c_slices_Compare_Lint_int hC.sub (fa45.up ((le30.trans le35).trans le41)) (fa47.up le41)))<|ze X X (fun _ _ => (zx X))<|zac ?_
 rintro w48 ⟨h49, s50⟩
 have st51 := st42.call0 s50
 refine M<|zA<|zi Tryz.results182 ?_
 refine ⟨h49, _, rfl, st51.done, ?_⟩
 refine zW ?_
 rfl
set_option maxRecDepth 4000 in
theorem c_stem_first {h : Heap} {w : World} (hs : Sub h w) {a : Decision} (a_l2 : 0 ≤ a.kind ∧ a.kind ≤ 255) (a_l3 : a.form.length ≤ 281474976710656) (a_l7 : a.to.stem.length ≤ 281474976710656) (a_l8 : 0 ≤ a.to.mark ∧ a.to.mark ≤ 255) {b : Decision} (b_l2 : 0 ≤ b.kind ∧ b.kind ≤ 255) (b_l3 : b.form.length ≤ 281474976710656) (b_l7 : b.to.stem.length ≤ 281474976710656) (b_l8 : 0 ≤ b.to.mark ∧ b.to.mark ≤ 255) (ha : 0 ≤ a.number ∧ a.number ≤ 999) (hb : 0 ≤ b.number ∧ b.number ≤ 999) : Calls Tryz.prog 141 #[.agg #[.int .i64 a.number, .int .u8 a.kind, strV a.form, .int .i64 a.at_.chapter, .int .i64 a.at_.line, .int .i64 a.at_.word, strV a.to.stem, .int .u8 a.to.mark, .int .i64 a.of_], .agg #[.int .i64 b.number, .int .u8 b.kind, strV b.form, .int .i64 b.at_.chapter, .int .i64 b.at_.line, .int .i64 b.at_.word, strV b.to.stem, .int .u8 b.to.mark, .int .i64 b.of_]] w (Rets h w (fun _ _ res_ => res_ = .int .i64 (firstI a b))) := by
 refine zM (n := 39) (args := [.agg #[.int .i64 a.number, .int .u8 a.kind, strV a.form, .int .i64 a.at_.chapter, .int .i64 a.at_.line, .int .i64 a.at_.word, strV a.to.stem, .int .u8 a.to.mark, .int .i64 a.of_], .agg #[.int .i64 b.number, .int .u8 b.kind, strV b.form, .int .i64 b.at_.chapter, .int .i64 b.at_.line, .int .i64 b.at_.word, strV b.to.stem, .int .u8 b.to.mark, .int .i64 b.of_]]) Tryz.func141 X X X ?_
 have st0 : St h w h w [] := St.start hs
 refine zd<|O<|zr st0 (cs := [.int .i64 (a.number), .int .u8 (a.kind), strV (a.form), .int .i64 (a.at_.chapter), .int .i64 (a.at_.line), .int .i64 (a.at_.word), strV (a.to.stem), .int .u8 (a.to.mark), .int .i64 (a.of_)]) X X X ?_
 intro b1 w2 h3 le4 hc5 st6
 refine zr st6 (cs := [.int .i64 (b.number), .int .u8 (b.kind), strV (b.form), .int .i64 (b.at_.chapter), .int .i64 (b.at_.line), .int .i64 (b.at_.word), strV (b.to.stem), .int .u8 (b.to.mark), .int .i64 (b.of_)]) X X X ?_
 intro b7 w8 h9 le10 hc11 st12
 refine Y X X (zx X)<|U<|M<|zd<|zF<|zd<|O<|Y X X (zc X Tryz.underlying56 X Tryz.sizeOf5 X)<|Y X X (zb (j := 1) st12.sub (hc5.up le10) X X X Tryz.isAgg5)<|Y X X (zc X Tryz.underlying56 X Tryz.sizeOf5 X)<|Y X X (zb (j := 1) st12.sub hc11 X X X Tryz.isAgg5)<|Y X X (r_neq X X)<|Y X X (zJ X)<|U<|M ?_
 refine zt rfl (fun c13 => ?_) (fun c13 => ?_)
 ·
  replace c13 := of_decide_eq_true c13
  refine zd<|O<|Y X X (zc X Tryz.underlying56 X Tryz.sizeOf5 X)<|Y X X (zb (j := 1) st12.sub (hc5.up le10) X X X Tryz.isAgg5) ?_
  refine Y rfl rfl (r_conv_int rfl rfl Tryz.underlying3 (IntWalk.i64_in _ (by omega))) ?_
  refine Y X X (zc X Tryz.underlying56 X Tryz.sizeOf5 X)<|Y X X (zb (j := 1) st12.sub hc11 X X X Tryz.isAgg5) ?_
  refine Y rfl rfl (r_conv_int rfl rfl Tryz.underlying3 (IntWalk.i64_in _ (by omega))) ?_
  refine Y X X (r_sub X X t_om)<|Y X X (zx X)<|U<|M<|zA<|zL<|zk<|zi Tryz.results141 ?_
  refine ⟨h9, _, rfl, st12.done, ?_⟩
  refine zW ?_
  simp_all [firstI]
 ·
  replace c13 := of_decide_eq_false c13
  refine zd<|O<|Y X X (zc X Tryz.underlying56 X Tryz.sizeOf5 X)<|Y X X (zb (j := 1) st12.sub (hc5.up le10) X X X Tryz.isAgg5)<|Y X X (r_eql X X)<|Y X X (zN X) ?_
  refine zG (d := 22) rfl (fun g14 => ?_) (fun g14 => ?_)
  ·
   replace g14 := of_decide_eq_true g14
   refine za X X (d := 22) X<|Y X X (zc X Tryz.underlying56 X Tryz.sizeOf52 X)<|za X X (d := 22) X<|Y X X (zR (j := 3) st12.sub (hc5.up le10) (us := [.int .i64 (a.at_.chapter), .int .i64 (a.at_.line), .int .i64 (a.at_.word)]) X X Tryz.isAgg52 Tryz.sizeOf52 X X)<|za X X (d := 22) X<|Y X X (zc X Tryz.underlying56 X Tryz.sizeOf52 X)<|za X X (d := 22) X<|Y X X (zR (j := 3) st12.sub hc11 (us := [.int .i64 (b.at_.chapter), .int .i64 (b.at_.line), .int .i64 (b.at_.word)]) X X Tryz.isAgg52 Tryz.sizeOf52 X X)<|za X X (d := 22) X<|Y X X (r_stneq X X Tryz.eqGuardType52 (Tryz.eq_Place a.at_ b.at_))<|Y X X (zK (v := (.bool _)) X X)<|Y X X (zJ X)<|U<|M ?_
   refine zt rfl (fun c15 => ?_) (fun c15 => ?_)
   ·
    replace c15 := of_decide_eq_true c15
    refine zd<|O<|Y X X (zc X Tryz.underlying56 X Tryz.sizeOf52 X)<|Y X X (zR (j := 3) st12.sub (hc5.up le10) (us := [.int .i64 (a.at_.chapter), .int .i64 (a.at_.line), .int .i64 (a.at_.word)]) X X Tryz.isAgg52 Tryz.sizeOf52 X X)<|Y X X (zc X Tryz.underlying56 X Tryz.sizeOf52 X)<|Y X X (zR (j := 3) st12.sub hc11 (us := [.int .i64 (b.at_.chapter), .int .i64 (b.at_.line), .int .i64 (b.at_.word)]) X X Tryz.isAgg52 Tryz.sizeOf52 X X)<|zm st12 X X X Tryz.call182 X (c_stem_order st12.sub (a := a.at_) (b := b.at_)) ?_
    intro r16 w17 h18 le19 st20 q21
    obtain rfl := q21
    refine Y X X (zx X)<|U<|M<|zA<|zL<|zk<|zi Tryz.results141 ?_
    refine ⟨h18, _, rfl, st20.done, ?_⟩
    refine zW ?_
    simp_all [firstI]
   ·
    replace c15 := of_decide_eq_false c15
    refine zz<|zI<|M<|zd<|O<|Y X X (zc X Tryz.underlying56 X Tryz.sizeOf3 X)<|Y X X (zb (j := 0) st12.sub (hc5.up le10) X X X Tryz.isAgg3)<|Y X X (zc X Tryz.underlying56 X Tryz.sizeOf3 X)<|Y X X (zb (j := 0) st12.sub hc11 X X X Tryz.isAgg3)<|Y X X (r_sub X X t_om)<|Y X X (zx X)<|U<|M<|zA<|zi Tryz.results141 ?_
    refine ⟨h9, _, rfl, st12.done, ?_⟩
    refine zW ?_
    simp_all [firstI]
  ·
   replace g14 := of_decide_eq_false g14
   refine E X X (d := 22) X X X<|E X X (d := 22) X X X<|E X X (d := 22) X X X<|E X X (d := 22) X X X<|E X X (d := 22) X X X<|Y X X (zC (v := (.bool _)) X X)<|Y X X (zJ X)<|U<|M ?_
   refine zt rfl (fun c22 => ?_) (fun c22 => ?_)
   ·
    cases c22
   ·
    refine zz<|zI<|M<|zd<|O<|Y X X (zc X Tryz.underlying56 X Tryz.sizeOf3 X)<|Y X X (zb (j := 0) st12.sub (hc5.up le10) X X X Tryz.isAgg3)<|Y X X (zc X Tryz.underlying56 X Tryz.sizeOf3 X)<|Y X X (zb (j := 0) st12.sub hc11 X X X Tryz.isAgg3)<|Y X X (r_sub X X t_om)<|Y X X (zx X)<|U<|M<|zA<|zi Tryz.results141 ?_
    refine ⟨h9, _, rfl, st12.done, ?_⟩
    refine zW ?_
    simp_all [firstI]
set_option maxRecDepth 4000 in
theorem c_stem_kinds_1 {h : Heap} {w : World} (hs : Sub h w) {d : Decision} (d_l2 : 0 ≤ d.kind ∧ d.kind ≤ 255) (d_l3 : d.form.length ≤ 281474976710656) (d_l7 : d.to.stem.length ≤ 281474976710656) (d_l8 : 0 ≤ d.to.mark ∧ d.to.mark ≤ 255) {p : Place} (wd : Str) (wd_le : wd.length ≤ 281474976710656) : Calls Tryz.prog 218 #[.agg #[.int .i64 d.number, .int .u8 d.kind, strV d.form, .int .i64 d.at_.chapter, .int .i64 d.at_.line, .int .i64 d.at_.word, strV d.to.stem, .int .u8 d.to.mark, .int .i64 d.of_], .agg #[.int .i64 p.chapter, .int .i64 p.line, .int .i64 p.word], strV wd] w (Rets h w (fun _ _ res_ => res_ = .bool (decide (d.form = wd)))) := by
 refine zM (n := 11) (args := [.agg #[.int .i64 d.number, .int .u8 d.kind, strV d.form, .int .i64 d.at_.chapter, .int .i64 d.at_.line, .int .i64 d.at_.word, strV d.to.stem, .int .u8 d.to.mark, .int .i64 d.of_], .agg #[.int .i64 p.chapter, .int .i64 p.line, .int .i64 p.word], strV wd]) Tryz.func218 X X X ?_
 have st0 : St h w h w [] := St.start hs
 refine zd<|O<|zr st0 (cs := [.int .i64 (d.number), .int .u8 (d.kind), strV (d.form), .int .i64 (d.at_.chapter), .int .i64 (d.at_.line), .int .i64 (d.at_.word), strV (d.to.stem), .int .u8 (d.to.mark), .int .i64 (d.of_)]) X X X ?_
 intro b1 w2 h3 le4 hc5 st6
 refine zr st6 (cs := [.int .i64 (p.chapter), .int .i64 (p.line), .int .i64 (p.word)]) X X X ?_
 intro b7 w8 h9 le10 hc11 st12
 refine Y X X (zJ X)<|U<|M<|zd<|O<|Y X X (zc X Tryz.underlying56 X Tryz.sizeOf9 X)<|Y X X (zb (j := 2) st12.sub (hc5.up le10) X X X Tryz.isAgg9)<|Y X X (r_mvS X)<|Y X X (r_seql X X)<|Y X X (zJ X)<|U<|M<|zA<|zi Tryz.results218 ?_
 refine ⟨h9, _, rfl, st12.done, ?_⟩
 refine zw ?_
 rfl
set_option maxRecDepth 4000 in
theorem c_stem_kinds_2 {h : Heap} {w : World} (hs : Sub h w) {d : Decision} (d_l2 : 0 ≤ d.kind ∧ d.kind ≤ 255) (d_l3 : d.form.length ≤ 281474976710656) (d_l7 : d.to.stem.length ≤ 281474976710656) (d_l8 : 0 ≤ d.to.mark ∧ d.to.mark ≤ 255) {p : Place} (wd : Str) (wd_le : wd.length ≤ 281474976710656) : Calls Tryz.prog 219 #[.agg #[.int .i64 d.number, .int .u8 d.kind, strV d.form, .int .i64 d.at_.chapter, .int .i64 d.at_.line, .int .i64 d.at_.word, strV d.to.stem, .int .u8 d.to.mark, .int .i64 d.of_], .agg #[.int .i64 p.chapter, .int .i64 p.line, .int .i64 p.word], strV wd] w (Rets h w (fun _ _ res_ => res_ = .bool ((decide (d.form = wd) && decide (ordI d.at_ p ≤ 0))))) := by
 refine zM (n := 18) (args := [.agg #[.int .i64 d.number, .int .u8 d.kind, strV d.form, .int .i64 d.at_.chapter, .int .i64 d.at_.line, .int .i64 d.at_.word, strV d.to.stem, .int .u8 d.to.mark, .int .i64 d.of_], .agg #[.int .i64 p.chapter, .int .i64 p.line, .int .i64 p.word], strV wd]) Tryz.func219 X X X ?_
 have st0 : St h w h w [] := St.start hs
 refine zd<|O<|zr st0 (cs := [.int .i64 (d.number), .int .u8 (d.kind), strV (d.form), .int .i64 (d.at_.chapter), .int .i64 (d.at_.line), .int .i64 (d.at_.word), strV (d.to.stem), .int .u8 (d.to.mark), .int .i64 (d.of_)]) X X X ?_
 intro b1 w2 h3 le4 hc5 st6
 refine zr st6 (cs := [.int .i64 (p.chapter), .int .i64 (p.line), .int .i64 (p.word)]) X X X ?_
 intro b7 w8 h9 le10 hc11 st12
 refine Y X X (zJ X)<|U<|M<|zd<|O<|Y X X (zc X Tryz.underlying56 X Tryz.sizeOf9 X)<|Y X X (zb (j := 2) st12.sub (hc5.up le10) X X X Tryz.isAgg9)<|Y X X (r_mvS X)<|Y X X (r_seql X X)<|Y X X (zN X) ?_
 refine zG (d := 11) rfl (fun g13 => ?_) (fun g13 => ?_)
 ·
  replace g13 := of_decide_eq_true g13
  refine za X X (d := 11) X<|Y X X (zc X Tryz.underlying56 X Tryz.sizeOf52 X)<|za X X (d := 11) X<|Y X X (zR (j := 3) st12.sub (hc5.up le10) (us := [.int .i64 (d.at_.chapter), .int .i64 (d.at_.line), .int .i64 (d.at_.word)]) X X Tryz.isAgg52 Tryz.sizeOf52 X X)<|za X X (d := 11) X<|Y X X (zf st12.sub hc11 X Tryz.isAgg52 Tryz.sizeOf52 X)<|za X X (d := 11) X<|zm st12 X X X Tryz.call182 X (c_stem_order st12.sub (a := d.at_) (b := p)) ?_
  intro r14 w15 h16 le17 st18 q19
  obtain rfl := q19
  refine za X X (d := 11) X<|Y X X (r_leq X X)<|Y X X (zK (v := (.bool _)) X X)<|Y X X (zJ X)<|U<|M<|zA<|zi Tryz.results219 ?_
  refine ⟨h16, _, rfl, st18.done, ?_⟩
  refine zw ?_
  simp_all
 ·
  replace g13 := of_decide_eq_false g13
  refine E X X (d := 11) X X X<|E X X (d := 11) X X X<|E X X (d := 11) X X X<|E X X (d := 11) X X X<|E X X (d := 11) X X X<|Y X X (zC (v := (.bool _)) X X)<|Y X X (zJ X)<|U<|M<|zA<|zi Tryz.results219 ?_
  refine ⟨h9, _, rfl, st12.done, ?_⟩
  refine zw ?_
  simp_all
set_option maxRecDepth 4000 in
theorem c_stem_kinds_3 {h : Heap} {w : World} (hs : Sub h w) {d : Decision} (d_l2 : 0 ≤ d.kind ∧ d.kind ≤ 255) (d_l3 : d.form.length ≤ 281474976710656) (d_l7 : d.to.stem.length ≤ 281474976710656) (d_l8 : 0 ≤ d.to.mark ∧ d.to.mark ≤ 255) {p : Place} (wd : Str) (wd_le : wd.length ≤ 281474976710656) : Calls Tryz.prog 220 #[.agg #[.int .i64 d.number, .int .u8 d.kind, strV d.form, .int .i64 d.at_.chapter, .int .i64 d.at_.line, .int .i64 d.at_.word, strV d.to.stem, .int .u8 d.to.mark, .int .i64 d.of_], .agg #[.int .i64 p.chapter, .int .i64 p.line, .int .i64 p.word], strV wd] w (Rets h w (fun _ _ res_ => res_ = .bool (decide (d.at_ = p)))) := by
 refine zM (n := 11) (args := [.agg #[.int .i64 d.number, .int .u8 d.kind, strV d.form, .int .i64 d.at_.chapter, .int .i64 d.at_.line, .int .i64 d.at_.word, strV d.to.stem, .int .u8 d.to.mark, .int .i64 d.of_], .agg #[.int .i64 p.chapter, .int .i64 p.line, .int .i64 p.word], strV wd]) Tryz.func220 X X X ?_
 have st0 : St h w h w [] := St.start hs
 refine zd<|O<|zr st0 (cs := [.int .i64 (d.number), .int .u8 (d.kind), strV (d.form), .int .i64 (d.at_.chapter), .int .i64 (d.at_.line), .int .i64 (d.at_.word), strV (d.to.stem), .int .u8 (d.to.mark), .int .i64 (d.of_)]) X X X ?_
 intro b1 w2 h3 le4 hc5 st6
 refine zr st6 (cs := [.int .i64 (p.chapter), .int .i64 (p.line), .int .i64 (p.word)]) X X X ?_
 intro b7 w8 h9 le10 hc11 st12
 refine Y X X (zJ X)<|U<|M<|zd<|O<|Y X X (zc X Tryz.underlying56 X Tryz.sizeOf52 X)<|Y X X (zR (j := 3) st12.sub (hc5.up le10) (us := [.int .i64 (d.at_.chapter), .int .i64 (d.at_.line), .int .i64 (d.at_.word)]) X X Tryz.isAgg52 Tryz.sizeOf52 X X)<|Y X X (zf st12.sub hc11 X Tryz.isAgg52 Tryz.sizeOf52 X)<|Y X X (r_steql X X Tryz.eqGuardType52 (Tryz.eq_Place d.at_ p))<|Y X X (zJ X)<|U<|M<|zA<|zi Tryz.results220 ?_
 refine ⟨h9, _, rfl, st12.done, ?_⟩
 refine zw ?_
 rfl
set_option maxRecDepth 4000 in
theorem c_stem_kinds_4 {h : Heap} {w : World} (hs : Sub h w) {d : Decision} (d_l2 : 0 ≤ d.kind ∧ d.kind ≤ 255) (d_l3 : d.form.length ≤ 281474976710656) (d_l7 : d.to.stem.length ≤ 281474976710656) (d_l8 : 0 ≤ d.to.mark ∧ d.to.mark ≤ 255) {p : Place} (wd : Str) (wd_le : wd.length ≤ 281474976710656) : Calls Tryz.prog 221 #[.agg #[.int .i64 d.number, .int .u8 d.kind, strV d.form, .int .i64 d.at_.chapter, .int .i64 d.at_.line, .int .i64 d.at_.word, strV d.to.stem, .int .u8 d.to.mark, .int .i64 d.of_], .agg #[.int .i64 p.chapter, .int .i64 p.line, .int .i64 p.word], strV wd] w (Rets h w (fun _ _ res_ => res_ = .bool (false))) := by
 refine zM (n := 7) (args := [.agg #[.int .i64 d.number, .int .u8 d.kind, strV d.form, .int .i64 d.at_.chapter, .int .i64 d.at_.line, .int .i64 d.at_.word, strV d.to.stem, .int .u8 d.to.mark, .int .i64 d.of_], .agg #[.int .i64 p.chapter, .int .i64 p.line, .int .i64 p.word], strV wd]) Tryz.func221 X X X ?_
 have st0 : St h w h w [] := St.start hs
 refine zd<|O<|zr st0 (cs := [.int .i64 (d.number), .int .u8 (d.kind), strV (d.form), .int .i64 (d.at_.chapter), .int .i64 (d.at_.line), .int .i64 (d.at_.word), strV (d.to.stem), .int .u8 (d.to.mark), .int .i64 (d.of_)]) X X X ?_
 intro b1 w2 h3 le4 hc5 st6
 refine zr st6 (cs := [.int .i64 (p.chapter), .int .i64 (p.line), .int .i64 (p.word)]) X X X ?_
 intro b7 w8 h9 le10 hc11 st12
 refine Y X X (zJ X)<|U<|M<|zd<|O<|Y X X (zJ X)<|U<|M<|zA<|zi Tryz.results221 ?_
 refine ⟨h9, _, rfl, st12.done, ?_⟩
 refine zw ?_
 rfl
set_option maxRecDepth 4000 in
theorem c_stem_Add_1 {h : Heap} {w : World} (hs : Sub h w) {a : Decision} (a_l2 : 0 ≤ a.kind ∧ a.kind ≤ 255) (a_l3 : a.form.length ≤ 281474976710656) (a_l7 : a.to.stem.length ≤ 281474976710656) (a_l8 : 0 ≤ a.to.mark ∧ a.to.mark ≤ 255) {b : Decision} (b_l2 : 0 ≤ b.kind ∧ b.kind ≤ 255) (b_l3 : b.form.length ≤ 281474976710656) (b_l7 : b.to.stem.length ≤ 281474976710656) (b_l8 : 0 ≤ b.to.mark ∧ b.to.mark ≤ 255) (ha : 1 ≤ a.number ∧ a.number ≤ 999) (hb : 1 ≤ b.number ∧ b.number ≤ 999) : Calls Tryz.prog 70 #[.agg #[.int .i64 a.number, .int .u8 a.kind, strV a.form, .int .i64 a.at_.chapter, .int .i64 a.at_.line, .int .i64 a.at_.word, strV a.to.stem, .int .u8 a.to.mark, .int .i64 a.of_], .agg #[.int .i64 b.number, .int .u8 b.kind, strV b.form, .int .i64 b.at_.chapter, .int .i64 b.at_.line, .int .i64 b.at_.word, strV b.to.stem, .int .u8 b.to.mark, .int .i64 b.of_]] w (Rets h w (fun _ _ res_ => res_ = .int .i64 (a.number - b.number))) := by
 refine zM (n := 10) (args := [.agg #[.int .i64 a.number, .int .u8 a.kind, strV a.form, .int .i64 a.at_.chapter, .int .i64 a.at_.line, .int .i64 a.at_.word, strV a.to.stem, .int .u8 a.to.mark, .int .i64 a.of_], .agg #[.int .i64 b.number, .int .u8 b.kind, strV b.form, .int .i64 b.at_.chapter, .int .i64 b.at_.line, .int .i64 b.at_.word, strV b.to.stem, .int .u8 b.to.mark, .int .i64 b.of_]]) Tryz.func70 X X X ?_
 have st0 : St h w h w [] := St.start hs
 refine zd<|O<|zr st0 (cs := [.int .i64 (a.number), .int .u8 (a.kind), strV (a.form), .int .i64 (a.at_.chapter), .int .i64 (a.at_.line), .int .i64 (a.at_.word), strV (a.to.stem), .int .u8 (a.to.mark), .int .i64 (a.of_)]) X X X ?_
 intro b1 w2 h3 le4 hc5 st6
 refine zr st6 (cs := [.int .i64 (b.number), .int .u8 (b.kind), strV (b.form), .int .i64 (b.at_.chapter), .int .i64 (b.at_.line), .int .i64 (b.at_.word), strV (b.to.stem), .int .u8 (b.to.mark), .int .i64 (b.of_)]) X X X ?_
 intro b7 w8 h9 le10 hc11 st12
 refine Y X X (zx X)<|U<|M<|zd<|O<|Y X X (zc X Tryz.underlying56 X Tryz.sizeOf3 X)<|Y X X (zb (j := 0) st12.sub (hc5.up le10) X X X Tryz.isAgg3)<|Y X X (zc X Tryz.underlying56 X Tryz.sizeOf3 X)<|Y X X (zb (j := 0) st12.sub hc11 X X X Tryz.isAgg3)<|Y X X (r_sub X X t_om)<|Y X X (zx X)<|U<|M<|zA<|zi Tryz.results70 ?_
 refine ⟨h9, _, rfl, st12.done, ?_⟩
 refine zW ?_
 rfl
set_option maxRecDepth 4000 in
theorem c_stem_under_1 {h : Heap} {w : World} (hs : Sub h w) {y : Entry} (y_l4 : y.word.length ≤ 281474976710656) (y_l5 : y.head.stem.length ≤ 281474976710656) (y_l6 : 0 ≤ y.head.mark ∧ y.head.mark ≤ 255) {hd_b : Nat} {hd : Head} (hd_l1 : hd.stem.length ≤ 281474976710656) (hd_l2 : 0 ≤ hd.mark ∧ hd.mark ≤ 255) (hd_c : Cells h hd_b 0 [strV (hd.stem), .int .u8 (hd.mark)]) : Calls Tryz.prog 114 #[.agg #[.int .i64 y.at_.chapter, .int .i64 y.at_.line, .int .i64 y.at_.word, strV y.word, strV y.head.stem, .int .u8 y.head.mark], .pointer (some ⟨hd_b, 0, none⟩)] w (Rets h w (fun _ _ res_ => res_ = .bool (decide (y.head ≠ hd)))) := by
 refine zM (n := 8) (args := [.agg #[.int .i64 y.at_.chapter, .int .i64 y.at_.line, .int .i64 y.at_.word, strV y.word, strV y.head.stem, .int .u8 y.head.mark], .pointer (some ⟨hd_b, 0, none⟩)]) Tryz.func114 X X X ?_
 have st0 : St h w h w [] := St.start hs
 refine zd<|O<|zr st0 (cs := [.int .i64 (y.at_.chapter), .int .i64 (y.at_.line), .int .i64 (y.at_.word), strV (y.word), strV (y.head.stem), .int .u8 (y.head.mark)]) X X X ?_
 intro b1 w2 h3 le4 hc5 st6
 refine Y X X (zJ X)<|U<|M<|zd<|O<|Y X X (zc X Tryz.underlying120 X Tryz.sizeOf54 X)<|Y X X (zR (j := 4) st6.sub hc5 (us := [strV (y.head.stem), .int .u8 (y.head.mark)]) X X Tryz.isAgg54 Tryz.sizeOf54 X X)<|Y X X (zf st6.sub (hd_c.up le4) X Tryz.isAgg54 Tryz.sizeOf54 X)<|Y X X (r_stneq X X Tryz.eqGuardType54 (Tryz.eq_Head y.head hd))<|Y X X (zJ X)<|U<|M<|zA<|zi Tryz.results114 ?_
 refine ⟨h3, _, rfl, st6.done, ?_⟩
 refine zw ?_
 rfl
end Go.Pk

namespace Go.Pk
open Go Go.RowKit Go.Proofs
set_option maxRecDepth 4000 in
theorem c_postilref04_Concerns {h : Heap} {w : World} (hs : Sub h w) {d : Decision} (d_l2 : 0 ≤ d.kind ∧ d.kind ≤ 255) (d_l3 : d.form.length ≤ 281474976710656) (d_l7 : d.to.stem.length ≤ 281474976710656) (d_l8 : 0 ≤ d.to.mark ∧ d.to.mark ≤ 255) {p : Place} (wd : Str) (wd_le : wd.length ≤ 281474976710656) : Calls Tryz.prog 109 #[.agg #[.int .i64 d.number, .int .u8 d.kind, strV d.form, .int .i64 d.at_.chapter, .int .i64 d.at_.line, .int .i64 d.at_.word, strV d.to.stem, .int .u8 d.to.mark, .int .i64 d.of_], .agg #[.int .i64 p.chapter, .int .i64 p.line, .int .i64 p.word], strV wd] w (Rets h w (fun _ _ res_ => res_ = .bool (concB d p wd))) := by
 refine zM (n := 34) (args := [.agg #[.int .i64 d.number, .int .u8 d.kind, strV d.form, .int .i64 d.at_.chapter, .int .i64 d.at_.line, .int .i64 d.at_.word, strV d.to.stem, .int .u8 d.to.mark, .int .i64 d.of_], .agg #[.int .i64 p.chapter, .int .i64 p.line, .int .i64 p.word], strV wd]) Tryz.func109 X X X ?_
 have st0 : St h w h w [] := St.start hs
 refine zd<|O<|zr st0 (cs := [.int .i64 (d.number), .int .u8 (d.kind), strV (d.form), .int .i64 (d.at_.chapter), .int .i64 (d.at_.line), .int .i64 (d.at_.word), strV (d.to.stem), .int .u8 (d.to.mark), .int .i64 (d.of_)]) X X X ?_
 intro b1 w2 h3 le4 hc5 st6
 refine zr st6 (cs := [.int .i64 (p.chapter), .int .i64 (p.line), .int .i64 (p.word)]) X X X ?_
 intro b7 w8 h9 le10 hc11 st12
 refine Y X X (zJ X)<|U<|M<|zd<|zd<|O<|Y X X (zc X Tryz.underlying56 X Tryz.sizeOf5 X)<|Y X X (zb (j := 1) st12.sub (hc5.up le10) X X X Tryz.isAgg5)<|U<|M<|zF<|zd<|O<|Y X X (r_eql X X)<|Y X X (zJ X)<|U<|M ?_
 refine zt rfl (fun c13 => ?_) (fun c13 => ?_)
 ·
  replace c13 := of_decide_eq_true c13
  refine zd<|O<|Y X X (zc X Tryz.underlying56 X Tryz.sizeOf9 X)<|Y X X (zb (j := 2) st12.sub (hc5.up le10) X X X Tryz.isAgg9)<|Y X X (r_mvS X)<|Y X X (r_seql X X)<|Y X X (zJ X)<|U<|M<|zA<|zL<|zk<|zi Tryz.results109 ?_
  refine ⟨h9, _, rfl, st12.done, ?_⟩
  refine zw ?_
  simp_all [concB]
 ·
  replace c13 := of_decide_eq_false c13
  refine zd<|O<|Y X X (r_eql X X)<|Y X X (zJ X)<|U<|M ?_
  refine zt rfl (fun c14 => ?_) (fun c14 => ?_)
  ·
   replace c14 := of_decide_eq_true c14
   refine zd<|O<|Y X X (zc X Tryz.underlying56 X Tryz.sizeOf9 X)<|Y X X (zb (j := 2) st12.sub (hc5.up le10) X X X Tryz.isAgg9)<|Y X X (r_mvS X)<|Y X X (r_seql X X)<|Y X X (zN X) ?_
   refine zG (d := 21) rfl (fun g15 => ?_) (fun g15 => ?_)
   ·
    replace g15 := of_decide_eq_true g15
    refine za X X (d := 21) X<|Y X X (zf st12.sub hc11 X Tryz.isAgg52 Tryz.sizeOf52 X)<|za X X (d := 21) X<|Y X X (zc X Tryz.underlying56 X Tryz.sizeOf52 X)<|za X X (d := 21) X<|Y X X (zR (j := 3) st12.sub (hc5.up le10) (us := [.int .i64 (d.at_.chapter), .int .i64 (d.at_.line), .int .i64 (d.at_.word)]) X X Tryz.isAgg52 Tryz.sizeOf52 X X)<|za X X (d := 21) X<|zm st12 X X X Tryz.call159 X (c_postilref01_Before st12.sub (a := p) (b := d.at_)) ?_
    intro r16 w17 h18 le19 st20 q21
    obtain rfl := q21
    refine za X X (d := 21) X<|Y X X (r_not X)<|Y X X (zK (v := (.bool _)) X X)<|Y X X (zJ X)<|U<|M<|zA<|zL<|zk<|zi Tryz.results109 ?_
    refine ⟨h18, _, rfl, st20.done, ?_⟩
    refine zw ?_
    simp_all [concB]
   ·
    replace g15 := of_decide_eq_false g15
    refine E X X (d := 21) X X X<|E X X (d := 21) X X X<|E X X (d := 21) X X X<|E X X (d := 21) X X X<|E X X (d := 21) X X X<|Y X X (zC (v := (.bool _)) X X)<|Y X X (zJ X)<|U<|M<|zA<|zL<|zk<|zi Tryz.results109 ?_
    refine ⟨h9, _, rfl, st12.done, ?_⟩
    refine zw ?_
    simp_all [concB]
  ·
   replace c14 := of_decide_eq_false c14
   refine zd<|O<|Y X X (r_eql X X)<|Y X X (zJ X)<|U<|M ?_
   refine zt rfl (fun c22 => ?_) (fun c22 => ?_)
   ·
    replace c22 := of_decide_eq_true c22
    refine zd<|O<|Y X X (zc X Tryz.underlying56 X Tryz.sizeOf52 X)<|Y X X (zR (j := 3) st12.sub (hc5.up le10) (us := [.int .i64 (d.at_.chapter), .int .i64 (d.at_.line), .int .i64 (d.at_.word)]) X X Tryz.isAgg52 Tryz.sizeOf52 X X)<|Y X X (zf st12.sub hc11 X Tryz.isAgg52 Tryz.sizeOf52 X)<|Y X X (r_steql X X Tryz.eqGuardType52 (Tryz.eq_Place d.at_ p))<|Y X X (zJ X)<|U<|M<|zA<|zL<|zk<|zi Tryz.results109 ?_
    refine ⟨h9, _, rfl, st12.done, ?_⟩
    refine zw ?_
    simp_all [concB]
   ·
    replace c22 := of_decide_eq_false c22
    refine zz<|zI<|M<|zd<|O<|Y X X (zJ X)<|U<|M<|zA<|zi Tryz.results109 ?_
    refine ⟨h9, _, rfl, st12.done, ?_⟩
    refine zw ?_
    simp_all [concB]
set_option maxRecDepth 4000 in
theorem c_postilref04_better {h : Heap} {w : World} (hs : Sub h w) {d : Decision} (d_l2 : 0 ≤ d.kind ∧ d.kind ≤ 255) (d_l3 : d.form.length ≤ 281474976710656) (d_l7 : d.to.stem.length ≤ 281474976710656) (d_l8 : 0 ≤ d.to.mark ∧ d.to.mark ≤ 255) {e : Decision} (e_l2 : 0 ≤ e.kind ∧ e.kind ≤ 255) (e_l3 : e.form.length ≤ 281474976710656) (e_l7 : e.to.stem.length ≤ 281474976710656) (e_l8 : 0 ≤ e.to.mark ∧ e.to.mark ≤ 255) : Calls Tryz.prog 110 #[.agg #[.int .i64 d.number, .int .u8 d.kind, strV d.form, .int .i64 d.at_.chapter, .int .i64 d.at_.line, .int .i64 d.at_.word, strV d.to.stem, .int .u8 d.to.mark, .int .i64 d.of_], .agg #[.int .i64 e.number, .int .u8 e.kind, strV e.form, .int .i64 e.at_.chapter, .int .i64 e.at_.line, .int .i64 e.at_.word, strV e.to.stem, .int .u8 e.to.mark, .int .i64 e.of_]] w (Rets h w (fun _ _ res_ => res_ = .bool (betterB d e))) := by
 refine zM (n := 26) (args := [.agg #[.int .i64 d.number, .int .u8 d.kind, strV d.form, .int .i64 d.at_.chapter, .int .i64 d.at_.line, .int .i64 d.at_.word, strV d.to.stem, .int .u8 d.to.mark, .int .i64 d.of_], .agg #[.int .i64 e.number, .int .u8 e.kind, strV e.form, .int .i64 e.at_.chapter, .int .i64 e.at_.line, .int .i64 e.at_.word, strV e.to.stem, .int .u8 e.to.mark, .int .i64 e.of_]]) Tryz.func110 X X X ?_
 have st0 : St h w h w [] := St.start hs
 refine zd<|O<|zr st0 (cs := [.int .i64 (d.number), .int .u8 (d.kind), strV (d.form), .int .i64 (d.at_.chapter), .int .i64 (d.at_.line), .int .i64 (d.at_.word), strV (d.to.stem), .int .u8 (d.to.mark), .int .i64 (d.of_)]) X X X ?_
 intro b1 w2 h3 le4 hc5 st6
 refine zr st6 (cs := [.int .i64 (e.number), .int .u8 (e.kind), strV (e.form), .int .i64 (e.at_.chapter), .int .i64 (e.at_.line), .int .i64 (e.at_.word), strV (e.to.stem), .int .u8 (e.to.mark), .int .i64 (e.of_)]) X X X ?_
 intro b7 w8 h9 le10 hc11 st12
 refine Y X X (zJ X)<|U<|M<|zd<|zd<|O<|Y X X (zc X Tryz.underlying56 X Tryz.sizeOf5 X)<|Y X X (zb (j := 1) st12.sub (hc5.up le10) X X X Tryz.isAgg5)<|Y X X (zc X Tryz.underlying56 X Tryz.sizeOf5 X)<|Y X X (zb (j := 1) st12.sub hc11 X X X Tryz.isAgg5)<|Y X X (r_neq X X)<|U<|M ?_
 refine zt rfl (fun c13 => ?_) (fun c13 => ?_)
 ·
  replace c13 := of_decide_eq_true c13
  refine zd<|O<|Y X X (zc X Tryz.underlying56 X Tryz.sizeOf5 X)<|Y X X (zb (j := 1) st12.sub (hc5.up le10) X X X Tryz.isAgg5)<|Y X X (zc X Tryz.underlying56 X Tryz.sizeOf5 X)<|Y X X (zb (j := 1) st12.sub hc11 X X X Tryz.isAgg5)<|Y X X (r_gtr X X)<|Y X X (zJ X)<|U<|M<|zA<|zk<|zi Tryz.results110 ?_
  refine ⟨h9, _, rfl, st12.done, ?_⟩
  refine zw ?_
  simp_all [betterB]
 ·
  replace c13 := of_decide_eq_false c13
  refine zz<|M<|zd<|O<|Y X X (zc X Tryz.underlying56 X Tryz.sizeOf5 X)<|Y X X (zb (j := 1) st12.sub (hc5.up le10) X X X Tryz.isAgg5)<|Y X X (r_neq X X)<|Y X X (zN X) ?_
  refine zG (d := 18) rfl (fun g14 => ?_) (fun g14 => ?_)
  ·
   replace g14 := of_decide_eq_true g14
   refine E X X (d := 18) X X X<|E X X (d := 18) X X X<|E X X (d := 18) X X X<|E X X (d := 18) X X X<|E X X (d := 18) X X X<|E X X (d := 18) X X X<|Y X X (zK (v := (.bool _)) X X)<|Y X X (zJ X)<|U<|M<|zA<|zi Tryz.results110 ?_
   refine ⟨h9, _, rfl, st12.done, ?_⟩
   refine zw ?_
   simp_all [betterB]
  ·
   replace g14 := of_decide_eq_false g14
   refine za X X (d := 18) X<|Y X X (zc X Tryz.underlying56 X Tryz.sizeOf52 X)<|za X X (d := 18) X<|Y X X (zR (j := 3) st12.sub (hc5.up le10) (us := [.int .i64 (d.at_.chapter), .int .i64 (d.at_.line), .int .i64 (d.at_.word)]) X X Tryz.isAgg52 Tryz.sizeOf52 X X)<|za X X (d := 18) X<|Y X X (zc X Tryz.underlying56 X Tryz.sizeOf52 X)<|za X X (d := 18) X<|Y X X (zR (j := 3) st12.sub hc11 (us := [.int .i64 (e.at_.chapter), .int .i64 (e.at_.line), .int .i64 (e.at_.word)]) X X Tryz.isAgg52 Tryz.sizeOf52 X X)<|za X X (d := 18) X<|zm st12 X X X Tryz.call159 X (c_postilref01_Before st12.sub (a := d.at_) (b := e.at_)) ?_
   intro r15 w16 h17 le18 st19 q20
   obtain rfl := q20
   refine za X X (d := 18) X<|Y X X (r_not X)<|Y X X (zC (v := (.bool _)) X X)<|Y X X (zJ X)<|U<|M<|zA<|zi Tryz.results110 ?_
   refine ⟨h17, _, rfl, st19.done, ?_⟩
   refine zw ?_
   simp_all [betterB]
set_option maxRecDepth 4000 in
theorem c_postilref04_Less {h : Heap} {w : World} (hs : Sub h w) {a : Head} (a_l1 : a.stem.length ≤ 281474976710656) (a_l2 : 0 ≤ a.mark ∧ a.mark ≤ 255) {b : Head} (b_l1 : b.stem.length ≤ 281474976710656) (b_l2 : 0 ≤ b.mark ∧ b.mark ≤ 255) : Calls Tryz.prog 78 #[.agg #[strV a.stem, .int .u8 a.mark], .agg #[strV b.stem, .int .u8 b.mark]] w (Rets h w (fun _ _ res_ => res_ = .bool (headLt a b))) := by
 refine zM (n := 24) (args := [.agg #[strV a.stem, .int .u8 a.mark], .agg #[strV b.stem, .int .u8 b.mark]]) Tryz.func78 X X X ?_
 have st0 : St h w h w [] := St.start hs
 refine zd<|O<|zr st0 (cs := [strV (a.stem), .int .u8 (a.mark)]) X X X ?_
 intro b1 w2 h3 le4 hc5 st6
 refine zr st6 (cs := [strV (b.stem), .int .u8 (b.mark)]) X X X ?_
 intro b7 w8 h9 le10 hc11 st12
 refine Y X X (zJ X)<|U<|M<|zd<|O<|Y X X (zc X Tryz.underlying54 X Tryz.sizeOf9 X)<|Y X X (zb (j := 0) st12.sub (hc5.up le10) X X X Tryz.isAgg9)<|Y X X (zc X Tryz.underlying54 X Tryz.sizeOf9 X)<|Y X X (zb (j := 0) st12.sub hc11 X X X Tryz.isAgg9)<|Y X X (r_slss X X)<|Y X X (zN X) ?_
 refine zG (d := 10) rfl (fun g13 => ?_) (fun g13 => ?_)
 ·
  refine E X X (d := 10) X X X<|E X X (d := 10) X X X<|E X X (d := 10) X X X<|E X X (d := 10) X X X<|E X X (d := 10) X X X<|E X X (d := 10) X X X<|zl X X (d := 16) X X<|zl X X (d := 16) X X<|zl X X (d := 16) X X<|zl X X (d := 16) X X<|zl X X (d := 16) X X<|E X X (d := 10) X X X<|Y X X (zK (v := (.bool _)) X X)<|Y X X (zJ X)<|U<|M<|zA<|zi Tryz.results78 ?_
  refine ⟨h9, _, rfl, st12.done, ?_⟩
  refine zw ?_
  simp_all [headLt, sLt]
 ·
  refine za X X (d := 10) X<|Y X X (zc X Tryz.underlying54 X Tryz.sizeOf9 X)<|za X X (d := 10) X<|Y X X (zb (j := 0) st12.sub (hc5.up le10) X X X Tryz.isAgg9)<|za X X (d := 10) X<|Y X X (zc X Tryz.underlying54 X Tryz.sizeOf9 X)<|za X X (d := 10) X<|Y X X (zb (j := 0) st12.sub hc11 X X X Tryz.isAgg9)<|za X X (d := 10) X<|Y X X (r_seql X X)<|za X X (d := 10) X<|Y X X (zN X) ?_
  refine zG (d := 16) rfl (fun g14 => ?_) (fun g14 => ?_)
  ·
   replace g14 := of_decide_eq_true g14
   refine za X X (d := 16) X<|Y X X (zc X Tryz.underlying54 X Tryz.sizeOf5 X)<|za X X (d := 16) X<|Y X X (zb (j := 1) st12.sub (hc5.up le10) X X X Tryz.isAgg5)<|za X X (d := 16) X<|Y X X (zc X Tryz.underlying54 X Tryz.sizeOf5 X)<|za X X (d := 16) X<|Y X X (zb (j := 1) st12.sub hc11 X X X Tryz.isAgg5)<|za X X (d := 16) X<|Y X X (zal X X)<|za X X (d := 10) X<|Y X X (zK (v := (.bool _)) X X)<|Y X X (zC (v := (.bool _)) X X)<|Y X X (zJ X)<|U<|M<|zA<|zi Tryz.results78 ?_
   refine ⟨h9, _, rfl, st12.done, ?_⟩
   refine zw ?_
   simp_all [headLt, sLt]
  ·
   replace g14 := of_decide_eq_false g14
   refine E X X (d := 16) X X X<|E X X (d := 16) X X X<|E X X (d := 16) X X X<|E X X (d := 16) X X X<|E X X (d := 16) X X X<|za X X (d := 10) X<|Y X X (zC (v := (.bool _)) X X)<|Y X X (zC (v := (.bool _)) X X)<|Y X X (zJ X)<|U<|M<|zA<|zi Tryz.results78 ?_
   refine ⟨h9, _, rfl, st12.done, ?_⟩
   refine zw ?_
   simp_all [headLt, sLt]
set_option maxRecDepth 4000 in
theorem c_postilref04_SameHeads {h : Heap} {w : World} (hs : Sub h w) {a_v : Value} {a : (List Head)} (a_f : Sl LHead h a_v a) {b_v : Value} {b : (List Head)} (b_f : Sl LHead h b_v b) : Calls Tryz.prog 39 #[a_v, b_v] w (Rets h w (fun _ _ res_ => res_ = .bool (decide (a = b)))) := by
 refine zM (n := 26) (args := [a_v, b_v]) Tryz.func39 X X X ?_
 have st0 : St h w h w [] := St.start hs
 have a_f_b := a_f.le
 have b_f_b := b_f.le
 refine zd<|O<|Y X X (zJ X)<|U<|M<|zd<|zd<|O<|Y X X (zy (v := a_v) X)<|Y X X (zag a_f X Tryz.underlying80)<|Y X X (zy (v := b_v) X)<|Y X X (zag b_f X Tryz.underlying80)<|Y X X (r_neq X X)<|U<|M ?_
 refine zt rfl (fun c1 => ?_) (fun c1 => ?_)
 ·
  replace c1 := of_decide_eq_true c1
  refine zd<|O<|Y X X (zJ X)<|U<|M<|zA<|zk<|zi Tryz.results39 ?_
  refine ⟨h, _, rfl, st0.done, ?_⟩
  refine zw ?_
  have q : a ≠ b := by
   rintro rfl
   simp_all
  simp [q]
 ·
  replace c1 := of_decide_eq_false c1
  refine zz<|M<|zd<|zd<|O<|Y X X (zx X)<|U<|M<|zF ?_
  refine zX [4, 5, 11, 12, 13, 14, 15, 16, 17, 18, 19, 20, 21, 22, 23, 24, 25] (G := Nat × Heap) (fun ⟨k, h2⟩ => [(5, .int .i64 (k : Int))]) (fun ⟨k, h2⟩ w' => Le h h2 ∧ St h w h2 w' [] ∧ (k ≤ a.length) ∧ (a.take k = b.take k)) (fun ⟨k, h2⟩ => a.length - k) ⟨0, h⟩ ⟨rfl, trivial⟩ ⟨Le.refl _, st0, zak, zak⟩ ?_
  rintro ⟨k, h2⟩ _ w5 ⟨le3, st4, hk, he⟩
  refine zd<|zd<|O<|Y X X (zo X)<|Y X X (zy (v := a_v) X)<|Y X X (zag (a_f.up le3) X Tryz.underlying80)<|Y X X (zal X X)<|U<|M ?_
  refine zt rfl (fun c6 => ?_) (fun c6 => ?_)
  ·
   replace c6 := of_decide_eq_true c6
   refine zz<|M<|zd<|zF<|zd<|zai Tryz.mixed t_kr (Cls h2 _) (Cls.drew st4)<|ze X X (fun _ _ => (zy (v := a_v) X))<|ze X X (fun _ _ => (zo X)) ?_
   have hx : ∃ y_, (a)[k]? = some y_ := ⟨_, List.getElem?_eq_getElem (by omega)⟩
   obtain ⟨x, hx⟩ := hx
   obtain ⟨b7, o8, _, he10, hc9, hr_x⟩ := Sl.elem (a_f.up le3) hx
   obtain ⟨rfl, ls11, lu12⟩ := hr_x
   simp only [big] at ls11
   refine ze X X (fun _ _ => (zp he10 X X (hk := X) (hu := Tryz.underlying80) (hz := Tryz.sizeOf54)))<|ze X X (fun _ hC => (zf hC.sub hc9 X Tryz.isAgg54 Tryz.sizeOf54 X))<|ze X X (fun _ _ => (zy (v := b_v) X))<|ze X X (fun _ _ => (zo X)) ?_
   have hy : ∃ y_, (b)[k]? = some y_ := ⟨_, List.getElem?_eq_getElem (by omega)⟩
   obtain ⟨y, hy⟩ := hy
   obtain ⟨b13, o14, _, he16, hc15, hr_y⟩ := Sl.elem (b_f.up le3) hy
   obtain ⟨rfl, ls17, lu18⟩ := hr_y
   simp only [big] at ls17
   refine ze X X (fun _ _ => (zp he16 X X (hk := X) (hu := Tryz.underlying80) (hz := Tryz.sizeOf54)))<|ze X X (fun _ hC => (zf hC.sub hc15 X Tryz.isAgg54 Tryz.sizeOf54 X))<|ze X X (fun _ _ => (r_stneq X X Tryz.eqGuardType54 (Tryz.eq_Head x y)))<|zac ?_
   rintro w19 ⟨h20, s21⟩
   have st22 := st4.call0 s21
   refine M ?_
   refine zt rfl (fun c23 => ?_) (fun c23 => ?_)
   ·
    replace c23 := of_decide_eq_true c23
    refine zd<|O<|Y X X (zJ X)<|U<|M<|zA<|zL<|zk<|zk<|zL<|zk<|zi Tryz.results39 ?_
    refine ⟨h20, _, rfl, st22.done, ?_⟩
    refine zw ?_
    have q := ne_of_get hx hy (by simpa using c23)
    simp [q]
   ·
    replace c23 := of_decide_eq_false c23
    refine zz<|zI<|M<|O<|Y X X (zo X)<|Y X X (zah X X t_om)<|Y X X (zx X)<|U<|M ?_
    refine ⟨⟨k + 1, h20⟩, ⟨rfl, trivial⟩, ?_, ⟨(le3.trans s21.le), st22, ?_, ?_⟩, ?_⟩
    ·exact zae
    ·first | omega | (simp; omega)
    ·exact eq_take_succ he hx hy (by simpa using c23)
    ·show a.length - ((k + 1)) < a.length - k
     omega
  ·
   replace c6 := of_decide_eq_false c6
   refine zab<|zn<|zn<|zT<|M<|zd<|O<|Y X X (zJ X)<|U<|M<|zA<|zi Tryz.results39 ?_
   refine ⟨h2, _, rfl, st4.done, ?_⟩
   refine zw ?_
   have q := eq_of_take he (by omega) (by omega)
   simp [q]
set_option maxRecDepth 4000 in
theorem c_postilref01_SamePlaces {h : Heap} {w : World} (hs : Sub h w) {a_v : Value} {a : (List Place)} (a_f : Sl LPlace h a_v a) {b_v : Value} {b : (List Place)} (b_f : Sl LPlace h b_v b) : Calls Tryz.prog 28 #[a_v, b_v] w (Rets h w (fun _ _ res_ => res_ = .bool (decide (a = b)))) := by
 refine zM (n := 26) (args := [a_v, b_v]) Tryz.func28 X X X ?_
 have st0 : St h w h w [] := St.start hs
 have a_f_b := a_f.le
 have b_f_b := b_f.le
 refine zd<|O<|Y X X (zJ X)<|U<|M<|zd<|zd<|O<|Y X X (zy (v := a_v) X)<|Y X X (zag a_f X Tryz.underlying63)<|Y X X (zy (v := b_v) X)<|Y X X (zag b_f X Tryz.underlying63)<|Y X X (r_neq X X)<|U<|M ?_
 refine zt rfl (fun c1 => ?_) (fun c1 => ?_)
 ·
  replace c1 := of_decide_eq_true c1
  refine zd<|O<|Y X X (zJ X)<|U<|M<|zA<|zk<|zi Tryz.results28 ?_
  refine ⟨h, _, rfl, st0.done, ?_⟩
  refine zw ?_
  have q : a ≠ b := by
   rintro rfl
   simp_all
  simp [q]
 ·
  replace c1 := of_decide_eq_false c1
  refine zz<|M<|zd<|zd<|O<|Y X X (zx X)<|U<|M<|zF ?_
  refine zX [4, 5, 11, 12, 13, 14, 15, 16, 17, 18, 19, 20, 21, 22, 23, 24, 25] (G := Nat × Heap) (fun ⟨k, h2⟩ => [(5, .int .i64 (k : Int))]) (fun ⟨k, h2⟩ w' => Le h h2 ∧ St h w h2 w' [] ∧ (k ≤ a.length) ∧ (a.take k = b.take k)) (fun ⟨k, h2⟩ => a.length - k) ⟨0, h⟩ ⟨rfl, trivial⟩ ⟨Le.refl _, st0, zak, zak⟩ ?_
  rintro ⟨k, h2⟩ _ w5 ⟨le3, st4, hk, he⟩
  refine zd<|zd<|O<|Y X X (zo X)<|Y X X (zy (v := a_v) X)<|Y X X (zag (a_f.up le3) X Tryz.underlying63)<|Y X X (zal X X)<|U<|M ?_
  refine zt rfl (fun c6 => ?_) (fun c6 => ?_)
  ·
   replace c6 := of_decide_eq_true c6
   refine zz<|M<|zd<|zF<|zd<|zai Tryz.mixed t_kr (Cls h2 _) (Cls.drew st4)<|ze X X (fun _ _ => (zy (v := a_v) X))<|ze X X (fun _ _ => (zo X)) ?_
   have hx : ∃ y_, (a)[k]? = some y_ := ⟨_, List.getElem?_eq_getElem (by omega)⟩
   obtain ⟨x, hx⟩ := hx
   obtain ⟨b7, o8, _, he10, hc9, hr_x⟩ := Sl.elem (a_f.up le3) hx
   obtain rfl := hr_x
   refine ze X X (fun _ _ => (zp he10 X X (hk := X) (hu := Tryz.underlying63) (hz := Tryz.sizeOf52)))<|ze X X (fun _ hC => (zf hC.sub hc9 X Tryz.isAgg52 Tryz.sizeOf52 X))<|ze X X (fun _ _ => (zy (v := b_v) X))<|ze X X (fun _ _ => (zo X)) ?_
   have hy : ∃ y_, (b)[k]? = some y_ := ⟨_, List.getElem?_eq_getElem (by omega)⟩
   obtain ⟨y, hy⟩ := hy
   obtain ⟨b11, o12, _, he14, hc13, hr_y⟩ := Sl.elem (b_f.up le3) hy
   obtain rfl := hr_y
   refine ze X X (fun _ _ => (zp he14 X X (hk := X) (hu := Tryz.underlying63) (hz := Tryz.sizeOf52)))<|ze X X (fun _ hC => (zf hC.sub hc13 X Tryz.isAgg52 Tryz.sizeOf52 X))<|ze X X (fun _ _ => (r_stneq X X Tryz.eqGuardType52 (Tryz.eq_Place x y)))<|zac ?_
   rintro w15 ⟨h16, s17⟩
   have st18 := st4.call0 s17
   refine M ?_
   refine zt rfl (fun c19 => ?_) (fun c19 => ?_)
   ·
    replace c19 := of_decide_eq_true c19
    refine zd<|O<|Y X X (zJ X)<|U<|M<|zA<|zL<|zk<|zk<|zL<|zk<|zi Tryz.results28 ?_
    refine ⟨h16, _, rfl, st18.done, ?_⟩
    refine zw ?_
    have q := ne_of_get hx hy (by simpa using c19)
    simp [q]
   ·
    replace c19 := of_decide_eq_false c19
    refine zz<|zI<|M<|O<|Y X X (zo X)<|Y X X (zah X X t_om)<|Y X X (zx X)<|U<|M ?_
    refine ⟨⟨k + 1, h16⟩, ⟨rfl, trivial⟩, ?_, ⟨(le3.trans s17.le), st18, ?_, ?_⟩, ?_⟩
    ·exact zae
    ·first | omega | (simp; omega)
    ·exact eq_take_succ he hx hy (by simpa using c19)
    ·show a.length - ((k + 1)) < a.length - k
     omega
  ·
   replace c6 := of_decide_eq_false c6
   refine zab<|zn<|zn<|zT<|M<|zd<|O<|Y X X (zJ X)<|U<|M<|zA<|zi Tryz.results28 ?_
   refine ⟨h2, _, rfl, st4.done, ?_⟩
   refine zw ?_
   have q := eq_of_take he (by omega) (by omega)
   simp [q]
end Go.Pk

namespace Go.Pk
open Go Go.RowKit Go.Proofs
set_option maxRecDepth 4000 in
theorem c_stem_office_concerning_1 {h0 h : Heap} {w0 w : World} {rest : Own} {l : Nat} {o_b : Nat} {o : Office} {o_v0 : Value} (o_f0 : Sl LRule h o_v0 o.lex.rules) {o_v1 : Value} (o_f1 : Sl LDecision h o_v1 o.lex.decisions) {o_v2 : Value} (o_f2 : Sl LChapter h o_v2 o.text.chapters) {o_v3 : Value} (o_f3 : FML (fun n : Int => .int .i64 n) (fun x : Decision => [.int .i64 x.number, .int .u8 x.kind, strV x.form, .int .i64 x.at_.chapter, .int .i64 x.at_.line, .int .i64 x.at_.word, strV x.to.stem, .int .u8 x.to.mark, .int .i64 x.of_]) LDecision h o.stands o_v3) (o_c : Cells h o_b 0 [o_v0, o_v1, o_v2, o_v3]) {o_bb : Nat} (o_cc : Cells h o_bb 0 [.pointer (some ⟨o_b, 0, none⟩)]) {p_b : Nat} {p : Place} (p_c : Cells h p_b 0 [.int .i64 (p.chapter), .int .i64 (p.line), .int .i64 (p.word)]) {word_b : Nat} {word : Str} (word_le : word.length ≤ 281474976710656) (word_c : Cells h word_b 0 [strV word]) {J Jx : List Decision → Heap → Own → Prop} (hJm : ∀ xs h1 h2 o, J xs h1 o → Le h1 h2 → J xs h2 o) (hJxm : ∀ xs h1 h2 o, Jx xs h1 o → Le h1 h2 → Jx xs h2 o) (hJ0 : J [] h rest) (hY : ∀ (pre : List Decision) (x : Decision) h1 w1 B rest u, Le h h1 → J pre h1 rest → St h0 w0 h1 w1 (B ++ rest) → (∃ vs, u = .agg vs.toArray ∧ LDecision.R h1 vs x) ∧ x ∈ o.stands.map (·.2) → Yields Tryz.prog l #[u] w1 fun v w2 => ∃ h2 rest2, Le h1 h2 ∧ St h0 w0 h2 w2 (B ++ rest2) ∧ ((v = .bool true ∧ J (pre ++ [x]) h2 rest2) ∨ (v = .bool false ∧ Jx (pre ++ [x]) h2 rest2))) (K0 : Cells h 0 0 Tryz.glob0) (hk4 : ∀ q ∈ o.stands, 1 ≤ q.2.kind ∧ q.2.kind ≤ 4) (st0 : St h0 w0 h w rest) : Calls Tryz.prog 181 #[.func (.yield l) #[] #[], .pointer (some ⟨o_bb, 0, none⟩), .pointer (some ⟨p_b, 0, none⟩), .pointer (some ⟨word_b, 0, none⟩)] w (fun e_ w' => ∃ h' rest' v_, e_ = .returned v_ ∧ Le h h' ∧ St h0 w0 h' w' rest' ∧ ((∃ xs, (∃ dn : List (Int × Decision), dn.Perm o.stands ∧ xs = (dn.map (·.2)).filter fun d => concB d p word) ∧ J xs h' rest') ∨ (∃ pre, Jx pre h' rest'))) := by
 refine zM (n := 31) (args := [.func (.yield l) #[] #[], .pointer (some ⟨o_bb, 0, none⟩), .pointer (some ⟨p_b, 0, none⟩), .pointer (some ⟨word_b, 0, none⟩)]) Tryz.func181 X X X ?_
 have o_f0_b := o_f0.le
 have o_f1_b := o_f1.le
 have o_f2_b := o_f2.le
 refine zd<|O<|Y X X (zb (j := 0) st0.sub o_cc X X X Tryz.isAgg94)<|Y X X (r_nil_check X)<|Y X X (zc X Tryz.underlying103 X Tryz.sizeOf101 X)<|Y X X (zb (j := 3) st0.sub o_c X X X Tryz.isAgg101)<|OpsL.rangeM st0 o_f3.1 X Tryz.underlying101 X ?_
 intro o1 vi2 w3 hI4 st5
 have st6 := st5.perm (own' := o1 :: rest) List.perm_append_comm
 refine U<|M<|zF ?_
 refine zX [6, 12, 13, 14, 15, 16, 17, 18, 19, 20, 21, 22, 23, 24, 25, 26, 27, 28, 29, 30] (G := List (Int × Decision) × List (Int × Decision) × Own × List (Nat × Obj) × Heap) (fun ⟨dn, rm, rest, o_11, h7⟩ => []) (fun ⟨dn, rm, rest, o_11, h7⟩ w' => Le h h7 ∧ St h0 w0 h7 w' (o_11 :: rest) ∧ (MI (fun n : Int => .int .i64 n) (fun x => .agg ((fun x : Decision => [.int .i64 x.number, .int .u8 x.kind, strV x.form, .int .i64 x.at_.chapter, .int .i64 x.at_.line, .int .i64 x.at_.word, strV x.to.stem, .int .u8 x.to.mark, .int .i64 x.of_]) x).toArray) h7 o_v3 o_11 vi2 rm) ∧ ((dn ++ rm).Perm o.stands) ∧ (J ((dn.map (·.2)).filter fun d => concB d p word) h7 rest)) (fun ⟨dn, rm, rest, o_11, h7⟩ => rm.length) ⟨[], o.stands, rest, o1, h⟩ trivial ⟨Le.refl _, st6, hI4, (by exact List.Perm.refl _), (by exact hJm _ _ _ _ hJ0 (Le.refl _))⟩ ?_
 rintro ⟨dn, rm, rest, o_11, h7⟩ _ w10 ⟨le8, st9, hI_11, hpd, hJ⟩
 refine zd<|O ?_
 refine OpsL.nextM (i := 0) st9 hI_11 rfl rfl rfl (fun e11 w12 st13 => ?_) (fun p14 rm15 o16 w21 _ e22 hp19 hI17 hC18 st20 => ?_)
 ·
  refine Y X X (zH (v := (.bool _)) X X)<|U<|M<|zd ?_
  refine zt rfl (fun c23 => ?_) (fun c23 => ?_)
  ·
   cases c23
  ·
   refine zab<|zn<|zn<|zT<|Post.end0 Tryz.results181 ?_
   exact ⟨_, _, _, rfl, le8, (st13).tl, .inl ⟨_, ⟨dn, by rw [e11, List.append_nil] at hpd; exact hpd, rfl⟩, hJm _ _ _ _ hJ (Le.refl _)⟩⟩
 ·
  subst e22
  refine Y X X (zH (v := (.bool _)) X X)<|U<|M<|zd ?_
  refine zt rfl (fun c24 => ?_) (fun c24 => ?_)
  ·
   refine zz<|M<|zF<|zd ?_
   have hpm : p14 ∈ o.stands := hpd.mem_iff.1 (List.mem_append_right _ (hp19.mem_iff.2 (List.mem_cons_self ..)))
   have hpk := hk4 _ hpm
   obtain ⟨_, hp1, hp2, hp3, hp4⟩ := o_f3.2 p14 hpm
   simp only [big] at hp2 hp3
   refine O<|Y X X (r_entry st20.sub hC18 (st20.ent (k := 0) X) X)<|Y X X (zH (v := (.agg (List.toArray _))) X X)<|OpsL.allocSt st20 Tryz.zeroValue56 X X X (us := [.int .i64 (p14.2.number), .int .u8 (p14.2.kind), strV (p14.2.form), .int .i64 (p14.2.at_.chapter), .int .i64 (p14.2.at_.line), .int .i64 (p14.2.at_.word), strV (p14.2.to.stem), .int .u8 (p14.2.to.mark), .int .i64 (p14.2.of_)]) (fun _ => X) (zg X (zg X (zg X (zg X (zg X (zg X (zg X (zg X (zg X zU))))))))) Tryz.sizeOf56 X ?_
   intro b25 w26 h27 le28 hc29 st30
   refine U<|M<|zd ?_
   rcases (show p14.2.kind = 1 ∨ p14.2.kind = 2 ∨ p14.2.kind = 3 ∨ p14.2.kind = 4 by omega) with hk31 | hk31 | hk31 | hk31
   ·
    rcases Bool.eq_false_or_eq_true ((decide ((p14.2).form = (word)))) with g32 | g32
    ·
     have g32_r := g32
     refine zaa (er := ([], [], [], [], 0)) (dsts := [16, 17, 18, 19, 20, 21, 22, 23, 24, 25, 26, 27, 28, 29, 30]) st30 Tryz.mixed<|zh 0 [] X t_kr t_kr X X (fun hD wD τD hL hS hO  => (zc X Tryz.underlying56 X Tryz.sizeOf5 X))<|zh 1 [0] X t_kr t_kr X X (fun hD wD τD hL hS hO _ _ => (zb (j := 1) (hL.sub hS) hc29 X X X Tryz.isAgg5)) ?_
     refine zh 2 [0] rfl t_kr t_kr rfl rfl (fun hD wD τD hL hS hO _ _ => (r_index_arr rfl rfl (show _ = ((1 : Nat) : Int) by rw [hk31]; rfl) rfl Tryz.underlying165 Tryz.sizeOf164)) ?_
     refine zh 3 [0] X t_kr t_kr X X (fun hD wD τD hL hS hO _ _ => (zc X Tryz.underlying164 X Tryz.sizeOf162 X))<|zh 4 [0] X t_kr t_kr X X (fun hD wD τD hL hS hO _ _ => (zb (j := 9) (hL.sub hS) (K0.up (le8.trans le28)) X X X Tryz.isAgg162))<|zh 5 [] X t_kr t_kr X X (fun hD wD τD hL hS hO  => (zf (hL.sub hS) hc29 X Tryz.isAgg56 Tryz.sizeOf56 X))<|zh 6 [] X t_kr t_kr X X (fun hD wD τD hL hS hO  => (zf (hL.sub hS) (p_c.up (le8.trans le28)) X Tryz.isAgg52 Tryz.sizeOf52 X))<|zh 7 [] X t_kr t_kr X X (fun hD wD τD hL hS hO  => (zb (j := 0) (hL.sub hS) (word_c.up (le8.trans le28)) X X X Tryz.isAgg9)) ?_
     refine zQ 8 (.det (.bool true)) [3, 2, 1, 0] rfl t_kr t_kr ?_ ?_
     ·
      intro hD wD τD hL hS hO _ _ _ _ _ _ _ _
      have st33 := St.start hS
      refine OpsL.callFV (fs := []) (cs := []) st33 X X X X Tryz.call218 X (c_stem_kinds_1 st33.sub (d := p14.2) t_u8 zZ zZ t_u8 (p := p) _ zZ) ?_
      intro r34 w35 h36 le37 st38 q39
      obtain rfl := q39
      exact U ⟨_, _, rfl, st38, (), congrArg Value.bool g32_r, trivial⟩
     refine zh 9 [0] X t_kr t_kr X X (fun hD wD τD hL hS hO _ _ => (zN X))<|Drw.detG 10 [0] X t_kr t_kr X X X (fun hD wD τD hL hS hO _ _ => ⟨rfl, (zy X)⟩)<|Drw.detG 11 [1] X t_kr t_kr X X X (fun hD wD τD hL hS hO _ _ => ⟨rfl, (zf (hL.sub hS) hc29 X Tryz.isAgg56 Tryz.sizeOf56 X)⟩)<|zaf<|zaf<|zaf<|zan X X X X X X ⟨t_kr, X, t_kr, X, t_kr, X, X, t_kr, (zY X (zY X (zY X cx_nil)))⟩ ?_
     intro hE41 w42 _ le43 st44 _ _ _ _ _ _
     refine za X X (d := 25) X ?_
     have hcb : concB p14.2 p word = true := by simp only [concB, hk31]; first | exact g32 | (have q := g32; rw [ordI_le] at q; exact q)
     have hJc := hJm _ _ _ _ hJ (le28.trans le43)
     have hAc : (∃ vs, _ = Value.agg vs.toArray ∧ LDecision.R hE41 vs p14.2) ∧ p14.2 ∈ o.stands.map (·.2) := ⟨⟨_, rfl, LDecision.up (o_f3.2 p14 hpm) ((le8.trans le28).trans le43)⟩, List.mem_map_of_mem hpm⟩
     refine OpsL.yieldsJ rfl rfl rfl rfl rfl (hY _ _ _ _ [o16] rest _ ((le8.trans le28).trans le43) hJc st44 hAc) ?_
     intro yb45 w46 h47 rest48 le49 st50 hj51 hx52
     refine U ⟨_, rfl, _, _, le49, st50, ?_⟩
     intro hE54 w55 _ le56 st57 _ _
     refine za X X (d := 25) X<|Y X X (r_not X) ?_
     refine U ⟨_, rfl, _, _, Le.refl _, st57, ?_⟩
     intro hE59 w60 _ le61 st62 _ _
     refine Y X X (zK (v := (.bool _)) X X) ?_
     refine U ⟨_, rfl, _, _, Le.refl _, st62, ?_⟩
     intro hE63 w64 _ le65 st66 _ _ _ _ _ _ _ _ _ _ _ _ _ _ _ _ _ _ _ _ _ _ _ _
     refine AllDeps.fin X<|M ?_
     refine zt rfl (fun c68 => ?_) (fun c68 => ?_)
     ·
      refine zA<|zL<|zk<|zL<|Post.ret0 Tryz.results181 ?_
      exact ⟨_, _, _, rfl, ((((((le8.trans le28).trans le43).trans le49).trans le56).trans le61).trans le65), (st66).tl, .inr ⟨_, hJxm _ _ _ _ (hx52 (by simpa using c68)) ((le56.trans le61).trans le65)⟩⟩
     ·
      refine zz<|zI<|M ?_
      refine ⟨⟨dn ++ [p14], rm15, rest48, o16, hE63⟩, trivial, ?_, ⟨((((((le8.trans le28).trans le43).trans le49).trans le56).trans le61).trans le65), st66, ?_, ?_, ?_⟩, ?_⟩
      ·exact zae
      ·exact (hI17.up (((((le28.trans le43).trans le49).trans le56).trans le61).trans le65))
      ·exact perm_step hpd hp19
      ·rw [List.map_append, List.filter_append]; simp only [List.map_cons, List.map_nil, List.filter_cons, List.filter_nil]
       rw [if_pos hcb]; exact hJm _ _ _ _ (hj51 (by simpa using c68)) ((le56.trans le61).trans le65)
      ·show ((rm15)).length < rm.length
       have q := hp19.length_eq; simp only [List.length_cons] at q; omega
    ·
     have g32_r := g32
     refine zaa (er := ([], [], [], [], 0)) (dsts := [16, 17, 18, 19, 20, 21, 22, 23, 24, 25, 26, 27, 28, 29, 30]) st30 Tryz.mixed<|zh 0 [] X t_kr t_kr X X (fun hD wD τD hL hS hO  => (zc X Tryz.underlying56 X Tryz.sizeOf5 X))<|zh 1 [0] X t_kr t_kr X X (fun hD wD τD hL hS hO _ _ => (zb (j := 1) (hL.sub hS) hc29 X X X Tryz.isAgg5)) ?_
     refine zh 2 [0] rfl t_kr t_kr rfl rfl (fun hD wD τD hL hS hO _ _ => (r_index_arr rfl rfl (show _ = ((1 : Nat) : Int) by rw [hk31]; rfl) rfl Tryz.underlying165 Tryz.sizeOf164)) ?_
     refine zh 3 [0] X t_kr t_kr X X (fun hD wD τD hL hS hO _ _ => (zc X Tryz.underlying164 X Tryz.sizeOf162 X))<|zh 4 [0] X t_kr t_kr X X (fun hD wD τD hL hS hO _ _ => (zb (j := 9) (hL.sub hS) (K0.up (le8.trans le28)) X X X Tryz.isAgg162))<|zh 5 [] X t_kr t_kr X X (fun hD wD τD hL hS hO  => (zf (hL.sub hS) hc29 X Tryz.isAgg56 Tryz.sizeOf56 X))<|zh 6 [] X t_kr t_kr X X (fun hD wD τD hL hS hO  => (zf (hL.sub hS) (p_c.up (le8.trans le28)) X Tryz.isAgg52 Tryz.sizeOf52 X))<|zh 7 [] X t_kr t_kr X X (fun hD wD τD hL hS hO  => (zb (j := 0) (hL.sub hS) (word_c.up (le8.trans le28)) X X X Tryz.isAgg9)) ?_
     refine zQ 8 (.det (.bool false)) [3, 2, 1, 0] rfl t_kr t_kr ?_ ?_
     ·
      intro hD wD τD hL hS hO _ _ _ _ _ _ _ _
      have st69 := St.start hS
      refine OpsL.callFV (fs := []) (cs := []) st69 X X X X Tryz.call218 X (c_stem_kinds_1 st69.sub (d := p14.2) t_u8 zZ zZ t_u8 (p := p) _ zZ) ?_
      intro r70 w71 h72 le73 st74 q75
      obtain rfl := q75
      exact U ⟨_, _, rfl, st74, (), congrArg Value.bool g32_r, trivial⟩
     refine zh 9 [0] X t_kr t_kr X X (fun hD wD τD hL hS hO _ _ => (zN X))<|zap 10 [0] X t_kr t_kr X X X X (fun hD wD τD hL hS hO _ _ => X)<|zap 11 [1] X t_kr t_kr X X X X (fun hD wD τD hL hS hO _ _ => X)<|zap 12 [1, 0, 2] X t_kr t_kr X X X X (fun hD wD τD hL hS hO _ _ _ _ _ _ => X)<|zap 13 [0, 3] X t_kr t_kr X X X X (fun hD wD τD hL hS hO _ _ _ _ => X)<|zh 14 [4, 0] X t_kr t_kr X X (fun hD wD τD hL hS hO _ _ _ _ => (zC (v := (.bool _)) X X))<|zan X X X X X X ⟨t_kr, X, t_kr, X, t_kr, X, X, t_kr, cx_nil⟩ ?_
     intro hE76 w77 _ le78 st79 _ _ _ _ _ _ _ _ _ _ _ _ _ _ _ _ _ _ _ _ _ _ _ _ _ _ _ _ _ _
     refine AllDeps.fin X<|M ?_
     refine zt rfl (fun c81 => ?_) (fun c81 => ?_)
     ·
      cases c81
     ·
      refine zz<|zI<|M ?_
      refine ⟨⟨dn ++ [p14], rm15, rest, o16, hE76⟩, trivial, ?_, ⟨((le8.trans le28).trans le78), st79, ?_, ?_, ?_⟩, ?_⟩
      ·exact zae
      ·exact (hI17.up (le28.trans le78))
      ·exact perm_step hpd hp19
      ·rw [List.map_append, List.filter_append]; simp only [List.map_cons, List.map_nil, List.filter_cons, List.filter_nil]
       rw [if_neg (by simp only [concB, hk31]; first | (simp; done) | (have q := g32; rw [ordI_le] at q; simpa using q) | (have q := g32; simpa using q))]; rw [List.append_nil]; exact hJm _ _ _ _ hJ (le28.trans le78)
      ·show ((rm15)).length < rm.length
       have q := hp19.length_eq; simp only [List.length_cons] at q; omega
   ·
    rcases Bool.eq_false_or_eq_true (((decide ((p14.2).form = (word)) && decide (ordI (p14.2).at_ (p) ≤ 0)))) with g82 | g82
    ·
     have g82_r := g82
     refine zaa (er := ([], [], [], [], 0)) (dsts := [16, 17, 18, 19, 20, 21, 22, 23, 24, 25, 26, 27, 28, 29, 30]) st30 Tryz.mixed<|zh 0 [] X t_kr t_kr X X (fun hD wD τD hL hS hO  => (zc X Tryz.underlying56 X Tryz.sizeOf5 X))<|zh 1 [0] X t_kr t_kr X X (fun hD wD τD hL hS hO _ _ => (zb (j := 1) (hL.sub hS) hc29 X X X Tryz.isAgg5)) ?_
     refine zh 2 [0] rfl t_kr t_kr rfl rfl (fun hD wD τD hL hS hO _ _ => (r_index_arr rfl rfl (show _ = ((2 : Nat) : Int) by rw [hk31]; rfl) rfl Tryz.underlying165 Tryz.sizeOf164)) ?_
     refine zh 3 [0] X t_kr t_kr X X (fun hD wD τD hL hS hO _ _ => (zc X Tryz.underlying164 X Tryz.sizeOf162 X))<|zh 4 [0] X t_kr t_kr X X (fun hD wD τD hL hS hO _ _ => (zb (j := 14) (hL.sub hS) (K0.up (le8.trans le28)) X X X Tryz.isAgg162))<|zh 5 [] X t_kr t_kr X X (fun hD wD τD hL hS hO  => (zf (hL.sub hS) hc29 X Tryz.isAgg56 Tryz.sizeOf56 X))<|zh 6 [] X t_kr t_kr X X (fun hD wD τD hL hS hO  => (zf (hL.sub hS) (p_c.up (le8.trans le28)) X Tryz.isAgg52 Tryz.sizeOf52 X))<|zh 7 [] X t_kr t_kr X X (fun hD wD τD hL hS hO  => (zb (j := 0) (hL.sub hS) (word_c.up (le8.trans le28)) X X X Tryz.isAgg9)) ?_
     refine zQ 8 (.det (.bool true)) [3, 2, 1, 0] rfl t_kr t_kr ?_ ?_
     ·
      intro hD wD τD hL hS hO _ _ _ _ _ _ _ _
      have st83 := St.start hS
      refine OpsL.callFV (fs := []) (cs := []) st83 X X X X Tryz.call219 X (c_stem_kinds_2 st83.sub (d := p14.2) t_u8 zZ zZ t_u8 (p := p) _ zZ) ?_
      intro r84 w85 h86 le87 st88 q89
      obtain rfl := q89
      exact U ⟨_, _, rfl, st88, (), congrArg Value.bool g82_r, trivial⟩
     refine zh 9 [0] X t_kr t_kr X X (fun hD wD τD hL hS hO _ _ => (zN X))<|Drw.detG 10 [0] X t_kr t_kr X X X (fun hD wD τD hL hS hO _ _ => ⟨rfl, (zy X)⟩)<|Drw.detG 11 [1] X t_kr t_kr X X X (fun hD wD τD hL hS hO _ _ => ⟨rfl, (zf (hL.sub hS) hc29 X Tryz.isAgg56 Tryz.sizeOf56 X)⟩)<|zaf<|zaf<|zaf<|zan X X X X X X ⟨t_kr, X, t_kr, X, t_kr, X, X, t_kr, (zY X (zY X (zY X cx_nil)))⟩ ?_
     intro hE91 w92 _ le93 st94 _ _ _ _ _ _
     refine za X X (d := 25) X ?_
     have hcb : concB p14.2 p word = true := by simp only [concB, hk31]; first | exact g82 | (have q := g82; rw [ordI_le] at q; exact q)
     have hJc := hJm _ _ _ _ hJ (le28.trans le93)
     have hAc : (∃ vs, _ = Value.agg vs.toArray ∧ LDecision.R hE91 vs p14.2) ∧ p14.2 ∈ o.stands.map (·.2) := ⟨⟨_, rfl, LDecision.up (o_f3.2 p14 hpm) ((le8.trans le28).trans le93)⟩, List.mem_map_of_mem hpm⟩
     refine OpsL.yieldsJ rfl rfl rfl rfl rfl (hY _ _ _ _ [o16] rest _ ((le8.trans le28).trans le93) hJc st94 hAc) ?_
     intro yb95 w96 h97 rest98 le99 st100 hj101 hx102
     refine U ⟨_, rfl, _, _, le99, st100, ?_⟩
     intro hE104 w105 _ le106 st107 _ _
     refine za X X (d := 25) X<|Y X X (r_not X) ?_
     refine U ⟨_, rfl, _, _, Le.refl _, st107, ?_⟩
     intro hE109 w110 _ le111 st112 _ _
     refine Y X X (zK (v := (.bool _)) X X) ?_
     refine U ⟨_, rfl, _, _, Le.refl _, st112, ?_⟩
     intro hE113 w114 _ le115 st116 _ _ _ _ _ _ _ _ _ _ _ _ _ _ _ _ _ _ _ _ _ _ _ _
     refine AllDeps.fin X<|M ?_
     refine zt rfl (fun c118 => ?_) (fun c118 => ?_)
     ·
      refine zA<|zL<|zk<|zL<|Post.ret0 Tryz.results181 ?_
      exact ⟨_, _, _, rfl, ((((((le8.trans le28).trans le93).trans le99).trans le106).trans le111).trans le115), (st116).tl, .inr ⟨_, hJxm _ _ _ _ (hx102 (by simpa using c118)) ((le106.trans le111).trans le115)⟩⟩
     ·
      refine zz<|zI<|M ?_
      refine ⟨⟨dn ++ [p14], rm15, rest98, o16, hE113⟩, trivial, ?_, ⟨((((((le8.trans le28).trans le93).trans le99).trans le106).trans le111).trans le115), st116, ?_, ?_, ?_⟩, ?_⟩
      ·exact zae
      ·exact (hI17.up (((((le28.trans le93).trans le99).trans le106).trans le111).trans le115))
      ·exact perm_step hpd hp19
      ·rw [List.map_append, List.filter_append]; simp only [List.map_cons, List.map_nil, List.filter_cons, List.filter_nil]
       rw [if_pos hcb]; exact hJm _ _ _ _ (hj101 (by simpa using c118)) ((le106.trans le111).trans le115)
      ·show ((rm15)).length < rm.length
       have q := hp19.length_eq; simp only [List.length_cons] at q; omega
    ·
     have g82_r := g82
     refine zaa (er := ([], [], [], [], 0)) (dsts := [16, 17, 18, 19, 20, 21, 22, 23, 24, 25, 26, 27, 28, 29, 30]) st30 Tryz.mixed<|zh 0 [] X t_kr t_kr X X (fun hD wD τD hL hS hO  => (zc X Tryz.underlying56 X Tryz.sizeOf5 X))<|zh 1 [0] X t_kr t_kr X X (fun hD wD τD hL hS hO _ _ => (zb (j := 1) (hL.sub hS) hc29 X X X Tryz.isAgg5)) ?_
     refine zh 2 [0] rfl t_kr t_kr rfl rfl (fun hD wD τD hL hS hO _ _ => (r_index_arr rfl rfl (show _ = ((2 : Nat) : Int) by rw [hk31]; rfl) rfl Tryz.underlying165 Tryz.sizeOf164)) ?_
     refine zh 3 [0] X t_kr t_kr X X (fun hD wD τD hL hS hO _ _ => (zc X Tryz.underlying164 X Tryz.sizeOf162 X))<|zh 4 [0] X t_kr t_kr X X (fun hD wD τD hL hS hO _ _ => (zb (j := 14) (hL.sub hS) (K0.up (le8.trans le28)) X X X Tryz.isAgg162))<|zh 5 [] X t_kr t_kr X X (fun hD wD τD hL hS hO  => (zf (hL.sub hS) hc29 X Tryz.isAgg56 Tryz.sizeOf56 X))<|zh 6 [] X t_kr t_kr X X (fun hD wD τD hL hS hO  => (zf (hL.sub hS) (p_c.up (le8.trans le28)) X Tryz.isAgg52 Tryz.sizeOf52 X))<|zh 7 [] X t_kr t_kr X X (fun hD wD τD hL hS hO  => (zb (j := 0) (hL.sub hS) (word_c.up (le8.trans le28)) X X X Tryz.isAgg9)) ?_
     refine zQ 8 (.det (.bool false)) [3, 2, 1, 0] rfl t_kr t_kr ?_ ?_
     ·
      intro hD wD τD hL hS hO _ _ _ _ _ _ _ _
      have st119 := St.start hS
      refine OpsL.callFV (fs := []) (cs := []) st119 X X X X Tryz.call219 X (c_stem_kinds_2 st119.sub (d := p14.2) t_u8 zZ zZ t_u8 (p := p) _ zZ) ?_
      intro r120 w121 h122 le123 st124 q125
      obtain rfl := q125
      exact U ⟨_, _, rfl, st124, (), congrArg Value.bool g82_r, trivial⟩
     refine zh 9 [0] X t_kr t_kr X X (fun hD wD τD hL hS hO _ _ => (zN X))<|zap 10 [0] X t_kr t_kr X X X X (fun hD wD τD hL hS hO _ _ => X)<|zap 11 [1] X t_kr t_kr X X X X (fun hD wD τD hL hS hO _ _ => X)<|zap 12 [1, 0, 2] X t_kr t_kr X X X X (fun hD wD τD hL hS hO _ _ _ _ _ _ => X)<|zap 13 [0, 3] X t_kr t_kr X X X X (fun hD wD τD hL hS hO _ _ _ _ => X)<|zh 14 [4, 0] X t_kr t_kr X X (fun hD wD τD hL hS hO _ _ _ _ => (zC (v := (.bool _)) X X))<|zan X X X X X X ⟨t_kr, X, t_kr, X, t_kr, X, X, t_kr, cx_nil⟩ ?_
     intro hE126 w127 _ le128 st129 _ _ _ _ _ _ _ _ _ _ _ _ _ _ _ _ _ _ _ _ _ _ _ _ _ _ _ _ _ _
     refine AllDeps.fin X<|M ?_
     refine zt rfl (fun c131 => ?_) (fun c131 => ?_)
     ·
      cases c131
     ·
      refine zz<|zI<|M ?_
      refine ⟨⟨dn ++ [p14], rm15, rest, o16, hE126⟩, trivial, ?_, ⟨((le8.trans le28).trans le128), st129, ?_, ?_, ?_⟩, ?_⟩
      ·exact zae
      ·exact (hI17.up (le28.trans le128))
      ·exact perm_step hpd hp19
      ·rw [List.map_append, List.filter_append]; simp only [List.map_cons, List.map_nil, List.filter_cons, List.filter_nil]
       rw [if_neg (by simp only [concB, hk31]; first | (simp; done) | (have q := g82; rw [ordI_le] at q; simpa using q) | (have q := g82; simpa using q))]; rw [List.append_nil]; exact hJm _ _ _ _ hJ (le28.trans le128)
      ·show ((rm15)).length < rm.length
       have q := hp19.length_eq; simp only [List.length_cons] at q; omega
   ·
    rcases Bool.eq_false_or_eq_true ((decide ((p14.2).at_ = (p)))) with g132 | g132
    ·
     have g132_r := g132
     refine zaa (er := ([], [], [], [], 0)) (dsts := [16, 17, 18, 19, 20, 21, 22, 23, 24, 25, 26, 27, 28, 29, 30]) st30 Tryz.mixed<|zh 0 [] X t_kr t_kr X X (fun hD wD τD hL hS hO  => (zc X Tryz.underlying56 X Tryz.sizeOf5 X))<|zh 1 [0] X t_kr t_kr X X (fun hD wD τD hL hS hO _ _ => (zb (j := 1) (hL.sub hS) hc29 X X X Tryz.isAgg5)) ?_
     refine zh 2 [0] rfl t_kr t_kr rfl rfl (fun hD wD τD hL hS hO _ _ => (r_index_arr rfl rfl (show _ = ((3 : Nat) : Int) by rw [hk31]; rfl) rfl Tryz.underlying165 Tryz.sizeOf164)) ?_
     refine zh 3 [0] X t_kr t_kr X X (fun hD wD τD hL hS hO _ _ => (zc X Tryz.underlying164 X Tryz.sizeOf162 X))<|zh 4 [0] X t_kr t_kr X X (fun hD wD τD hL hS hO _ _ => (zb (j := 19) (hL.sub hS) (K0.up (le8.trans le28)) X X X Tryz.isAgg162))<|zh 5 [] X t_kr t_kr X X (fun hD wD τD hL hS hO  => (zf (hL.sub hS) hc29 X Tryz.isAgg56 Tryz.sizeOf56 X))<|zh 6 [] X t_kr t_kr X X (fun hD wD τD hL hS hO  => (zf (hL.sub hS) (p_c.up (le8.trans le28)) X Tryz.isAgg52 Tryz.sizeOf52 X))<|zh 7 [] X t_kr t_kr X X (fun hD wD τD hL hS hO  => (zb (j := 0) (hL.sub hS) (word_c.up (le8.trans le28)) X X X Tryz.isAgg9)) ?_
     refine zQ 8 (.det (.bool true)) [3, 2, 1, 0] rfl t_kr t_kr ?_ ?_
     ·
      intro hD wD τD hL hS hO _ _ _ _ _ _ _ _
      have st133 := St.start hS
      refine OpsL.callFV (fs := []) (cs := []) st133 X X X X Tryz.call220 X (c_stem_kinds_3 st133.sub (d := p14.2) t_u8 zZ zZ t_u8 (p := p) _ zZ) ?_
      intro r134 w135 h136 le137 st138 q139
      obtain rfl := q139
      exact U ⟨_, _, rfl, st138, (), congrArg Value.bool g132_r, trivial⟩
     refine zh 9 [0] X t_kr t_kr X X (fun hD wD τD hL hS hO _ _ => (zN X))<|Drw.detG 10 [0] X t_kr t_kr X X X (fun hD wD τD hL hS hO _ _ => ⟨rfl, (zy X)⟩)<|Drw.detG 11 [1] X t_kr t_kr X X X (fun hD wD τD hL hS hO _ _ => ⟨rfl, (zf (hL.sub hS) hc29 X Tryz.isAgg56 Tryz.sizeOf56 X)⟩)<|zaf<|zaf<|zaf<|zan X X X X X X ⟨t_kr, X, t_kr, X, t_kr, X, X, t_kr, (zY X (zY X (zY X cx_nil)))⟩ ?_
     intro hE141 w142 _ le143 st144 _ _ _ _ _ _
     refine za X X (d := 25) X ?_
     have hcb : concB p14.2 p word = true := by simp only [concB, hk31]; first | exact g132 | (have q := g132; rw [ordI_le] at q; exact q)
     have hJc := hJm _ _ _ _ hJ (le28.trans le143)
     have hAc : (∃ vs, _ = Value.agg vs.toArray ∧ LDecision.R hE141 vs p14.2) ∧ p14.2 ∈ o.stands.map (·.2) := ⟨⟨_, rfl, LDecision.up (o_f3.2 p14 hpm) ((le8.trans le28).trans le143)⟩, List.mem_map_of_mem hpm⟩
     refine OpsL.yieldsJ rfl rfl rfl rfl rfl (hY _ _ _ _ [o16] rest _ ((le8.trans le28).trans le143) hJc st144 hAc) ?_
     intro yb145 w146 h147 rest148 le149 st150 hj151 hx152
     refine U ⟨_, rfl, _, _, le149, st150, ?_⟩
     intro hE154 w155 _ le156 st157 _ _
     refine za X X (d := 25) X<|Y X X (r_not X) ?_
     refine U ⟨_, rfl, _, _, Le.refl _, st157, ?_⟩
     intro hE159 w160 _ le161 st162 _ _
     refine Y X X (zK (v := (.bool _)) X X) ?_
     refine U ⟨_, rfl, _, _, Le.refl _, st162, ?_⟩
     intro hE163 w164 _ le165 st166 _ _ _ _ _ _ _ _ _ _ _ _ _ _ _ _ _ _ _ _ _ _ _ _
     refine AllDeps.fin X<|M ?_
     refine zt rfl (fun c168 => ?_) (fun c168 => ?_)
     ·
      refine zA<|zL<|zk<|zL<|Post.ret0 Tryz.results181 ?_
      exact ⟨_, _, _, rfl, ((((((le8.trans le28).trans le143).trans le149).trans le156).trans le161).trans le165), (st166).tl, .inr ⟨_, hJxm _ _ _ _ (hx152 (by simpa using c168)) ((le156.trans le161).trans le165)⟩⟩
     ·
      refine zz<|zI<|M ?_
      refine ⟨⟨dn ++ [p14], rm15, rest148, o16, hE163⟩, trivial, ?_, ⟨((((((le8.trans le28).trans le143).trans le149).trans le156).trans le161).trans le165), st166, ?_, ?_, ?_⟩, ?_⟩
      ·exact zae
      ·exact (hI17.up (((((le28.trans le143).trans le149).trans le156).trans le161).trans le165))
      ·exact perm_step hpd hp19
      ·rw [List.map_append, List.filter_append]; simp only [List.map_cons, List.map_nil, List.filter_cons, List.filter_nil]
       rw [if_pos hcb]; exact hJm _ _ _ _ (hj151 (by simpa using c168)) ((le156.trans le161).trans le165)
      ·show ((rm15)).length < rm.length
       have q := hp19.length_eq; simp only [List.length_cons] at q; omega
    ·
     have g132_r := g132
     refine zaa (er := ([], [], [], [], 0)) (dsts := [16, 17, 18, 19, 20, 21, 22, 23, 24, 25, 26, 27, 28, 29, 30]) st30 Tryz.mixed<|zh 0 [] X t_kr t_kr X X (fun hD wD τD hL hS hO  => (zc X Tryz.underlying56 X Tryz.sizeOf5 X))<|zh 1 [0] X t_kr t_kr X X (fun hD wD τD hL hS hO _ _ => (zb (j := 1) (hL.sub hS) hc29 X X X Tryz.isAgg5)) ?_
     refine zh 2 [0] rfl t_kr t_kr rfl rfl (fun hD wD τD hL hS hO _ _ => (r_index_arr rfl rfl (show _ = ((3 : Nat) : Int) by rw [hk31]; rfl) rfl Tryz.underlying165 Tryz.sizeOf164)) ?_
     refine zh 3 [0] X t_kr t_kr X X (fun hD wD τD hL hS hO _ _ => (zc X Tryz.underlying164 X Tryz.sizeOf162 X))<|zh 4 [0] X t_kr t_kr X X (fun hD wD τD hL hS hO _ _ => (zb (j := 19) (hL.sub hS) (K0.up (le8.trans le28)) X X X Tryz.isAgg162))<|zh 5 [] X t_kr t_kr X X (fun hD wD τD hL hS hO  => (zf (hL.sub hS) hc29 X Tryz.isAgg56 Tryz.sizeOf56 X))<|zh 6 [] X t_kr t_kr X X (fun hD wD τD hL hS hO  => (zf (hL.sub hS) (p_c.up (le8.trans le28)) X Tryz.isAgg52 Tryz.sizeOf52 X))<|zh 7 [] X t_kr t_kr X X (fun hD wD τD hL hS hO  => (zb (j := 0) (hL.sub hS) (word_c.up (le8.trans le28)) X X X Tryz.isAgg9)) ?_
     refine zQ 8 (.det (.bool false)) [3, 2, 1, 0] rfl t_kr t_kr ?_ ?_
     ·
      intro hD wD τD hL hS hO _ _ _ _ _ _ _ _
      have st169 := St.start hS
      refine OpsL.callFV (fs := []) (cs := []) st169 X X X X Tryz.call220 X (c_stem_kinds_3 st169.sub (d := p14.2) t_u8 zZ zZ t_u8 (p := p) _ zZ) ?_
      intro r170 w171 h172 le173 st174 q175
      obtain rfl := q175
      exact U ⟨_, _, rfl, st174, (), congrArg Value.bool g132_r, trivial⟩
     refine zh 9 [0] X t_kr t_kr X X (fun hD wD τD hL hS hO _ _ => (zN X))<|zap 10 [0] X t_kr t_kr X X X X (fun hD wD τD hL hS hO _ _ => X)<|zap 11 [1] X t_kr t_kr X X X X (fun hD wD τD hL hS hO _ _ => X)<|zap 12 [1, 0, 2] X t_kr t_kr X X X X (fun hD wD τD hL hS hO _ _ _ _ _ _ => X)<|zap 13 [0, 3] X t_kr t_kr X X X X (fun hD wD τD hL hS hO _ _ _ _ => X)<|zh 14 [4, 0] X t_kr t_kr X X (fun hD wD τD hL hS hO _ _ _ _ => (zC (v := (.bool _)) X X))<|zan X X X X X X ⟨t_kr, X, t_kr, X, t_kr, X, X, t_kr, cx_nil⟩ ?_
     intro hE176 w177 _ le178 st179 _ _ _ _ _ _ _ _ _ _ _ _ _ _ _ _ _ _ _ _ _ _ _ _ _ _ _ _ _ _
     refine AllDeps.fin X<|M ?_
     refine zt rfl (fun c181 => ?_) (fun c181 => ?_)
     ·
      cases c181
     ·
      refine zz<|zI<|M ?_
      refine ⟨⟨dn ++ [p14], rm15, rest, o16, hE176⟩, trivial, ?_, ⟨((le8.trans le28).trans le178), st179, ?_, ?_, ?_⟩, ?_⟩
      ·exact zae
      ·exact (hI17.up (le28.trans le178))
      ·exact perm_step hpd hp19
      ·rw [List.map_append, List.filter_append]; simp only [List.map_cons, List.map_nil, List.filter_cons, List.filter_nil]
       rw [if_neg (by simp only [concB, hk31]; first | (simp; done) | (have q := g132; rw [ordI_le] at q; simpa using q) | (have q := g132; simpa using q))]; rw [List.append_nil]; exact hJm _ _ _ _ hJ (le28.trans le178)
      ·show ((rm15)).length < rm.length
       have q := hp19.length_eq; simp only [List.length_cons] at q; omega
   ·
    rcases Bool.eq_false_or_eq_true ((false)) with g182 | g182
    ·
     have g182_r := g182
     refine zaa (er := ([], [], [], [], 0)) (dsts := [16, 17, 18, 19, 20, 21, 22, 23, 24, 25, 26, 27, 28, 29, 30]) st30 Tryz.mixed<|zh 0 [] X t_kr t_kr X X (fun hD wD τD hL hS hO  => (zc X Tryz.underlying56 X Tryz.sizeOf5 X))<|zh 1 [0] X t_kr t_kr X X (fun hD wD τD hL hS hO _ _ => (zb (j := 1) (hL.sub hS) hc29 X X X Tryz.isAgg5)) ?_
     refine zh 2 [0] rfl t_kr t_kr rfl rfl (fun hD wD τD hL hS hO _ _ => (r_index_arr rfl rfl (show _ = ((4 : Nat) : Int) by rw [hk31]; rfl) rfl Tryz.underlying165 Tryz.sizeOf164)) ?_
     refine zh 3 [0] X t_kr t_kr X X (fun hD wD τD hL hS hO _ _ => (zc X Tryz.underlying164 X Tryz.sizeOf162 X))<|zh 4 [0] X t_kr t_kr X X (fun hD wD τD hL hS hO _ _ => (zb (j := 24) (hL.sub hS) (K0.up (le8.trans le28)) X X X Tryz.isAgg162))<|zh 5 [] X t_kr t_kr X X (fun hD wD τD hL hS hO  => (zf (hL.sub hS) hc29 X Tryz.isAgg56 Tryz.sizeOf56 X))<|zh 6 [] X t_kr t_kr X X (fun hD wD τD hL hS hO  => (zf (hL.sub hS) (p_c.up (le8.trans le28)) X Tryz.isAgg52 Tryz.sizeOf52 X))<|zh 7 [] X t_kr t_kr X X (fun hD wD τD hL hS hO  => (zb (j := 0) (hL.sub hS) (word_c.up (le8.trans le28)) X X X Tryz.isAgg9)) ?_
     refine zQ 8 (.det (.bool true)) [3, 2, 1, 0] rfl t_kr t_kr ?_ ?_
     ·
      intro hD wD τD hL hS hO _ _ _ _ _ _ _ _
      have st183 := St.start hS
      refine OpsL.callFV (fs := []) (cs := []) st183 X X X X Tryz.call221 X (c_stem_kinds_4 st183.sub (d := p14.2) t_u8 zZ zZ t_u8 (p := p) _ zZ) ?_
      intro r184 w185 h186 le187 st188 q189
      obtain rfl := q189
      exact U ⟨_, _, rfl, st188, (), congrArg Value.bool g182_r, trivial⟩
     refine zh 9 [0] X t_kr t_kr X X (fun hD wD τD hL hS hO _ _ => (zN X))<|Drw.detG 10 [0] X t_kr t_kr X X X (fun hD wD τD hL hS hO _ _ => ⟨rfl, (zy X)⟩)<|Drw.detG 11 [1] X t_kr t_kr X X X (fun hD wD τD hL hS hO _ _ => ⟨rfl, (zf (hL.sub hS) hc29 X Tryz.isAgg56 Tryz.sizeOf56 X)⟩)<|zaf<|zaf<|zaf<|zan X X X X X X ⟨t_kr, X, t_kr, X, t_kr, X, X, t_kr, (zY X (zY X (zY X cx_nil)))⟩ ?_
     intro hE191 w192 _ le193 st194 _ _ _ _ _ _
     refine za X X (d := 25) X ?_
     have hcb : concB p14.2 p word = true := by simp only [concB, hk31]; first | exact g182 | (have q := g182; rw [ordI_le] at q; exact q)
     have hJc := hJm _ _ _ _ hJ (le28.trans le193)
     have hAc : (∃ vs, _ = Value.agg vs.toArray ∧ LDecision.R hE191 vs p14.2) ∧ p14.2 ∈ o.stands.map (·.2) := ⟨⟨_, rfl, LDecision.up (o_f3.2 p14 hpm) ((le8.trans le28).trans le193)⟩, List.mem_map_of_mem hpm⟩
     refine OpsL.yieldsJ rfl rfl rfl rfl rfl (hY _ _ _ _ [o16] rest _ ((le8.trans le28).trans le193) hJc st194 hAc) ?_
     intro yb195 w196 h197 rest198 le199 st200 hj201 hx202
     refine U ⟨_, rfl, _, _, le199, st200, ?_⟩
     intro hE204 w205 _ le206 st207 _ _
     refine za X X (d := 25) X<|Y X X (r_not X) ?_
     refine U ⟨_, rfl, _, _, Le.refl _, st207, ?_⟩
     intro hE209 w210 _ le211 st212 _ _
     refine Y X X (zK (v := (.bool _)) X X) ?_
     refine U ⟨_, rfl, _, _, Le.refl _, st212, ?_⟩
     intro hE213 w214 _ le215 st216 _ _ _ _ _ _ _ _ _ _ _ _ _ _ _ _ _ _ _ _ _ _ _ _
     refine AllDeps.fin X<|M ?_
     refine zt rfl (fun c218 => ?_) (fun c218 => ?_)
     ·
      refine zA<|zL<|zk<|zL<|Post.ret0 Tryz.results181 ?_
      exact ⟨_, _, _, rfl, ((((((le8.trans le28).trans le193).trans le199).trans le206).trans le211).trans le215), (st216).tl, .inr ⟨_, hJxm _ _ _ _ (hx202 (by simpa using c218)) ((le206.trans le211).trans le215)⟩⟩
     ·
      refine zz<|zI<|M ?_
      refine ⟨⟨dn ++ [p14], rm15, rest198, o16, hE213⟩, trivial, ?_, ⟨((((((le8.trans le28).trans le193).trans le199).trans le206).trans le211).trans le215), st216, ?_, ?_, ?_⟩, ?_⟩
      ·exact zae
      ·exact (hI17.up (((((le28.trans le193).trans le199).trans le206).trans le211).trans le215))
      ·exact perm_step hpd hp19
      ·rw [List.map_append, List.filter_append]; simp only [List.map_cons, List.map_nil, List.filter_cons, List.filter_nil]
       rw [if_pos hcb]; exact hJm _ _ _ _ (hj201 (by simpa using c218)) ((le206.trans le211).trans le215)
      ·show ((rm15)).length < rm.length
       have q := hp19.length_eq; simp only [List.length_cons] at q; omega
    ·
     have g182_r := g182
     refine zaa (er := ([], [], [], [], 0)) (dsts := [16, 17, 18, 19, 20, 21, 22, 23, 24, 25, 26, 27, 28, 29, 30]) st30 Tryz.mixed<|zh 0 [] X t_kr t_kr X X (fun hD wD τD hL hS hO  => (zc X Tryz.underlying56 X Tryz.sizeOf5 X))<|zh 1 [0] X t_kr t_kr X X (fun hD wD τD hL hS hO _ _ => (zb (j := 1) (hL.sub hS) hc29 X X X Tryz.isAgg5)) ?_
     refine zh 2 [0] rfl t_kr t_kr rfl rfl (fun hD wD τD hL hS hO _ _ => (r_index_arr rfl rfl (show _ = ((4 : Nat) : Int) by rw [hk31]; rfl) rfl Tryz.underlying165 Tryz.sizeOf164)) ?_
     refine zh 3 [0] X t_kr t_kr X X (fun hD wD τD hL hS hO _ _ => (zc X Tryz.underlying164 X Tryz.sizeOf162 X))<|zh 4 [0] X t_kr t_kr X X (fun hD wD τD hL hS hO _ _ => (zb (j := 24) (hL.sub hS) (K0.up (le8.trans le28)) X X X Tryz.isAgg162))<|zh 5 [] X t_kr t_kr X X (fun hD wD τD hL hS hO  => (zf (hL.sub hS) hc29 X Tryz.isAgg56 Tryz.sizeOf56 X))<|zh 6 [] X t_kr t_kr X X (fun hD wD τD hL hS hO  => (zf (hL.sub hS) (p_c.up (le8.trans le28)) X Tryz.isAgg52 Tryz.sizeOf52 X))<|zh 7 [] X t_kr t_kr X X (fun hD wD τD hL hS hO  => (zb (j := 0) (hL.sub hS) (word_c.up (le8.trans le28)) X X X Tryz.isAgg9)) ?_
     refine zQ 8 (.det (.bool false)) [3, 2, 1, 0] rfl t_kr t_kr ?_ ?_
     ·
      intro hD wD τD hL hS hO _ _ _ _ _ _ _ _
      have st219 := St.start hS
      refine OpsL.callFV (fs := []) (cs := []) st219 X X X X Tryz.call221 X (c_stem_kinds_4 st219.sub (d := p14.2) t_u8 zZ zZ t_u8 (p := p) _ zZ) ?_
      intro r220 w221 h222 le223 st224 q225
      obtain rfl := q225
      exact U ⟨_, _, rfl, st224, (), congrArg Value.bool g182_r, trivial⟩
     refine zh 9 [0] X t_kr t_kr X X (fun hD wD τD hL hS hO _ _ => (zN X))<|zap 10 [0] X t_kr t_kr X X X X (fun hD wD τD hL hS hO _ _ => X)<|zap 11 [1] X t_kr t_kr X X X X (fun hD wD τD hL hS hO _ _ => X)<|zap 12 [1, 0, 2] X t_kr t_kr X X X X (fun hD wD τD hL hS hO _ _ _ _ _ _ => X)<|zap 13 [0, 3] X t_kr t_kr X X X X (fun hD wD τD hL hS hO _ _ _ _ => X)<|zh 14 [4, 0] X t_kr t_kr X X (fun hD wD τD hL hS hO _ _ _ _ => (zC (v := (.bool _)) X X))<|zan X X X X X X ⟨t_kr, X, t_kr, X, t_kr, X, X, t_kr, cx_nil⟩ ?_
     intro hE226 w227 _ le228 st229 _ _ _ _ _ _ _ _ _ _ _ _ _ _ _ _ _ _ _ _ _ _ _ _ _ _ _ _ _ _
     refine AllDeps.fin X<|M ?_
     refine zt rfl (fun c231 => ?_) (fun c231 => ?_)
     ·
      cases c231
     ·
      refine zz<|zI<|M ?_
      refine ⟨⟨dn ++ [p14], rm15, rest, o16, hE226⟩, trivial, ?_, ⟨((le8.trans le28).trans le228), st229, ?_, ?_, ?_⟩, ?_⟩
      ·exact zae
      ·exact (hI17.up (le28.trans le228))
      ·exact perm_step hpd hp19
      ·rw [List.map_append, List.filter_append]; simp only [List.map_cons, List.map_nil, List.filter_cons, List.filter_nil]
       rw [if_neg (by simp only [concB, hk31]; first | (simp; done) | (have q := g182; rw [ordI_le] at q; simpa using q) | (have q := g182; simpa using q))]; rw [List.append_nil]; exact hJm _ _ _ _ hJ (le28.trans le228)
      ·show ((rm15)).length < rm.length
       have q := hp19.length_eq; simp only [List.length_cons] at q; omega
  ·
   cases c24
end Go.Pk

namespace Go.Pk
open Go Go.RowKit Go.Proofs
set_option maxRecDepth 4000 in
theorem c_stem_office_concerning {h : Heap} {w : World} (hs : Sub h w) {o_b : Nat} {o : Office} {o_v0 : Value} (o_f0 : Sl LRule h o_v0 o.lex.rules) {o_v1 : Value} (o_f1 : Sl LDecision h o_v1 o.lex.decisions) {o_v2 : Value} (o_f2 : Sl LChapter h o_v2 o.text.chapters) {o_v3 : Value} (o_f3 : FML (fun n : Int => .int .i64 n) (fun x : Decision => [.int .i64 x.number, .int .u8 x.kind, strV x.form, .int .i64 x.at_.chapter, .int .i64 x.at_.line, .int .i64 x.at_.word, strV x.to.stem, .int .u8 x.to.mark, .int .i64 x.of_]) LDecision h o.stands o_v3) (o_c : Cells h o_b 0 [o_v0, o_v1, o_v2, o_v3]) {p : Place} (word : Str) (word_le : word.length ≤ 281474976710656) : Calls Tryz.prog 140 #[.pointer (some ⟨o_b, 0, none⟩), .agg #[.int .i64 p.chapter, .int .i64 p.line, .int .i64 p.word], strV word] w (fun e_ w' => ∃ h' bo bp bw, e_ = .returned (.func (.func 181) #[] #[.pointer (some ⟨bo, 0, none⟩), .pointer (some ⟨bp, 0, none⟩), .pointer (some ⟨bw, 0, none⟩)]) ∧ Le h h' ∧ St h w h' w' [] ∧ Cells h' bo 0 [.pointer (some ⟨o_b, 0, none⟩)] ∧ Cells h' bp 0 [.int .i64 p.chapter, .int .i64 p.line, .int .i64 p.word] ∧ Cells h' bw 0 [strV word]) := by
 refine zM (n := 8) (args := [.pointer (some ⟨o_b, 0, none⟩), .agg #[.int .i64 p.chapter, .int .i64 p.line, .int .i64 p.word], strV word]) Tryz.func140 X X X ?_
 have st0 : St h w h w [] := St.start hs
 have o_f0_b := o_f0.le
 have o_f1_b := o_f1.le
 have o_f2_b := o_f2.le
 refine zd<|O<|zr st0 (cs := [.pointer (some ⟨o_b, 0, none⟩)]) X X X ?_
 intro b1 w2 h3 le4 hc5 st6
 refine zr st6 (cs := [.int .i64 (p.chapter), .int .i64 (p.line), .int .i64 (p.word)]) X X X ?_
 intro b7 w8 h9 le10 hc11 st12
 refine zr st12 (cs := [strV word]) X X X ?_
 intro b13 w14 h15 le16 hc17 st18
 refine Y X X (zD X)<|U<|M<|zd<|O<|Y X X (r_make_func X X)<|Y X X (r_asF X)<|U<|M<|zA<|zi Tryz.results140 ?_
 exact ⟨h15, _, _, _, rfl, ((le4.trans le10).trans le16), st18, (hc5.up (le10.trans le16)), (hc11.up le16), hc17⟩
set_option maxRecDepth 4000 in
theorem c_stem_office_wins {h : Heap} {w : World} (hs : Sub h w) {o_b : Nat} {o : Office} {o_v0 : Value} (o_f0 : Sl LRule h o_v0 o.lex.rules) {o_v1 : Value} (o_f1 : Sl LDecision h o_v1 o.lex.decisions) {o_v2 : Value} (o_f2 : Sl LChapter h o_v2 o.text.chapters) {o_v3 : Value} (o_f3 : FML (fun n : Int => .int .i64 n) (fun x : Decision => [.int .i64 x.number, .int .u8 x.kind, strV x.form, .int .i64 x.at_.chapter, .int .i64 x.at_.line, .int .i64 x.at_.word, strV x.to.stem, .int .u8 x.to.mark, .int .i64 x.of_]) LDecision h o.stands o_v3) (o_c : Cells h o_b 0 [o_v0, o_v1, o_v2, o_v3]) {p : Place} (K0 : Cells h 0 0 Tryz.glob0) (ho : OkO o) (hp : placeB o.text p = true) : Calls Tryz.prog 104 #[.pointer (some ⟨o_b, 0, none⟩), .agg #[.int .i64 p.chapter, .int .i64 p.line, .int .i64 p.word]] w (Rets h w (fun _ _ res_ => res_ = .agg #[.int .i64 ((winD o.lex p (wordD o.text p))).number, .int .u8 ((winD o.lex p (wordD o.text p))).kind, strV ((winD o.lex p (wordD o.text p))).form, .int .i64 ((winD o.lex p (wordD o.text p))).at_.chapter, .int .i64 ((winD o.lex p (wordD o.text p))).at_.line, .int .i64 ((winD o.lex p (wordD o.text p))).at_.word, strV ((winD o.lex p (wordD o.text p))).to.stem, .int .u8 ((winD o.lex p (wordD o.text p))).to.mark, .int .i64 ((winD o.lex p (wordD o.text p))).of_])) := by
 refine V.calls (n := 57) (args := [.pointer (some ⟨o_b, 0, none⟩), .agg #[.int .i64 p.chapter, .int .i64 p.line, .int .i64 p.word]]) Tryz.func104 X X X ?_
 have st0 : St h w h w [] := St.start hs
 have o_f0_b := o_f0.le
 have o_f1_b := o_f1.le
 have o_f2_b := o_f2.le
 obtain ⟨c, ln, wd, hpc, hc, hpl, hln, hpw, hwd, hwe⟩ := place_at hp
 have hw12 := wordD_len (check_text ho.1) hp
 rw [hwe] at hw12
 have hk4 : ∀ q ∈ o.stands, 1 ≤ q.2.kind ∧ q.2.kind ≤ 4 := fun q hq => (standM_ok ho.1 (ho.2 ▸ hq)).2.2.2
 have hDO : ∀ d ∈ o.stands.map (·.2), (0 ≤ d.number ∧ d.number ≤ 999) ∧ (0 ≤ d.kind ∧ d.kind ≤ 255) ∧ d.form.length ≤ 281474976710656 ∧ d.to.stem.length ≤ 281474976710656 ∧ (0 ≤ d.to.mark ∧ d.to.mark ≤ 255) := by
  intro d hd
  obtain ⟨q, hq, rfl⟩ := List.mem_map.1 hd
  have q1 := standM_ok ho.1 (ho.2 ▸ hq)
  obtain ⟨_, q2, q3, q4, q5⟩ := o_f3.2 q hq
  exact ⟨⟨by omega, by omega⟩, q2, q3, q4, q5⟩
 refine V.seq<|V.region X<|zr st0 (cs := [.int .i64 (p.chapter), .int .i64 (p.line), .int .i64 (p.word)]) X X X ?_
 intro b1 w2 h3 le4 hc5 st6
 refine zO st6 Tryz.zeroValue56 X X ?_
 intro b7 w8 st9
 refine U<|ThenV.norm<|V.seq<|V.ofW<|zai Tryz.mixed t_kr (Cls h3 _) (Cls.drew st9)<|ze X X (fun _ _ => (r_mvP X))<|ze X X (fun _ _ => (r_nil_check X))<|ze X X (fun _ _ => (zc X Tryz.underlying103 X Tryz.sizeOf24 X))<|ze X X (fun _ _ => (zc X Tryz.underlying24 X Tryz.sizeOf22 X))<|ze X X (fun _ hC => (zb (j := 2) hC.sub (o_c.up le4) X X X Tryz.isAgg22))<|ze X X (fun _ _ => (zc X Tryz.underlying52 X Tryz.sizeOf3 X))<|ze X X (fun _ hC => (zb (j := 0) hC.sub hc5 X X X Tryz.isAgg3)) ?_
 obtain ⟨b10, o11, _, he13, hc12, hr_c⟩ := Sl.elem (o_f2.up le4) hc
 obtain ⟨v14, rfl, f15⟩ := hr_c
 have f15_b := f15.le
 refine ze rfl rfl (fun _ _ => (zp he13 rfl rfl (hk := (show _ = ((p.chapter.toNat : Nat) : Int) by omega)) (hu := Tryz.underlying22) (hz := Tryz.sizeOf93))) ?_
 refine ze X X (fun _ _ => (zc X Tryz.underlying93 X Tryz.sizeOf91 X))<|ze X X (fun _ hC => (zb (j := 1) hC.sub hc12 X X X Tryz.isAgg91))<|ze X X (fun _ _ => (zc X Tryz.underlying52 X Tryz.sizeOf3 X))<|ze X X (fun _ hC => (zb (j := 1) hC.sub hc5 X X X Tryz.isAgg3)) ?_
 obtain ⟨b16, o17, _, he19, hc18, hr_ln⟩ := Sl.elem f15 hln
 obtain ⟨v20, rfl, f21⟩ := hr_ln
 have f21_b := f21.le
 refine ze rfl rfl (fun _ _ => (zp he19 rfl rfl (hk := (show _ = ((p.line.toNat : Nat) : Int) by omega)) (hu := Tryz.underlying91) (hz := Tryz.sizeOf33))) ?_
 refine ze X X (fun _ hC => (zb (j := 0) hC.sub hc18 X X X Tryz.isAgg33))<|ze X X (fun _ _ => (zc X Tryz.underlying52 X Tryz.sizeOf3 X))<|ze X X (fun _ hC => (zb (j := 2) hC.sub hc5 X X X Tryz.isAgg3)) ?_
 obtain ⟨b22, o23, _, he25, hc24, hr_wd⟩ := Sl.elem f21 hwd
 obtain ⟨rfl, ls26⟩ := hr_wd
 simp only [big] at ls26
 refine ze rfl rfl (fun _ _ => (zp he25 rfl rfl (hk := (show _ = ((p.word.toNat : Nat) : Int) by omega)) (hu := Tryz.underlying33) (hz := Tryz.sizeOf9))) ?_
 refine ze X X (fun _ hC => (zb (j := 0) hC.sub hc24 X X X Tryz.isAgg9))<|ze X X (fun _ _ => (r_asS X))<|zac ?_
 rintro w27 ⟨h28, s29⟩
 have st30 := st9.call0 s29
 refine ThenV.norm<|V.seq<|V.region X<|zO st30 Tryz.zeroValue56 X X ?_
 intro b31 w32 st33
 refine U<|ThenV.norm<|V.seq<|V.seq<|V.region X<|Y X X (r_mvP X)<|Y X X (zf st33.sub (hc5.up s29.le) X Tryz.isAgg52 Tryz.sizeOf52 X)<|Y X X (r_mvS X) ?_
 refine zad rfl rfl (zaj rfl Tryz.call140 rfl) ((c_stem_office_concerning st33.sub (o := o) (o_f0.up (le4.trans s29.le)) (o_f1.up (le4.trans s29.le)) (o_f2.up (le4.trans s29.le)) (o_f3.up (le4.trans s29.le)) (o_c.up (le4.trans s29.le)) (p := p) _ zZ).mono ?_)
 rintro _ w34 ⟨h35, bo36, bp37, bw38, rfl, le39, s40, hc41, hc42, hc43⟩
 refine ⟨_, rfl, ?_⟩
 have st44 := st33.call s40
 have st45 : St h w h35 w34 [[(b7, .cells (List.toArray [.int .i64 0, .int .u8 0, strV [], .int .i64 0, .int .i64 0, .int .i64 0, strV [], .int .u8 0, .int .i64 0]) 56)], [(b31, .cells (List.toArray [.int .i64 0, .int .u8 0, strV [], .int .i64 0, .int .i64 0, .int .i64 0, strV [], .int .u8 0, .int .i64 0]) 56)]] := by rw [List.append_nil] at st44; exact st44
 refine U<|ThenV.norm<|V.block ?_
 have seq46 : Gives Tryz.prog 181 [.pointer (some ⟨bo36, 0, none⟩), .pointer (some ⟨bp37, 0, none⟩), .pointer (some ⟨bw38, 0, none⟩)] (fun h_ u_ x_ => (∃ vs, u_ = .agg vs.toArray ∧ LDecision.R h_ vs x_) ∧ x_ ∈ o.stands.map (·.2)) (fun xs_ => ∃ dn : List (Int × Decision), dn.Perm o.stands ∧ xs_ = (dn.map (·.2)).filter fun d => concB d p wd) h w h35 := by
  intro l_ J_ Jx_ hm_ hxm_ hY_ h1_ w1_ rest_ le_ hJ_ st_
  exact c_stem_office_concerning_1 (o := o) ((o_f0.up ((le4.trans s29.le).trans le39)).up le_) ((o_f1.up ((le4.trans s29.le).trans le39)).up le_) ((o_f2.up ((le4.trans s29.le).trans le39)).up le_) ((o_f3.up ((le4.trans s29.le).trans le39)).up le_) ((o_c.up ((le4.trans s29.le).trans le39)).up le_) (hc41.up le_) (p := p) (hc42.up le_) (word := wd) (by assumption) (hc43.up le_) hm_ hxm_ hJ_ (fun _ _ _ _ _ _ _ l2_ a_ b_ c_ => hY_ _ _ _ _ _ _ _ (le_.trans l2_) a_ b_ c_) ((K0.up ((le4.trans s29.le).trans le39)).up le_) (by exact hk4) st_
 refine V.rangeFunc (I := fun xs _ own_ => own_ = [[(b7, .cells (List.toArray [.int .i64 0, .int .u8 0, strV [], .int .i64 0, .int .i64 0, .int .i64 0, strV [], .int .u8 0, .int .i64 0]) 56)], [(b31, .cells (List.toArray [.int .i64 ((bestOf xs).number), .int .u8 ((bestOf xs).kind), strV ((bestOf xs).form), .int .i64 ((bestOf xs).at_.chapter), .int .i64 ((bestOf xs).at_.line), .int .i64 ((bestOf xs).at_.word), strV ((bestOf xs).to.stem), .int .u8 ((bestOf xs).to.mark), .int .i64 ((bestOf xs).of_)]) 56)]] ∧ ∀ y ∈ xs, y ∈ o.stands.map (·.2)) (Ix := fun _ _ _ _ => False) st45 rfl Tryz.call181 rfl seq46 (by rintro _ _ _ _ h_ _; exact h_) (by intro _ _ _ _ _ h_ _; exact h_) ⟨rfl, by simp⟩ ?_ ?_ ?_
 ·rintro l_ pre x h47 w48 _ tail u49 le50 ⟨rfl, hi52⟩ st51 hA53
  obtain ⟨⟨_, rfl, hR_⟩, hxm⟩ := hA53
  obtain ⟨rfl, lu54, ls55, ls56, lu57⟩ := hR_
  simp only [big] at ls55
  simp only [big] at ls56
  have hDx := hDO _ hxm
  have hDb : (0 ≤ (bestOf pre).number ∧ (bestOf pre).number ≤ 999) ∧ (0 ≤ (bestOf pre).kind ∧ (bestOf pre).kind ≤ 255) ∧ (bestOf pre).form.length ≤ 281474976710656 ∧ (bestOf pre).to.stem.length ≤ 281474976710656 ∧ (0 ≤ (bestOf pre).to.mark ∧ (bestOf pre).to.mark ≤ 255) := best_ok (p := fun d => (0 ≤ d.number ∧ d.number ≤ 999) ∧ (0 ≤ d.kind ∧ d.kind ≤ 255) ∧ d.form.length ≤ 281474976710656 ∧ d.to.stem.length ≤ 281474976710656 ∧ (0 ≤ d.to.mark ∧ d.to.mark ≤ 255)) (by decide) (fun y hy => hDO y (hi52 y hy))
  obtain ⟨hDb1, hDb2, hDb3, hDb4, hDb5⟩ := id hDb
  refine V.region X<|OpsL.allocSt st51 Tryz.zeroValue56 X X X (us := [.int .i64 (x.number), .int .u8 (x.kind), strV (x.form), .int .i64 (x.at_.chapter), .int .i64 (x.at_.line), .int .i64 (x.at_.word), strV (x.to.stem), .int .u8 (x.to.mark), .int .i64 (x.of_)]) (fun _ => X) (zg X (zg X (zg X (zg X (zg X (zg X (zg X (zg X (zg X zU))))))))) Tryz.sizeOf56 X ?_
  intro b58 w59 h60 le61 hc62 st63
  refine U ?_
  refine APost.mk (own2 := [[(b7, .cells (List.toArray [.int .i64 0, .int .u8 0, strV [], .int .i64 0, .int .i64 0, .int .i64 0, strV [], .int .u8 0, .int .i64 0]) 56)], [(b31, .cells (List.toArray [.int .i64 ((bestOf pre).number), .int .u8 ((bestOf pre).kind), strV ((bestOf pre).form), .int .i64 ((bestOf pre).at_.chapter), .int .i64 ((bestOf pre).at_.line), .int .i64 ((bestOf pre).at_.word), strV ((bestOf pre).to.stem), .int .u8 ((bestOf pre).to.mark), .int .i64 ((bestOf pre).of_)]) 56)]]) le61 st63 ?_
  intro tail66 w65 st64
  refine V.block<|V.seq<|V.region X<|Y X X (zc X Tryz.underlying56 X Tryz.sizeOf3 X)<|Y X X (zaq (st64.get (k := 1) X) X X Tryz.isAgg3)<|Y X X (r_eql X X)<|Y X X (zN X) ?_
  refine zG (d := 35) rfl (fun g67 => ?_) (fun g67 => ?_)
  ·
   replace g67 := of_decide_eq_true g67
   refine E X X (d := 35) X X X<|E X X (d := 35) X X X<|E X X (d := 35) X X X<|E X X (d := 35) X X X<|Y X X (zK (v := (.bool _)) X X)<|U<|ThenV.norm ?_
   refine V.cond rfl (fun c68 => ?_) (fun c68 => ?_)
   ·
    refine V.region X<|Y X X (zf st64.sub hc62 X Tryz.isAgg56 Tryz.sizeOf56 X)<|zB st64 (k := 1) X X X (zg X (zg X (zg X (zg X (zg X (zg X (zg X (zg X (zg X zU))))))))) Tryz.sizeOf56 X X X ?_
    intro w69 st70
    refine U<|BlkV.norm ?_
    refine RPost.norm (own3 := [[(b7, .cells (List.toArray [.int .i64 0, .int .u8 0, strV [], .int .i64 0, .int .i64 0, .int .i64 0, strV [], .int .u8 0, .int .i64 0]) 56)], [(b31, .cells (List.toArray [.int .i64 (x.number), .int .u8 (x.kind), strV (x.form), .int .i64 (x.at_.chapter), .int .i64 (x.at_.line), .int .i64 (x.at_.word), strV (x.to.stem), .int .u8 (x.to.mark), .int .i64 (x.of_)]) 56)]]) (Le.refl _) st70 ⟨?_, ?_⟩
    ·rw [bestOf_snoc, bestStep, if_pos (.inl g67)]
    ·intro y hy; rcases List.mem_append.1 hy with q | q; exact hi52 y q; (simp at q; rw [q]; exact hxm)
   ·
    cases c68
  ·
   replace g67 := of_decide_eq_false g67
   refine za X X (d := 35) X<|Y X X (zf st64.sub hc62 X Tryz.isAgg56 Tryz.sizeOf56 X)<|za X X (d := 35) X<|Y X X (r_load_ball (st64.get (k := 1) X) X Tryz.isAgg56 Tryz.sizeOf56 X)<|za X X (d := 35) X ?_
   refine zm st64 rfl rfl rfl Tryz.call141 rfl (c_stem_first st64.sub (a := x) t_u8 zZ zZ t_u8 (b := (bestOf pre)) t_u8 zZ zZ t_u8 (by exact hDx.1) (by exact hDb.1)) ?_
   intro r71 w72 h73 le74 st75 q76
   obtain rfl := q76
   refine za X X (d := 35) X<|Y X X (r_gtr X X)<|Y X X (zC (v := (.bool _)) X X)<|U<|ThenV.norm ?_
   refine V.cond rfl (fun c77 => ?_) (fun c77 => ?_)
   ·
    replace c77 := of_decide_eq_true c77
    refine V.region X<|Y X X (zf st75.sub (hc62.up le74) X Tryz.isAgg56 Tryz.sizeOf56 X)<|zB st75 (k := 1) X X X (zg X (zg X (zg X (zg X (zg X (zg X (zg X (zg X (zg X zU))))))))) Tryz.sizeOf56 X X X ?_
    intro w78 st79
    refine U<|BlkV.norm ?_
    refine RPost.norm (own3 := [[(b7, .cells (List.toArray [.int .i64 0, .int .u8 0, strV [], .int .i64 0, .int .i64 0, .int .i64 0, strV [], .int .u8 0, .int .i64 0]) 56)], [(b31, .cells (List.toArray [.int .i64 (x.number), .int .u8 (x.kind), strV (x.form), .int .i64 (x.at_.chapter), .int .i64 (x.at_.line), .int .i64 (x.at_.word), strV (x.to.stem), .int .u8 (x.to.mark), .int .i64 (x.of_)]) 56)]]) le74 st79 ⟨?_, ?_⟩
    ·rw [bestOf_snoc, bestStep, if_pos (.inr c77)]
    ·intro y hy; rcases List.mem_append.1 hy with q | q; exact hi52 y q; (simp at q; rw [q]; exact hxm)
   ·
    replace c77 := of_decide_eq_false c77
    refine V.skip<|BlkV.norm ?_
    refine RPost.norm (own3 := [[(b7, .cells (List.toArray [.int .i64 0, .int .u8 0, strV [], .int .i64 0, .int .i64 0, .int .i64 0, strV [], .int .u8 0, .int .i64 0]) 56)], [(b31, .cells (List.toArray [.int .i64 ((bestOf pre).number), .int .u8 ((bestOf pre).kind), strV ((bestOf pre).form), .int .i64 ((bestOf pre).at_.chapter), .int .i64 ((bestOf pre).at_.line), .int .i64 ((bestOf pre).at_.word), strV ((bestOf pre).to.stem), .int .u8 ((bestOf pre).to.mark), .int .i64 ((bestOf pre).of_)]) 56)]]) le74 st75 ⟨?_, ?_⟩
    ·rw [bestOf_snoc, bestStep, if_neg (by intro q; rcases q with q | q; exact g67 q; exact c77 q)]
    ·intro y hy; rcases List.mem_append.1 hy with q | q; exact hi52 y q; (simp at q; rw [q]; exact hxm)
 ·rintro D80 xs h81 w82 _ le83 hS84 ⟨rfl, hi85⟩ st86
  have hbe : bestOf xs = bestOf (conD o.lex p wd) := by
   obtain ⟨dn, q1, q2⟩ := hS84
   rw [q2]; exact conD_perm (okO_d ho) (ho.2 ▸ q1)
  have hDb := best_ok (p := fun d => (0 ≤ d.number ∧ d.number ≤ 999) ∧ (0 ≤ d.kind ∧ d.kind ≤ 255) ∧ d.form.length ≤ 281474976710656 ∧ d.to.stem.length ≤ 281474976710656 ∧ (0 ≤ d.to.mark ∧ d.to.mark ≤ 255)) (by decide) (fun y hy => hDO y (hi85 y hy))
  obtain ⟨hDb1, hDb2, hDb3, hDb4, hDb5⟩ := hDb
  have hzz : (bestOf xs).number = 0 → bestOf xs = zDecision := bestOf_zero (fun y hy => by have := hi85 y hy; obtain ⟨q, hq, rfl⟩ := List.mem_map.1 this; exact (standM_ok ho.1 (ho.2 ▸ hq)).2.1)
  refine BlkV.norm<|ThenV.norm<|V.seq<|V.seq<|V.region X<|Y X X (zc X Tryz.underlying56 X Tryz.sizeOf3 X)<|Y X X (zaq (st86.get (k := 1) X) X X Tryz.isAgg3)<|Y X X (r_eql X X)<|U<|ThenV.norm ?_
  refine V.cond rfl (fun c87 => ?_) (fun c87 => ?_)
  ·
   replace c87 := of_decide_eq_true c87
   refine V.seq<|V.region X<|Y X X (r_mvP X)<|Y X X (r_mvS X) ?_
   refine zm st86 rfl rfl rfl Tryz.call42 rfl (c_stem_office_steps st86.sub (o := o) (o_f0.up (((le4.trans s29.le).trans le39).trans le83)) (o_f1.up (((le4.trans s29.le).trans le39).trans le83)) (o_f2.up (((le4.trans s29.le).trans le39).trans le83)) (o_f3.up (((le4.trans s29.le).trans le39).trans le83)) (o_c.up (((le4.trans s29.le).trans le39).trans le83)) _ zZ (by exact hw12)) ?_
   intro r88 w89 h90 le91 st92 q93
   obtain ⟨v94, e96, f95⟩ := q93
   rw [← e96] at f95
   have f95_b := f95.le
   refine Y X X (zD (v := r88) X)<|U<|ThenV.norm<|V.region X<|Y X X (zy (v := r88) X)<|Y X X (zy (v := r88) X)<|Y X X (zag f95 X Tryz.underlying33) ?_
   refine Y rfl rfl (r_sub rfl rfl (by have := List.length_pos_iff.2 (stepsN_ne o.lex.rules 4 wd); omega)) ?_
   have hlst : ∃ y_, (stepsN (o).lex.rules 4 (wd))[(stepsN o.lex.rules 4 wd).length - 1]? = some y_ := ⟨_, List.getElem?_eq_getElem (by have := List.length_pos_iff.2 (stepsN_ne o.lex.rules 4 wd); omega)⟩
   obtain ⟨lst, hlst⟩ := hlst
   obtain ⟨b97, o98, _, he100, hc99, hr_lst⟩ := Sl.elem f95 hlst
   obtain ⟨rfl, ls101⟩ := hr_lst
   simp only [big] at ls101
   refine Y rfl rfl (zp he100 rfl rfl (hk := (show _ = (((stepsN o.lex.rules 4 wd).length - 1 : Nat) : Int) by have := List.length_pos_iff.2 (stepsN_ne o.lex.rules 4 wd); omega)) (hu := Tryz.underlying33) (hz := Tryz.sizeOf9)) ?_
   refine Y X X (zb (j := 0) st92.sub hc99 X X X Tryz.isAgg9)<|Y X X (zc X Tryz.underlying56 X Tryz.sizeOf54 X)<|Y X X (zc X Tryz.underlying54 X Tryz.sizeOf9 X)<|zas st92 (k := 1) X X X X Tryz.sizeOf9 X X X ?_
   intro w102 st103
   refine U<|ThenV.norm<|V.seq<|V.region X<|Y X X (r_load_ball (st103.get (k := 1) X) X Tryz.isAgg56 Tryz.sizeOf56 X)<|zB st103 (k := 0) X X X (zg X (zg X (zg X (zg X (zg X (zg X (zg X (zg X (zg X zU))))))))) Tryz.sizeOf56 X X X ?_
   intro w104 st105
   obtain ⟨h106, le107, hb108, st110⟩ := st105.freeze (k := 0) rfl
   have hc109 := Cells.of hb108
   refine U<|ThenV.norm<|V.ret<|PostV.one (own := [[], [(b31, .cells (List.toArray [.int .i64 ((bestOf xs).number), .int .u8 ((bestOf xs).kind), strV ((bestOf xs).form), .int .i64 ((bestOf xs).at_.chapter), .int .i64 ((bestOf xs).at_.line), .int .i64 ((bestOf xs).at_.word), strV lst, .int .u8 ((bestOf xs).to.mark), .int .i64 ((bestOf xs).of_)]) 56)]]) st110 ?_
   intro w112 st111
   refine Post.retcellF Tryz.results104 X Tryz.isAgg56 Tryz.sizeOf56 X st111.sub hc109 ?_
   refine ⟨h106, _, rfl, st111.done, ?_⟩
   refine ?_
   rw [hwe, winD, ← hbe]
   first | (rw [if_pos (by simpa using c87), hzz (by simpa using c87), List.getLast?_eq_getElem?, hlst] <;> rfl) | (rw [if_neg (by simpa using c87)] <;> rfl)
  ·
   replace c87 := of_decide_eq_false c87
   refine V.skip<|ThenV.norm<|V.seq<|V.region X<|Y X X (r_load_ball (st86.get (k := 1) X) X Tryz.isAgg56 Tryz.sizeOf56 X)<|zB st86 (k := 0) X X X (zg X (zg X (zg X (zg X (zg X (zg X (zg X (zg X (zg X zU))))))))) Tryz.sizeOf56 X X X ?_
   intro w113 st114
   obtain ⟨h115, le116, hb117, st119⟩ := st114.freeze (k := 0) rfl
   have hc118 := Cells.of hb117
   refine U<|ThenV.norm<|V.ret<|PostV.one (own := [[], [(b31, .cells (List.toArray [.int .i64 ((bestOf xs).number), .int .u8 ((bestOf xs).kind), strV ((bestOf xs).form), .int .i64 ((bestOf xs).at_.chapter), .int .i64 ((bestOf xs).at_.line), .int .i64 ((bestOf xs).at_.word), strV ((bestOf xs).to.stem), .int .u8 ((bestOf xs).to.mark), .int .i64 ((bestOf xs).of_)]) 56)]]) st119 ?_
   intro w121 st120
   refine Post.retcellF Tryz.results104 X Tryz.isAgg56 Tryz.sizeOf56 X st120.sub hc118 ?_
   refine ⟨h115, _, rfl, st120.done, ?_⟩
   refine ?_
   rw [hwe, winD, ← hbe]
   first | (rw [if_pos (by simpa using c87), hzz (by simpa using c87), List.getLast?_eq_getElem?, hlst] <;> rfl) | (rw [if_neg (by simpa using c87)] <;> rfl)
 ·intro _ _ _ _ _ _ _ hf_; exact hf_.elim
end Go.Pk

namespace Go.Pk
open Go Go.RowKit Go.Proofs
set_option maxRecDepth 4000 in
theorem c_postilref01_All {h : Heap} {w : World} (hs : Sub h w) {t : Text} {t_v0 : Value} (t_f0 : Sl LChapter h t_v0 t.chapters) (ht : textB t = true) : Calls Tryz.prog 59 #[.agg #[t_v0]] w (Rets h w (fun h' _ res_ => ∃ u0, res_ = u0 ∧ Sl LPlace h' u0 ((placesT t)))) := by
 refine zM (n := 47) (args := [.agg #[t_v0]]) Tryz.func59 X X X ?_
 have st0 : St h w h w [] := St.start hs
 have t_f0_b := t_f0.le
 refine zd<|O<|zr st0 (cs := [t_v0]) X X X ?_
 intro b1 w2 h3 le4 hc5 st6
 refine Y X X (r_asL X)<|U<|M<|zd<|O<|Y X X (r_asL X)<|U<|M<|zd<|zd<|O<|Y X X (zx X)<|U<|M<|zF ?_
 have st10 := st6.snoc
 have f11 := OSl.nil LPlace 52 h3
 refine zX [3, 4, 5, 6, 7, 8, 9, 10, 11, 12, 13, 14, 15, 16, 17, 18, 19, 20, 21, 22, 23, 24, 25, 26, 27, 28, 29, 30, 31, 32, 33, 34, 35, 36, 37, 38, 39, 40, 41, 42, 43, 44, 45] (G := Nat × Value × List (Nat × Obj) × Heap) (fun ⟨i, v_3, o_3, h7⟩ => [(3, v_3), (4, .int .i64 (i : Int))]) (fun ⟨i, v_3, o_3, h7⟩ w' => Le h3 h7 ∧ St h w h7 w' [o_3] ∧ (OSl LPlace 52 h7 v_3 ((List.range i).flatMap (chapP t)) o_3) ∧ (i ≤ t.chapters.length)) (fun ⟨i, v_3, o_3, h7⟩ => t.chapters.length - i) ⟨0, (.slice none 0 0), [], h3⟩ ⟨rfl, rfl, trivial⟩ ⟨Le.refl _, st10, (OSl.to f11 (by rfl)), zak⟩ ?_
 rintro ⟨i, v_3, o_3, h7⟩ _ w12 ⟨le8, st9, hO_3, hi⟩
 refine zd<|zd<|O<|Y X X (zo X)<|Y X X (zc X Tryz.underlying24 X Tryz.sizeOf22 X)<|Y X X (zb (j := 0) st9.sub (hc5.up le8) X X X Tryz.isAgg22)<|Y X X (zag (t_f0.up (le4.trans le8)) X Tryz.underlying22)<|Y X X (zal X X)<|U<|M ?_
 refine zt rfl (fun c13 => ?_) (fun c13 => ?_)
 ·
  replace c13 := of_decide_eq_true c13
  refine zz<|M<|zd<|zF<|zd ?_
  obtain ⟨c, hc⟩ : ∃ y, (t.chapters)[i]? = some y := ⟨_, List.getElem?_eq_getElem (by omega)⟩
  refine O<|Y X X (zx X)<|U<|M<|zF ?_
  refine zX [3, 5, 6, 14, 15, 16, 17, 18, 19, 20, 21, 22, 23, 24, 25, 26, 27, 28, 29, 30, 31, 32, 33, 34, 35, 36, 37, 38, 39, 40, 41, 42, 43, 44, 45] (G := Nat × Value × List (Nat × Obj) × Heap) (fun ⟨n, v_3, o_3, h14⟩ => [(3, v_3), (5, .int .i64 (n : Int))]) (fun ⟨n, v_3, o_3, h14⟩ w' => Le h7 h14 ∧ St h w h14 w' [o_3] ∧ (OSl LPlace 52 h14 v_3 ((List.range i).flatMap (chapP t) ++ (List.range n).flatMap (lineP t i)) o_3) ∧ (n ≤ c.lines.length)) (fun ⟨n, v_3, o_3, h14⟩ => c.lines.length - n) ⟨0, v_3, o_3, h7⟩ ⟨rfl, rfl, trivial⟩ ⟨Le.refl _, st9, (OSl.to hO_3 (by simp)), zak⟩ ?_
  rintro ⟨n, v_3, o_3, h14⟩ _ w17 ⟨le15, st16, hO_3, hn⟩
  refine zd<|zd<|O<|Y X X (zo X)<|Y X X (zc X Tryz.underlying24 X Tryz.sizeOf22 X)<|Y X X (zb (j := 0) st16.sub (hc5.up (le8.trans le15)) X X X Tryz.isAgg22)<|Y X X (zo X) ?_
  obtain ⟨b18, o19, _, he21, hc20, hr_c⟩ := Sl.elem (t_f0.up ((le4.trans le8).trans le15)) hc
  obtain ⟨v22, rfl, f23⟩ := hr_c
  have f23_b := f23.le
  refine Y X X (zp he21 X X (hk := X) (hu := Tryz.underlying22) (hz := Tryz.sizeOf93))<|Y X X (zc X Tryz.underlying93 X Tryz.sizeOf91 X)<|Y X X (zb (j := 1) st16.sub hc20 X X X Tryz.isAgg91)<|Y X X (zag f23 X Tryz.underlying91)<|Y X X (zal X X)<|U<|M ?_
  refine zt rfl (fun c24 => ?_) (fun c24 => ?_)
  ·
   replace c24 := of_decide_eq_true c24
   refine zz<|M<|zd<|zF<|zd ?_
   obtain ⟨ln, hln⟩ : ∃ y, (c.lines)[n]? = some y := ⟨_, List.getElem?_eq_getElem (by omega)⟩
   refine O<|Y X X (zx X)<|U<|M<|zF ?_
   refine zX [3, 6, 25, 26, 27, 28, 29, 30, 31, 32, 33, 34, 35, 36, 37, 38, 39, 40, 41, 42, 43, 44, 45] (G := Nat × Value × List (Nat × Obj) × Heap) (fun ⟨m, v_3, o_3, h25⟩ => [(3, v_3), (6, .int .i64 (m : Int))]) (fun ⟨m, v_3, o_3, h25⟩ w' => Le h14 h25 ∧ St h w h25 w' [o_3] ∧ (OSl LPlace 52 h25 v_3 ((List.range i).flatMap (chapP t) ++ (List.range n).flatMap (lineP t i) ++ (List.range m).map (mkP i n)) o_3) ∧ (m ≤ ln.length)) (fun ⟨m, v_3, o_3, h25⟩ => ln.length - m) ⟨0, v_3, o_3, h14⟩ ⟨rfl, rfl, trivial⟩ ⟨Le.refl _, st16, (OSl.to hO_3 (by simp)), zak⟩ ?_
   rintro ⟨m, v_3, o_3, h25⟩ _ w28 ⟨le26, st27, hO_3, hm⟩
   refine zd<|zd<|O<|Y X X (zo X)<|Y X X (zc X Tryz.underlying24 X Tryz.sizeOf22 X)<|Y X X (zb (j := 0) st27.sub (hc5.up ((le8.trans le15).trans le26)) X X X Tryz.isAgg22)<|Y X X (zo X)<|Y X X (zp he21 X X (hk := X) (hu := Tryz.underlying22) (hz := Tryz.sizeOf93))<|Y X X (zc X Tryz.underlying93 X Tryz.sizeOf91 X)<|Y X X (zb (j := 1) st27.sub (hc20.up le26) X X X Tryz.isAgg91)<|Y X X (zo X) ?_
   obtain ⟨b29, o30, _, he32, hc31, hr_ln⟩ := Sl.elem (f23.up le26) hln
   obtain ⟨v33, rfl, f34⟩ := hr_ln
   have f34_b := f34.le
   refine Y X X (zp he32 X X (hk := X) (hu := Tryz.underlying91) (hz := Tryz.sizeOf33))<|Y X X (zb (j := 0) st27.sub hc31 X X X Tryz.isAgg33)<|Y X X (zag f34 X Tryz.underlying33)<|Y X X (zal X X)<|U<|M ?_
   refine zt rfl (fun c35 => ?_) (fun c35 => ?_)
   ·
    replace c35 := of_decide_eq_true c35
    refine zz<|M<|zd<|zF<|O<|Y X X (zy (v := v_3) X)<|Y X X (zo X)<|Y X X (zo X)<|Y X X (zo X)<|Y X X (r_build (cs := [.int .i64 (i : Int), .int .i64 (n : Int), .int .i64 (m : Int)]) t_kr)<|zV (L := LPlace) (xs := [(Place.mk ((i : Int)) ((n : Int)) ((m : Int)))]) (cs := [.int .i64 (i : Int), .int .i64 (n : Int), .int .i64 (m : Int)]) st27 (Enc.cons (L := LPlace) (vs := [.int .i64 (i : Int), .int .i64 (n : Int), .int .i64 (m : Int)]) (x := (Place.mk ((i : Int)) ((n : Int)) ((m : Int)))) (h := h25) (X) Enc.nil) X X X Tryz.underlying63 Tryz.info52 X X X t_kr ?_
    intro v36 w37 h40 le41 f38 st39
    refine zP (k := 0) (nb := 24) st39 (hO_3.up le41) rfl f38 rfl rfl rfl Tryz.underlying63 Tryz.info52 rfl rfl rfl (by decide) rfl (by have q1 := flatMap_len (chapP_len ht) i; have q2 := flatMap_len (lineP_len ht i) n; have q3 := chapters_len ht; have q4 := wordsAt_len ht i n; have q5 := linesAt_len ht i; rw [linesAt_some hc] at q5; rw [wordsAt_some hc hln] at q4; simp only [List.length_append, List.length_map, List.length_range, List.length_cons, List.length_nil]; omega) (by have q1 := flatMap_len (chapP_len ht) i; have q2 := flatMap_len (lineP_len ht i) n; have q3 := chapters_len ht; have q4 := wordsAt_len ht i n; have q5 := linesAt_len ht i; rw [linesAt_some hc] at q5; rw [wordsAt_some hc hln] at q4; simp only [List.length_append, List.length_map, List.length_range, List.length_cons, List.length_nil]; omega) ?_
    intro v42 o43 w44 _ e45 f46 st47
    subst e45
    refine Y X X (zD (v := v42) X)<|U<|zI<|M<|O<|Y X X (zo X)<|Y X X (zah X X t_om)<|Y X X (zx X)<|U<|M ?_
    refine ⟨⟨m + 1, v42, o43, h40⟩, ⟨rfl, rfl, trivial⟩, ?_, ⟨(le26.trans le41), st47, ?_, ?_⟩, ?_⟩
    ·exact zae
    ·refine OSl.to f46 ?_
     rw [List.range_succ, List.map_append, List.append_assoc]; rfl
    ·first | omega | (simp; omega)
    ·show ln.length - ((m + 1)) < ln.length - m
     omega
   ·
    replace c35 := of_decide_eq_false c35
    refine zab<|zn<|zn<|zT<|zI<|M<|O<|Y X X (zo X)<|Y X X (zah X X t_om)<|Y X X (zx X)<|U<|M ?_
    refine ⟨⟨n + 1, v_3, o_3, h25⟩, ⟨rfl, rfl, trivial⟩, ?_, ⟨(le15.trans le26), st27, ?_, ?_⟩, ?_⟩
    ·exact zae
    ·refine OSl.to hO_3 ?_
     rw [range_flat_succ, ← lineP_snoc hc hln (w := m) (by omega), List.append_assoc]
    ·first | omega | (simp; omega)
    ·show c.lines.length - ((n + 1)) < c.lines.length - n
     omega
  ·
   replace c24 := of_decide_eq_false c24
   refine zab<|zn<|zn<|zT<|zI<|M<|O<|Y X X (zo X)<|Y X X (zah X X t_om)<|Y X X (zx X)<|U<|M ?_
   refine ⟨⟨i + 1, v_3, o_3, h14⟩, ⟨rfl, rfl, trivial⟩, ?_, ⟨(le8.trans le15), st16, ?_, ?_⟩, ?_⟩
   ·exact zae
   ·refine OSl.to hO_3 ?_
    rw [range_flat_succ, ← chapP_snoc hc (n := n) (by omega)]
   ·first | omega | (simp; omega)
   ·show t.chapters.length - ((i + 1)) < t.chapters.length - i
    omega
 ·
  replace c13 := of_decide_eq_false c13
  refine zab<|zn<|zn<|zT<|M<|zd<|O<|Y X X (zy (v := v_3) X)<|Y X X (zD (v := v_3) X)<|U<|M<|zA<|zi Tryz.results59 ?_
  obtain ⟨h48, le49, f50, st51⟩ := OSl.freeze (k := 0) st9 hO_3 rfl (by have q1 := flatMap_len (chapP_len ht) i; have q3 := chapters_len ht; omega)
  refine ⟨h48, _, rfl, st51.done, ?_⟩
  refine ⟨_, rfl, Sl.to f50 ?_⟩
  rw [show i = t.chapters.length by omega]; rfl
end Go.Pk

namespace Go.Pk
open Go Go.RowKit Go.Proofs
set_option maxRecDepth 4000 in
theorem c_postilref01_WordAt {h : Heap} {w : World} (hs : Sub h w) {t : Text} {t_v0 : Value} (t_f0 : Sl LChapter h t_v0 t.chapters) {p : Place} (hp : placeB t p = true) : Calls Tryz.prog 61 #[.agg #[t_v0], .agg #[.int .i64 p.chapter, .int .i64 p.line, .int .i64 p.word]] w (Rets h w (fun _ _ res_ => res_ = strV (wordD t p))) := by
 refine zM (n := 20) (args := [.agg #[t_v0], .agg #[.int .i64 p.chapter, .int .i64 p.line, .int .i64 p.word]]) Tryz.func61 X X X ?_
 have st0 : St h w h w [] := St.start hs
 have t_f0_b := t_f0.le
 obtain ⟨c, ln, wd, hpc, hc, hpl, hln, hpw, hwd, hwe⟩ := place_at hp
 refine zd<|O<|zr st0 (cs := [t_v0]) X X X ?_
 intro b1 w2 h3 le4 hc5 st6
 refine zr st6 (cs := [.int .i64 (p.chapter), .int .i64 (p.line), .int .i64 (p.word)]) X X X ?_
 intro b7 w8 h9 le10 hc11 st12
 refine Y X X (r_asS X)<|U<|M<|zd<|zai Tryz.mixed t_kr (Cls h9 _) (Cls.drew st12)<|ze X X (fun _ _ => (zc X Tryz.underlying24 X Tryz.sizeOf22 X))<|ze X X (fun _ hC => (zb (j := 0) hC.sub (hc5.up le10) X X X Tryz.isAgg22))<|ze X X (fun _ _ => (zc X Tryz.underlying52 X Tryz.sizeOf3 X))<|ze X X (fun _ hC => (zb (j := 0) hC.sub hc11 X X X Tryz.isAgg3)) ?_
 obtain ⟨b13, o14, _, he16, hc15, hr_c⟩ := Sl.elem (t_f0.up (le4.trans le10)) hc
 obtain ⟨v17, rfl, f18⟩ := hr_c
 have f18_b := f18.le
 refine ze rfl rfl (fun _ _ => (zp he16 rfl rfl (hk := (show _ = ((p.chapter.toNat : Nat) : Int) by omega)) (hu := Tryz.underlying22) (hz := Tryz.sizeOf93))) ?_
 refine ze X X (fun _ _ => (zc X Tryz.underlying93 X Tryz.sizeOf91 X))<|ze X X (fun _ hC => (zb (j := 1) hC.sub hc15 X X X Tryz.isAgg91))<|ze X X (fun _ _ => (zc X Tryz.underlying52 X Tryz.sizeOf3 X))<|ze X X (fun _ hC => (zb (j := 1) hC.sub hc11 X X X Tryz.isAgg3)) ?_
 obtain ⟨b19, o20, _, he22, hc21, hr_ln⟩ := Sl.elem f18 hln
 obtain ⟨v23, rfl, f24⟩ := hr_ln
 have f24_b := f24.le
 refine ze rfl rfl (fun _ _ => (zp he22 rfl rfl (hk := (show _ = ((p.line.toNat : Nat) : Int) by omega)) (hu := Tryz.underlying91) (hz := Tryz.sizeOf33))) ?_
 refine ze X X (fun _ hC => (zb (j := 0) hC.sub hc21 X X X Tryz.isAgg33))<|ze X X (fun _ _ => (zc X Tryz.underlying52 X Tryz.sizeOf3 X))<|ze X X (fun _ hC => (zb (j := 2) hC.sub hc11 X X X Tryz.isAgg3)) ?_
 obtain ⟨b25, o26, _, he28, hc27, hr_wd⟩ := Sl.elem f24 hwd
 obtain ⟨rfl, ls29⟩ := hr_wd
 simp only [big] at ls29
 refine ze rfl rfl (fun _ _ => (zp he28 rfl rfl (hk := (show _ = ((p.word.toNat : Nat) : Int) by omega)) (hu := Tryz.underlying33) (hz := Tryz.sizeOf9))) ?_
 refine ze X X (fun _ hC => (zb (j := 0) hC.sub hc27 X X X Tryz.isAgg9))<|ze X X (fun _ _ => (r_asS X))<|zac ?_
 rintro w30 ⟨h31, s32⟩
 have st33 := st12.call0 s32
 refine M<|zA<|zi Tryz.results61 ?_
 refine ⟨h31, _, rfl, st33.done, ?_⟩
 refine str_eq ?_
 rw [hwe]
set_option maxRecDepth 4000 in
theorem c_postilref04_head {h : Heap} {w : World} (hs : Sub h w) {t : Text} {t_v0 : Value} (t_f0 : Sl LChapter h t_v0 t.chapters) {x : Lexicon} {x_v0 : Value} (x_f0 : Sl LRule h x_v0 x.rules) {x_v1 : Value} (x_f1 : Sl LDecision h x_v1 x.decisions) {l_v : Value} {l : (List Decision)} (l_f : Sl LDecision h l_v l) {p : Place} (hx : checkN t x = 0) (hp : placeB t p = true) : Calls Tryz.prog 73 #[.agg #[t_v0], .agg #[x_v0, x_v1], l_v, .agg #[.int .i64 p.chapter, .int .i64 p.line, .int .i64 p.word]] w (Rets h w (fun _ _ res_ => res_ = .tuple #[.agg #[strV ((headR x l p (wordD t p)).to).stem, .int .u8 ((headR x l p (wordD t p)).to).mark], .int .i64 ((headR x l p (wordD t p)).number)])) := by
 refine zM (n := 62) (args := [.agg #[t_v0], .agg #[x_v0, x_v1], l_v, .agg #[.int .i64 p.chapter, .int .i64 p.line, .int .i64 p.word]]) Tryz.func73 X X X ?_
 have st0 : St h w h w [] := St.start hs
 have t_f0_b := t_f0.le
 have x_f0_b := x_f0.le
 have x_f1_b := x_f1.le
 have l_f_b := l_f.le
 have hw12 := wordD_len (check_text hx) hp
 refine zd<|O<|zr st0 (cs := [t_v0]) X X X ?_
 intro b1 w2 h3 le4 hc5 st6
 refine zr st6 (cs := [x_v0, x_v1]) X X X ?_
 intro b7 w8 h9 le10 hc11 st12
 refine zr st12 (cs := [.int .i64 (p.chapter), .int .i64 (p.line), .int .i64 (p.word)]) X X X ?_
 intro b13 w14 h15 le16 hc17 st18
 refine zO st18 Tryz.zeroValue54 X X ?_
 intro b19 w20 st21
 refine Y X X (zx X)<|U<|M<|zd<|O<|Y X X (zf st21.sub (hc5.up (le10.trans le16)) X Tryz.isAgg24 Tryz.sizeOf24 X)<|Y X X (zf st21.sub hc17 X Tryz.isAgg52 Tryz.sizeOf52 X) ?_
 refine zm st21 rfl rfl rfl Tryz.call61 rfl (c_postilref01_WordAt st21.sub (t := t) (t_f0.up ((le4.trans le10).trans le16)) (p := p) (by exact hp)) ?_
 intro r22 w23 h24 le25 st26 q27
 obtain rfl := q27
 refine Y X X (r_asS X)<|U<|M<|zd<|O<|Y X X (zf st26.sub (hc11.up (le16.trans le25)) X Tryz.isAgg28 Tryz.sizeOf28 X)<|Y X X (r_mvS X) ?_
 refine zm st26 rfl rfl rfl Tryz.call44 rfl (c_postilref04_steps st26.sub (x := x) (x_f0.up (((le4.trans le10).trans le16).trans le25)) (x_f1.up (((le4.trans le10).trans le16).trans le25)) _ zZ (by exact lexicon_rules hx) (by exact hw12)) ?_
 intro r28 w29 h30 le31 st32 q33
 obtain ⟨v34, e36, f35⟩ := q33
 rw [← e36] at f35
 have f35_b := f35.le
 refine Y X X (zD (v := r28) X)<|U<|M<|zd<|O<|Y X X (zy (v := r28) X)<|Y X X (zy (v := r28) X)<|Y X X (zag f35 X Tryz.underlying33) ?_
 refine Y rfl rfl (r_sub rfl rfl (by have := List.length_pos_iff.2 (stepsN_ne x.rules 4 (wordD t p)); omega)) ?_
 have hlst : ∃ y_, (stepsN (x).rules 4 ((wordD (t) (p))))[(stepsN x.rules 4 (wordD t p)).length - 1]? = some y_ := ⟨_, List.getElem?_eq_getElem (by have := List.length_pos_iff.2 (stepsN_ne x.rules 4 (wordD t p)); omega)⟩
 obtain ⟨lst, hlst⟩ := hlst
 obtain ⟨b37, o38, _, he40, hc39, hr_lst⟩ := Sl.elem f35 hlst
 obtain ⟨rfl, ls41⟩ := hr_lst
 simp only [big] at ls41
 refine Y rfl rfl (zp he40 rfl rfl (hk := (show _ = (((stepsN x.rules 4 (wordD t p)).length - 1 : Nat) : Int) by have := List.length_pos_iff.2 (stepsN_ne x.rules 4 (wordD t p)); omega)) (hu := Tryz.underlying33) (hz := Tryz.sizeOf9)) ?_
 refine Y X X (zb (j := 0) st32.sub hc39 X X X Tryz.isAgg9)<|Y X X (r_build (cs := [strV lst, .int .u8 0]) t_kr)<|Y X X (r_build (cs := [.int .i64 0, .int .u8 0, strV [], .int .i64 0, .int .i64 0, .int .i64 0, strV lst, .int .u8 0, .int .i64 0]) t_kr)<|zO st32 Tryz.zeroValue56 X X ?_
 intro b42 w43 st44
 refine zB st44 (k := 1) X X X (zg X (zg X (zg X (zg X (zg X (zg X (zg X (zg X (zg X zU))))))))) Tryz.sizeOf56 X X X ?_
 intro w45 st46
 refine U<|M<|zd<|zd ?_
 have hls : lst = ((stepsN x.rules 4 (wordD t p)).getLast?).getD [] := by rw [List.getLast?_eq_getElem?, hlst]; rfl
 refine O<|Y X X (zx X)<|U<|M<|zF ?_
 refine zX [13, 28, 29, 30, 31, 32, 33, 34, 35, 36, 37, 38, 39, 40, 41, 42, 43, 44, 45, 46, 47, 48, 49, 50, 51, 52, 53, 54, 55, 56, 57] (G := Nat × Decision × Heap) (fun ⟨k, b, h47⟩ => [(13, .int .i64 (k : Int))]) (fun ⟨k, b, h47⟩ w' => Le h30 h47 ∧ St h w h47 w' [[(b19, .cells (List.toArray [strV [], .int .u8 0]) 54)], [(b42, .cells (List.toArray [.int .i64 (b.number), .int .u8 (b.kind), strV (b.form), .int .i64 (b.at_.chapter), .int .i64 (b.at_.line), .int .i64 (b.at_.word), strV (b.to.stem), .int .u8 (b.to.mark), .int .i64 (b.of_)]) 56)]] ∧ (k ≤ l.length) ∧ (b = (l.take k).foldl (stepR p (wordD t p)) (headR0 x (wordD t p))) ∧ ((0 ≤ b.kind ∧ b.kind ≤ 255) ∧ b.form.length ≤ 281474976710656 ∧ b.to.stem.length ≤ 281474976710656 ∧ (0 ≤ b.to.mark ∧ b.to.mark ≤ 255))) (fun ⟨k, b, h47⟩ => l.length - k) ⟨0, { zDecision with to := ⟨lst, 0⟩ }, h30⟩ ⟨rfl, trivial⟩ ⟨Le.refl _, st46, zak, (by rw [headR0, ← hls]; rfl), (by refine ⟨?_, ?_, ?_, ?_⟩ <;> first | assumption | (simp [zDecision]; done))⟩ ?_
 rintro ⟨k, b, h47⟩ _ w50 ⟨le48, st49, hk, hf, hb⟩
 obtain ⟨hb1, hb2, hb3, hb4⟩ := hb
 refine zd<|zd<|O<|Y X X (zo X)<|Y X X (zy (v := l_v) X)<|Y X X (zag (l_f.up (((((le4.trans le10).trans le16).trans le25).trans le31).trans le48)) X Tryz.underlying26)<|Y X X (zal X X)<|U<|M ?_
 refine zt rfl (fun c51 => ?_) (fun c51 => ?_)
 ·
  replace c51 := of_decide_eq_true c51
  refine zz<|M<|zd<|zF<|zd<|zai Tryz.mixed t_kr (Cls h47 _) (Cls.drew st49)<|ze X X (fun _ _ => (zy (v := l_v) X))<|ze X X (fun _ _ => (zo X)) ?_
  have hd : ∃ y_, (l)[k]? = some y_ := ⟨_, List.getElem?_eq_getElem (by omega)⟩
  obtain ⟨d, hd⟩ := hd
  obtain ⟨b52, o53, _, he55, hc54, hr_d⟩ := Sl.elem (l_f.up (((((le4.trans le10).trans le16).trans le25).trans le31).trans le48)) hd
  obtain ⟨rfl, lu56, ls57, ls58, lu59⟩ := hr_d
  simp only [big] at ls57
  simp only [big] at ls58
  refine ze X X (fun _ _ => (zp he55 X X (hk := X) (hu := Tryz.underlying26) (hz := Tryz.sizeOf56)))<|ze X X (fun _ hC => (zf hC.sub hc54 X Tryz.isAgg56 Tryz.sizeOf56 X))<|ze X X (fun _ hC => (zf hC.sub (hc17.up ((le25.trans le31).trans le48)) X Tryz.isAgg52 Tryz.sizeOf52 X))<|ze X X (fun _ _ => (r_mvS X))<|OpsQ.calls X X (fun _ => zaj X Tryz.call109 X) (fun _ hC => Rets.quiet hC (c_postilref04_Concerns hC.sub (d := d) t_u8 zZ zZ t_u8 (p := p) _ zZ))<|ze X X (fun _ _ => (zN X)) ?_
  refine OpsQ.split (d := 41) rfl (fun g60 => ?_) (fun g60 => ?_)
  ·
   refine zq X X (d := 41) X<|ze X X (fun _ _ => (zc X Tryz.underlying56 X Tryz.sizeOf3 X))<|zq X X (d := 41) X<|ze X X (fun _ hC => (zaq (hC.block (st49.get (k := 1) X)) X X Tryz.isAgg3))<|zq X X (d := 41) X<|ze X X (fun _ _ => (r_eql X X))<|zq X X (d := 41) X<|ze X X (fun _ _ => (zN X)) ?_
   refine OpsQ.split (d := 45) rfl (fun g61 => ?_) (fun g61 => ?_)
   ·
    replace g61 := of_decide_eq_true g61
    refine zj X X (d := 45) X X X<|zj X X (d := 45) X X X<|zj X X (d := 45) X X X<|zj X X (d := 45) X X X<|zj X X (d := 45) X X X<|zj X X (d := 45) X X X<|zq X X (d := 41) X<|ze X X (fun _ _ => (zK (v := (.bool _)) X X))<|ze X X (fun _ _ => (zK (v := (.bool _)) X X))<|zac ?_
    rintro w62 ⟨h63, s64⟩
    have st65 := st49.call0 s64
    refine M ?_
    refine zt rfl (fun c66 => ?_) (fun c66 => ?_)
    ·
     refine O<|Y X X (zy (v := l_v) X)<|Y X X (zo X)<|Y X X (zp he55 X X (hk := X) (hu := Tryz.underlying26) (hz := Tryz.sizeOf56))<|Y X X (zf st65.sub (hc54.up s64.le) X Tryz.isAgg56 Tryz.sizeOf56 X)<|zB st65 (k := 1) X X X (zg X (zg X (zg X (zg X (zg X (zg X (zg X (zg X (zg X zU))))))))) Tryz.sizeOf56 X X X ?_
     intro w67 st68
     refine U<|zI<|M<|O<|Y X X (zo X)<|Y X X (zah X X t_om)<|Y X X (zx X)<|U<|M ?_
     refine ⟨⟨k + 1, d, h63⟩, ⟨rfl, trivial⟩, ?_, ⟨(le48.trans s64.le), st68, ?_, ?_, ?_⟩, ?_⟩
     ·exact zae
     ·first | omega | (simp; omega)
     ·rw [take_snoc hd, List.foldl_append, ← hf]; simp only [List.foldl_cons, List.foldl_nil, stepR]
      rw [if_pos ⟨by simpa using g60, .inl (by simpa using g61)⟩]
     ·exact ⟨by assumption, by assumption, by assumption, by assumption⟩
     ·show l.length - ((k + 1)) < l.length - k
      omega
    ·
     cases c66
   ·
    replace g61 := of_decide_eq_false g61
    refine zq X X (d := 45) X<|ze X X (fun _ _ => (zy (v := l_v) X))<|zq X X (d := 45) X<|ze X X (fun _ _ => (zo X))<|zq X X (d := 45) X<|ze X X (fun _ _ => (zp he55 X X (hk := X) (hu := Tryz.underlying26) (hz := Tryz.sizeOf56)))<|zq X X (d := 45) X<|ze X X (fun _ hC => (zf hC.sub hc54 X Tryz.isAgg56 Tryz.sizeOf56 X))<|zq X X (d := 45) X<|ze X X (fun _ hC => (r_load_ball (hC.block (st49.get (k := 1) X)) X Tryz.isAgg56 Tryz.sizeOf56 X))<|zq X X (d := 45) X<|OpsQ.calls X X (fun _ => zaj X Tryz.call110 X) (fun _ hC => Rets.quiet hC (c_postilref04_better hC.sub (d := d) t_u8 zZ zZ t_u8 (e := b) t_u8 zZ zZ t_u8))<|zq X X (d := 41) X<|ze X X (fun _ _ => (zC (v := (.bool _)) X X))<|ze X X (fun _ _ => (zK (v := (.bool _)) X X))<|zac ?_
    rintro w69 ⟨h70, s71⟩
    have st72 := st49.call0 s71
    refine M ?_
    refine zt rfl (fun c73 => ?_) (fun c73 => ?_)
    ·
     refine O<|Y X X (zy (v := l_v) X)<|Y X X (zo X)<|Y X X (zp he55 X X (hk := X) (hu := Tryz.underlying26) (hz := Tryz.sizeOf56))<|Y X X (zf st72.sub (hc54.up s71.le) X Tryz.isAgg56 Tryz.sizeOf56 X)<|zB st72 (k := 1) X X X (zg X (zg X (zg X (zg X (zg X (zg X (zg X (zg X (zg X zU))))))))) Tryz.sizeOf56 X X X ?_
     intro w74 st75
     refine U<|zI<|M<|O<|Y X X (zo X)<|Y X X (zah X X t_om)<|Y X X (zx X)<|U<|M ?_
     refine ⟨⟨k + 1, d, h70⟩, ⟨rfl, trivial⟩, ?_, ⟨(le48.trans s71.le), st75, ?_, ?_, ?_⟩, ?_⟩
     ·exact zae
     ·first | omega | (simp; omega)
     ·rw [take_snoc hd, List.foldl_append, ← hf]; simp only [List.foldl_cons, List.foldl_nil, stepR]
      rw [if_pos ⟨by simpa using g60, .inr (by simpa using c73)⟩]
     ·exact ⟨by assumption, by assumption, by assumption, by assumption⟩
     ·show l.length - ((k + 1)) < l.length - k
      omega
    ·
     refine zz<|zI<|M<|O<|Y X X (zo X)<|Y X X (zah X X t_om)<|Y X X (zx X)<|U<|M ?_
     refine ⟨⟨k + 1, b, h70⟩, ⟨rfl, trivial⟩, ?_, ⟨(le48.trans s71.le), st72, ?_, ?_, ?_⟩, ?_⟩
     ·exact zae
     ·first | omega | (simp; omega)
     ·rw [take_snoc hd, List.foldl_append, ← hf]; simp only [List.foldl_cons, List.foldl_nil, stepR]
      rw [if_neg]
      rintro ⟨q1, q2⟩
      simp_all
     ·exact ⟨by assumption, by assumption, by assumption, by assumption⟩
     ·show l.length - ((k + 1)) < l.length - k
      omega
  ·
   refine zj X X (d := 41) X X X<|zj X X (d := 41) X X X<|zj X X (d := 41) X X X<|zj X X (d := 41) X X X<|OpsQ.skippedU X X (d := 45) X X<|OpsQ.skippedU X X (d := 45) X X<|OpsQ.skippedU X X (d := 45) X X<|OpsQ.skippedU X X (d := 45) X X<|OpsQ.skippedU X X (d := 45) X X<|OpsQ.skippedU X X (d := 45) X X<|zj X X (d := 41) X X X<|ze X X (fun _ _ => (zC (v := (.bool _)) X X))<|zac ?_
   rintro w76 ⟨h77, s78⟩
   have st79 := st49.call0 s78
   refine M ?_
   refine zt rfl (fun c80 => ?_) (fun c80 => ?_)
   ·
    cases c80
   ·
    refine zz<|zI<|M<|O<|Y X X (zo X)<|Y X X (zah X X t_om)<|Y X X (zx X)<|U<|M ?_
    refine ⟨⟨k + 1, b, h77⟩, ⟨rfl, trivial⟩, ?_, ⟨(le48.trans s78.le), st79, ?_, ?_, ?_⟩, ?_⟩
    ·exact zae
    ·first | omega | (simp; omega)
    ·rw [take_snoc hd, List.foldl_append, ← hf]; simp only [List.foldl_cons, List.foldl_nil, stepR]
     rw [if_neg]
     rintro ⟨q1, q2⟩
     simp_all
    ·exact ⟨by assumption, by assumption, by assumption, by assumption⟩
    ·show l.length - ((k + 1)) < l.length - k
     omega
 ·
  replace c51 := of_decide_eq_false c51
  refine zab<|zn<|zn<|zT<|M<|zd ?_
  obtain ⟨h81, le82, hb83, st85⟩ := st49.freeze (k := 1) rfl
  have hc84 := Cells.of hb83
  refine zaa (er := ([], [], [], [], 0)) (dsts := [58, 59, 60, 61, 9]) st85 Tryz.mixed<|zh 0 [] X t_kr t_kr X X (fun hD wD τD hL hS hO  => (zc X Tryz.underlying56 X Tryz.sizeOf54 X))<|zh 1 [0] X t_kr t_kr X X (fun hD wD τD hL hS hO _ _ => (zR (j := 6) (hL.sub hS) hc84 (us := [strV (b.to.stem), .int .u8 (b.to.mark)]) X X Tryz.isAgg54 Tryz.sizeOf54 X X))<|zh 2 [] X t_kr t_kr X X (fun hD wD τD hL hS hO  => (zc X Tryz.underlying56 X Tryz.sizeOf3 X))<|zh 3 [0] X t_kr t_kr X X (fun hD wD τD hL hS hO _ _ => (zb (j := 0) (hL.sub hS) hc84 X X X Tryz.isAgg3))<|zaf<|zh 5 [4, 3, 2, 1, 0] X t_kr t_kr X X (fun hD wD τD hL hS hO _ _ _ _ _ _ _ _ => (zx X))<|zan X X X X X X ⟨t_kr, X, t_kr, X, t_kr, X, X, t_kr, (zY X cx_nil)⟩ ?_
  intro hE87 w88 _ le89 st90 _ _ _ _
  refine zB st90 (k := 0) X X X (zg X (zg X zU)) Tryz.sizeOf54 X X X ?_
  intro w91 st92
  obtain ⟨h93, le94, hb95, st97⟩ := st92.freeze (k := 0) rfl
  have hc96 := Cells.of hb95
  refine U ⟨undef, rfl, _, _, le94, st97, ?_⟩
  intro hE98 w99 _ le100 st101 _ _ _ _ _ _ _ _ _ _
  refine AllDeps.fin X<|M<|zA<|Post.retcell2F Tryz.results73 X Tryz.isAgg54 Tryz.sizeOf54 X st101.sub (hc96.up le100) ?_
  refine ⟨hE98, _, rfl, st101.done, ?_⟩
  refine tup2 ?_ (zW ?_)
  all_goals (rw [hf, List.take_of_length_le (by omega)]; rfl)
end Go.Pk
