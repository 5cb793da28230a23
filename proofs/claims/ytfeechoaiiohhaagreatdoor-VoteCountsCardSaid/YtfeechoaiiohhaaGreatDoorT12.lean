/- A PART OF THE PROOF: contracts of functions, each walked once (much of it printed by a program of the author's own). -/
import Derived.Test.YtfeechoaiiohhaaGreatDoorT8
import Derived.Test.YtfeechoaiiohhaaGreatDoorT7
import Derived.Test.YtfeechoaiiohhaaGreatDoorT3
import Derived.Test.YtfeechoaiiohhaaGreatDoorT6
import Derived.Test.YtfeechoaiiohhaaGreatDoorT2
import Derived.Test.YtfeechoaiiohhaaGreatDoorT1
set_option linter.unusedSimpArgs false
set_option linter.unusedVariables false
namespace Go.Pk
open Go Go.RowKit Go.Proofs
set_option maxRecDepth 4000 in
theorem c_vote_in_1 {h : Heap} {w : World} (hs : Sub h w) (n : Int) {lo_b : Nat} {lo : Int} (lo_c : Cells h lo_b 0 [.int .i64 lo]) {hi_b : Nat} {hi : Int} (hi_c : Cells h hi_b 0 [.int .i64 hi]) : Calls Tryz.prog 87 #[.int .i64 n, .pointer (some ⟨lo_b, 0, none⟩), .pointer (some ⟨hi_b, 0, none⟩)] w (Rets h w (fun _ _ res_ => res_ = .bool ((decide (n < lo) || decide (hi < n))))) := by
 refine zA (n := 13) (args := [.int .i64 n, .pointer (some ⟨lo_b, 0, none⟩), .pointer (some ⟨hi_b, 0, none⟩)]) Tryz.func87 X X X ?_
 have st0 : St h w h w [] := St.start hs
 refine W.sr<|v_asB X X<|Z<|W.sr<|v_mvI X X<|v_load_cells1 (j := 0) st0.sub lo_c X X X Tryz.isAgg3 X<|v_lss X X X<|v_mvB X X ?_
 refine zw (d := 8) rfl (fun g1 => ?_) (fun g1 => ?_)
 ·
  replace g1 := of_decide_eq_true g1
  refine Y X X X X X<|Y X X X X X<|Y X X X X X<|v_pickT (v := (.bool _)) X X X<|v_asB X X<|Z<|zm<|zb Tryz.results87 ?_
  refine ⟨h, _, rfl, st0.done, ?_⟩
  refine zf ?_
  first | (simp_all; done) | (simp_all; omega)
 ·
  replace g1 := of_decide_eq_false g1
  refine M X X (d := 8) X<|v_mvI X X<|M X X (d := 8) X<|v_load_cells1 (j := 0) st0.sub hi_c X X X Tryz.isAgg3 X<|M X X (d := 8) X<|v_gtr X X X<|v_pickF (v := (.bool _)) X X X<|v_asB X X<|Z<|zm<|zb Tryz.results87 ?_
  refine ⟨h, _, rfl, st0.done, ?_⟩
  refine zf ?_
  first | (simp_all; done) | (simp_all; omega)
set_option maxRecDepth 4000 in
theorem c_vote_in {h : Heap} {w : World} (hs : Sub h w) (lo : Int) (hi : Int) {all__v : Value} {all_ : (List Int)} (all__f : Sl LInt h all__v all_) : Calls Tryz.prog 39 #[.int .i64 lo, .int .i64 hi, all__v] w (Rets h w (fun _ _ res_ => res_ = .bool (inAll all_ lo hi))) := by
 refine zA (n := 11) (args := [.int .i64 lo, .int .i64 hi, all__v]) Tryz.func39 X X X ?_
 have st0 : St h w h w [] := St.start hs
 have all__f_b := all__f.le
 refine W.sr<|zz st0 (cs := [.int .i64 lo]) X X X ?_
 intro b1 w2 h3 le4 hc5 st6
 refine zz st6 (cs := [.int .i64 hi]) X X X ?_
 intro b7 w8 h9 le10 hc11 st12
 refine v_asB X X<|Z<|W.sr<|v_move (v := all__v) X X<|v_make_func X X X ?_
 refine zi st12 rfl rfl rfl Tryz.call86 rfl (c_slices_ContainsFunc_Lint_int st12.sub (all__f.up (le4.trans le10)) (fun x_ => (decide ((x_) < (lo)) || decide ((hi) < (x_)))) Tryz.call87 (fun x_ h_ w_ vs_ le_ hs_ hx_ hr_ u_ hu_ => by cases hu_; cases hr_; exact c_vote_in_1 hs_ _ (lo := lo) ((hc5.up le10).up le_) (hi := hi) (hc11.up le_))) ?_
 intro r13 w14 h15 le16 st17 q18
 obtain rfl := q18
 refine v_not X X<|v_asB X X<|Z<|zm<|zb Tryz.results39 ?_
 refine ⟨h15, _, rfl, st17.done, ?_⟩
 refine zf ?_
 exact inAll_eq all_ lo hi
set_option maxRecDepth 4000 in
theorem c_cmp_isNaN_uint8 {h : Heap} {w : World} (hs : Sub h w) (x : Int) (x_l : 0 ≤ x ∧ x ≤ 255) : Calls Tryz.prog 149 #[.int .u8 x] w (Rets h w (fun _ _ res_ => res_ = .bool (false))) := by
 refine zA (n := 6) (args := [.int .u8 x]) Tryz.func149 X X X ?_
 have st0 : St h w h w [] := St.start hs
 refine W.sr<|v_asB X X<|Z<|W.sr<|v_mvI X X<|v_mvI X X<|v_neq X X X<|v_asB X X<|Z<|zm<|zb Tryz.results149 ?_
 refine ⟨h, _, rfl, st0.done, ?_⟩
 refine zf ?_
 simp
set_option maxRecDepth 4000 in
theorem c_cmp_isNaN_string {h : Heap} {w : World} (hs : Sub h w) (x : Str) (x_le : x.length ≤ 281474976710656) : Calls Tryz.prog 148 #[strV x] w (Rets h w (fun _ _ res_ => res_ = .bool (false))) := by
 refine zA (n := 6) (args := [strV x]) Tryz.func148 X X X ?_
 have st0 : St h w h w [] := St.start hs
 refine W.sr<|v_asB X X<|Z<|W.sr<|v_mvS X X<|v_mvS X X<|zr X X (r_sneq X X)<|v_asB X X<|Z<|zm<|zb Tryz.results148 ?_
 refine ⟨h, _, rfl, st0.done, ?_⟩
 refine zf ?_
 simp
set_option maxRecDepth 4000 in
theorem c_cmp_Compare_uint8 {h : Heap} {w : World} (hs : Sub h w) (a : Int) (a_l : 0 ≤ a ∧ a ≤ 255) (b : Int) (b_l : 0 ≤ b ∧ b ≤ 255) : Calls Tryz.prog 108 #[.int .u8 a, .int .u8 b] w (Rets h w (fun _ _ res_ => res_ = .int .i64 (cmpI a b))) := by
 refine zA (n := 20) (args := [.int .u8 a, .int .u8 b]) Tryz.func108 X X X ?_
 have st0 : St h w h w [] := St.start hs
 refine W.sr<|v_asI X X<|Z<|W.sr<|v_mvI X X ?_
 refine zi st0 rfl rfl rfl Tryz.call149 rfl (c_cmp_isNaN_uint8 st0.sub _ (by omega)) ?_
 intro r1 w2 h3 le4 st5 q6
 obtain rfl := q6
 refine v_asB X X<|Z<|W.sr<|v_mvI X X ?_
 refine zi st5 rfl rfl rfl Tryz.call149 rfl (c_cmp_isNaN_uint8 st5.sub _ (by omega)) ?_
 intro r7 w8 h9 le10 st11 q12
 obtain rfl := q12
 refine v_asB X X<|Z<|zj<|W.sr<|v_mvB X X<|Z ?_
 refine zk rfl (fun c13 => ?_) (fun c13 => ?_)
 ·
  refine zj<|W.sr<|v_mvB X X<|Z ?_
  refine zk rfl (fun c14 => ?_) (fun c14 => ?_)
  ·
   refine W.sr<|v_asI X X<|Z<|zm<|za<|za<|zb Tryz.results108 ?_
   refine ⟨h9, _, rfl, st11.done, ?_⟩
   refine zE ?_
   all_goals (unfold cmpI; repeat' split)
   all_goals (first | omega | simp_all | rfl)
  ·
   refine zq<|U<|W.sr<|v_asI X X<|Z<|zm<|za<|zb Tryz.results108 ?_
   refine ⟨h9, _, rfl, st11.done, ?_⟩
   refine zE ?_
   all_goals (unfold cmpI; repeat' split)
   all_goals (first | omega | simp_all | rfl)
 ·
  refine zq<|U<|zj<|W.sr<|v_mvB X X<|Z ?_
  refine zk rfl (fun c15 => ?_) (fun c15 => ?_)
  ·
   refine W.sr<|v_asI X X<|Z<|zm<|za<|zb Tryz.results108 ?_
   refine ⟨h9, _, rfl, st11.done, ?_⟩
   refine zE ?_
   all_goals (unfold cmpI; repeat' split)
   all_goals (first | omega | simp_all | rfl)
  ·
   refine zq<|U<|zj<|W.sr<|v_mvI X X<|v_mvI X X<|v_lss X X X<|Z ?_
   refine zk rfl (fun c16 => ?_) (fun c16 => ?_)
   ·
    replace c16 := of_decide_eq_true c16
    refine W.sr<|v_asI X X<|Z<|zm<|za<|zb Tryz.results108 ?_
    refine ⟨h9, _, rfl, st11.done, ?_⟩
    refine zE ?_
    all_goals (unfold cmpI; repeat' split)
    all_goals (first | omega | simp_all | rfl)
   ·
    replace c16 := of_decide_eq_false c16
    refine zq<|U<|zj<|W.sr<|v_mvI X X<|v_mvI X X<|v_gtr X X X<|Z ?_
    refine zk rfl (fun c17 => ?_) (fun c17 => ?_)
    ·
     replace c17 := of_decide_eq_true c17
     refine W.sr<|v_asI X X<|Z<|zm<|za<|zb Tryz.results108 ?_
     refine ⟨h9, _, rfl, st11.done, ?_⟩
     refine zE ?_
     all_goals (unfold cmpI; repeat' split)
     all_goals (first | omega | simp_all | rfl)
    ·
     replace c17 := of_decide_eq_false c17
     refine zq<|U<|W.sr<|v_asI X X<|Z<|zm<|zb Tryz.results108 ?_
     refine ⟨h9, _, rfl, st11.done, ?_⟩
     refine zE ?_
     all_goals (unfold cmpI; repeat' split)
     all_goals (first | omega | simp_all | rfl)
set_option maxRecDepth 4000 in
theorem c_cmp_Compare_string {h : Heap} {w : World} (hs : Sub h w) (a : Str) (a_le : a.length ≤ 281474976710656) (b : Str) (b_le : b.length ≤ 281474976710656) : Calls Tryz.prog 107 #[strV a, strV b] w (Rets h w (fun _ _ res_ => res_ = .int .i64 (cmpT a b))) := by
 refine zA (n := 20) (args := [strV a, strV b]) Tryz.func107 X X X ?_
 have st0 : St h w h w [] := St.start hs
 refine W.sr<|v_asI X X<|Z<|W.sr<|v_mvS X X<|zi st0 X X X Tryz.call148 X (c_cmp_isNaN_string st0.sub _ t_str) ?_
 intro r1 w2 h3 le4 st5 q6
 obtain rfl := q6
 refine v_asB X X<|Z<|W.sr<|v_mvS X X<|zi st5 X X X Tryz.call148 X (c_cmp_isNaN_string st5.sub _ t_str) ?_
 intro r7 w8 h9 le10 st11 q12
 obtain rfl := q12
 refine v_asB X X<|Z<|zj<|W.sr<|v_mvB X X<|Z ?_
 refine zk rfl (fun c13 => ?_) (fun c13 => ?_)
 ·
  refine zj<|W.sr<|v_mvB X X<|Z ?_
  refine zk rfl (fun c14 => ?_) (fun c14 => ?_)
  ·
   refine W.sr<|v_asI X X<|Z<|zm<|za<|za<|zb Tryz.results107 ?_
   refine ⟨h9, _, rfl, st11.done, ?_⟩
   refine zE ?_
   all_goals simp_all [cmpT, sLt]
  ·
   refine zq<|U<|W.sr<|v_asI X X<|Z<|zm<|za<|zb Tryz.results107 ?_
   refine ⟨h9, _, rfl, st11.done, ?_⟩
   refine zE ?_
   all_goals simp_all [cmpT, sLt]
 ·
  refine zq<|U<|zj<|W.sr<|v_mvB X X<|Z ?_
  refine zk rfl (fun c15 => ?_) (fun c15 => ?_)
  ·
   refine W.sr<|v_asI X X<|Z<|zm<|za<|zb Tryz.results107 ?_
   refine ⟨h9, _, rfl, st11.done, ?_⟩
   refine zE ?_
   all_goals simp_all [cmpT, sLt]
  ·
   refine zq<|U<|zj<|W.sr<|v_mvS X X<|v_mvS X X<|zr X X (r_slss X X)<|Z ?_
   refine zk rfl (fun c16 => ?_) (fun c16 => ?_)
   ·
    refine W.sr<|v_asI X X<|Z<|zm<|za<|zb Tryz.results107 ?_
    refine ⟨h9, _, rfl, st11.done, ?_⟩
    refine zE ?_
    all_goals simp_all [cmpT, sLt]
   ·
    refine zq<|U<|zj<|W.sr<|v_mvS X X<|v_mvS X X<|zr X X (r_sgtr X X)<|Z ?_
    refine zk rfl (fun c17 => ?_) (fun c17 => ?_)
    ·
     refine W.sr<|v_asI X X<|Z<|zm<|za<|zb Tryz.results107 ?_
     refine ⟨h9, _, rfl, st11.done, ?_⟩
     refine zE ?_
     all_goals simp_all [cmpT, sLt]
    ·
     refine zq<|U<|W.sr<|v_asI X X<|Z<|zm<|zb Tryz.results107 ?_
     refine ⟨h9, _, rfl, st11.done, ?_⟩
     refine zE ?_
     all_goals simp_all [cmpT, sLt]
set_option maxRecDepth 4000 in
theorem c_cmp_Or_int {h : Heap} {w : World} (hs : Sub h w) {l_v : Value} {l : (List Int)} (l_f : Sl LInt h l_v l) : Calls Tryz.prog 48 #[l_v] w (Rets h w (fun _ _ res_ => res_ = .int .i64 ((orL l)))) := by
 refine zA (n := 18) (args := [l_v]) Tryz.func48 X X X ?_
 have st0 : St h w h w [] := St.start hs
 have l_f_b := l_f.le
 refine W.sr<|v_asI X X<|Z<|W.sr<|v_asI X X<|Z<|zj<|W.sr<|v_move (v := l_v) X X<|v_len l_f X Tryz.underlying42 X<|v_mvI X X<|Z<|zt ?_
 refine zJ [2, 5, 8, 9, 10, 11, 12, 13, 14, 15, 16] (G := Nat × Heap) (fun ⟨k, h1⟩ => [(8, .int .i64 (k : Int))]) (fun ⟨k, h1⟩ w' => Le h h1 ∧ St h w h1 w' [] ∧ (k ≤ l.length) ∧ (orL l = orL (l.drop k))) (fun ⟨k, h1⟩ => l.length - k) ⟨0, h⟩ ⟨rfl, trivial⟩ ⟨Le.refl _, st0, zO, (by rfl)⟩ ?_
 rintro ⟨k, h1⟩ _ w4 ⟨le2, st3, hk, he⟩
 refine W.sr<|v_lss X X X<|Z<|zj ?_
 refine zk rfl (fun c5 => ?_) (fun c5 => ?_)
 ·
  replace c5 := of_decide_eq_true c5
  refine zq<|U<|zj<|zt<|W.sr ?_
  have ha : ∃ y_, (l)[k]? = some y_ := ⟨_, List.getElem?_eq_getElem (by omega)⟩
  obtain ⟨a, ha⟩ := ha
  obtain ⟨b6, o7, _, he9, hc8, hr_a⟩ := Sl.elem (l_f.up le2) ha
  obtain rfl := hr_a
  refine v_index_el he9 X X (hk := X) (hu := Tryz.underlying42) (hz := Tryz.sizeOf3) X<|v_load_cells1 (j := 0) st3.sub hc8 X X X Tryz.isAgg3 X<|v_asI X X<|Z<|W.sr<|v_mvI X X<|v_mvI X X<|v_neq X X X<|Z ?_
  refine zk rfl (fun c10 => ?_) (fun c10 => ?_)
  ·
   replace c10 := of_decide_eq_true c10
   refine W.sr<|v_mvI X X<|v_asI X X<|Z<|zm<|zl<|za<|za<|zl<|za<|zb Tryz.results48 ?_
   refine ⟨h1, _, rfl, st3.done, ?_⟩
   refine zE ?_
   rw [he, orL_drop ha, if_pos (by simpa using c10)]
  ·
   replace c10 := of_decide_eq_false c10
   refine zq<|zy<|U<|zo<|v_add X X t_om X<|v_mvI X X<|Z ?_
   refine ⟨⟨k + 1, h1⟩, ⟨rfl, trivial⟩, ?_, ⟨le2, st3, ?_, ?_⟩, ?_⟩
   ·exact zL
   ·first | omega | (simp; omega)
   ·rw [he, orL_drop ha, if_neg (by simpa using c10)]
   ·show l.length - ((k + 1)) < l.length - k
    omega
 ·
  replace c5 := of_decide_eq_false c5
  refine zM<|zh<|zh<|zF<|U<|W.sr<|v_mvI X X<|v_asI X X<|Z<|zm<|zb Tryz.results48 ?_
  refine ⟨h1, _, rfl, st3.done, ?_⟩
  refine zE ?_
  rw [he, List.drop_eq_nil_of_le (by omega)]; rfl
set_option maxRecDepth 4000 in
theorem c_vote_places {h : Heap} {w : World} (hs : Sub h w) {a : Place} {b : Place} : Calls Tryz.prog 65 #[.agg #[.int .i64 a.chapter, .int .i64 a.line, .int .i64 a.word], .agg #[.int .i64 b.chapter, .int .i64 b.line, .int .i64 b.word]] w (Rets h w (fun _ _ res_ => res_ = .int .i64 ((orL [cmpI a.chapter b.chapter, cmpI a.line b.line, cmpI a.word b.word])))) := by
 refine zA (n := 22) (args := [.agg #[.int .i64 a.chapter, .int .i64 a.line, .int .i64 a.word], .agg #[.int .i64 b.chapter, .int .i64 b.line, .int .i64 b.word]]) Tryz.func65 X X X ?_
 have st0 : St h w h w [] := St.start hs
 refine W.sr<|zz st0 (cs := [.int .i64 (a.chapter), .int .i64 (a.line), .int .i64 (a.word)]) X X X ?_
 intro b1 w2 h3 le4 hc5 st6
 refine zz st6 (cs := [.int .i64 (b.chapter), .int .i64 (b.line), .int .i64 (b.word)]) X X X ?_
 intro b7 w8 h9 le10 hc11 st12
 refine v_asI X X<|Z<|zj<|W.regionR (er := ([], [], [], [], 0)) (dsts := [5, 6, 7, 8, 9, 10, 11, 12, 13, 14, 15, 16, 17, 18, 19, 20, 21, 4]) st12 Tryz.mixed<|zp 0 [] X t_kr t_kr X X (fun hD wD τD hL hS hO  => (zB X Tryz.underlying73 X Tryz.sizeOf3 X))<|zp 1 [0] X t_kr t_kr X X (fun hD wD τD hL hS hO _ _ => (zc (j := 0) (hL.sub hS) (hc5.up le10) X X X Tryz.isAgg3))<|zp 2 [] X t_kr t_kr X X (fun hD wD τD hL hS hO  => (zB X Tryz.underlying73 X Tryz.sizeOf3 X))<|zp 3 [0] X t_kr t_kr X X (fun hD wD τD hL hS hO _ _ => (zc (j := 0) (hL.sub hS) hc11 X X X Tryz.isAgg3)) ?_
 refine zH 4 (.det (.int .i64 (cmpI ((a.chapter)) ((b.chapter))))) [2, 0] rfl t_kr t_kr ?_ ?_
 ·
  intro hD wD τD hL hS hO _ _ _ _
  have st13 := St.start hS
  refine zi st13 X X X Tryz.call88 X (c_cmp_Compare_int st13.sub _ _) ?_
  intro r14 w15 h16 le17 st18 q19
  obtain rfl := q19
  exact zx ⟨_, _, rfl, st18, (), rfl, trivial⟩
 refine zp 5 [] X t_kr t_kr X X (fun hD wD τD hL hS hO  => (zB X Tryz.underlying73 X Tryz.sizeOf3 X))<|zp 6 [0] X t_kr t_kr X X (fun hD wD τD hL hS hO _ _ => (zc (j := 1) (hL.sub hS) (hc5.up le10) X X X Tryz.isAgg3))<|zp 7 [] X t_kr t_kr X X (fun hD wD τD hL hS hO  => (zB X Tryz.underlying73 X Tryz.sizeOf3 X))<|zp 8 [0] X t_kr t_kr X X (fun hD wD τD hL hS hO _ _ => (zc (j := 1) (hL.sub hS) hc11 X X X Tryz.isAgg3)) ?_
 refine zH 9 (.det (.int .i64 (cmpI ((a.line)) ((b.line))))) [2, 0, 4] rfl t_kr t_kr ?_ ?_
 ·
  intro hD wD τD hL hS hO _ _ _ _ _ _
  have st20 := St.start hS
  refine zi st20 X X X Tryz.call88 X (c_cmp_Compare_int st20.sub _ _) ?_
  intro r21 w22 h23 le24 st25 q26
  obtain rfl := q26
  exact zx ⟨_, _, rfl, st25, (), rfl, trivial⟩
 refine zp 10 [] X t_kr t_kr X X (fun hD wD τD hL hS hO  => (zB X Tryz.underlying73 X Tryz.sizeOf3 X))<|zp 11 [0] X t_kr t_kr X X (fun hD wD τD hL hS hO _ _ => (zc (j := 2) (hL.sub hS) (hc5.up le10) X X X Tryz.isAgg3))<|zp 12 [] X t_kr t_kr X X (fun hD wD τD hL hS hO  => (zB X Tryz.underlying73 X Tryz.sizeOf3 X))<|zp 13 [0] X t_kr t_kr X X (fun hD wD τD hL hS hO _ _ => (zc (j := 2) (hL.sub hS) hc11 X X X Tryz.isAgg3)) ?_
 refine zH 14 (.det (.int .i64 (cmpI ((a.word)) ((b.word))))) [2, 0, 4] rfl t_kr t_kr ?_ ?_
 ·
  intro hD wD τD hL hS hO _ _ _ _ _ _
  have st27 := St.start hS
  refine zi st27 X X X Tryz.call88 X (c_cmp_Compare_int st27.sub _ _) ?_
  intro r28 w29 h30 le31 st32 q33
  obtain rfl := q33
  exact zx ⟨_, _, rfl, st32, (), rfl, trivial⟩
 refine zH 15 (.res (fun h' res_ => Sl LInt h' res_ ([(cmpI ((a.chapter)) ((b.chapter))), (cmpI ((a.line)) ((b.line))), (cmpI ((a.word)) ((b.word)))])) (fun _ _ _ hl f => f.up hl)) [10, 5, 0] rfl t_kr t_kr ?_ ?_
 ·
  intro hD wD τD hL hS hO _ _ _ _ _ _
  have st34 := St.start hS
  refine zN (L := LInt) (xs := [(cmpI ((a.chapter)) ((b.chapter))), (cmpI ((a.line)) ((b.line))), (cmpI ((a.word)) ((b.word)))]) (cs := [.int .i64 (cmpI ((a.chapter)) ((b.chapter))), .int .i64 (cmpI ((a.line)) ((b.line))), .int .i64 (cmpI ((a.word)) ((b.word)))]) st34 (Enc.cons (L := LInt) (vs := [.int .i64 (cmpI ((a.chapter)) ((b.chapter)))]) (x := (cmpI ((a.chapter)) ((b.chapter)))) (h := hD) (X) (Enc.cons (L := LInt) (vs := [.int .i64 (cmpI ((a.line)) ((b.line)))]) (x := (cmpI ((a.line)) ((b.line)))) (h := hD) (X) (Enc.cons (L := LInt) (vs := [.int .i64 (cmpI ((a.word)) ((b.word)))]) (x := (cmpI ((a.word)) ((b.word)))) (h := hD) (X) Enc.nil))) X X X Tryz.underlying42 Tryz.info3 X X X t_kr ?_
  intro v35 w36 h39 le40 f37 st38
  exact zx ⟨_, _, rfl, st38, _, rfl, f37⟩
 refine zH 16 (.det (.int .i64 ((orL (([(cmpI ((a.chapter)) ((b.chapter))), (cmpI ((a.line)) ((b.line))), (cmpI ((a.word)) ((b.word)))])))))) [0, 1] rfl t_kr t_kr ?_ ?_
 ·
  intro hD wD τD hL hS hO gv15_0 gf15_0 _ _
  have st41 := St.start hS
  refine zi st41 X X X Tryz.call48 X (c_cmp_Or_int st41.sub gf15_0) ?_
  intro r42 w43 h44 le45 st46 q47
  obtain rfl := q47
  exact zx ⟨_, _, rfl, st46, (), rfl, trivial⟩
 refine zp 17 [16, 15, 14, 13, 12, 11, 10, 9, 8, 7, 6, 5, 4, 3, 2, 1, 0] X t_kr t_kr X X (fun hD wD τD hL hS hO _ _ _ _ _ _ _ _ _ _ _ _ _ _ _ _ _ _ _ _ _ _ _ _ _ _ _ _ _ _ gv15_0 gf15_0 _ _ => (r_asI X))<|Drw.nil X X X X X X ⟨t_kr, X, t_kr, X, t_kr, X, X, t_kr, cx_nil⟩ ?_
 intro hE48 w49 _ le50 st51 _ _ _ _ _ _ _ _ _ _ _ _ _ _ _ _ _ _ _ _ _ _ _ _ _ _ _ _ _ _ gv15_0x52 gf15_0x52 _ _ _ _
 refine AllDeps.fin X<|U<|zm<|zb Tryz.results65 ?_
 refine ⟨hE48, _, rfl, st51.done, ?_⟩
 refine zE ?_
 rfl
set_option maxRecDepth 4000 in
theorem c_vote_heads {h : Heap} {w : World} (hs : Sub h w) {a : Head} (a_l1 : a.stem.length ≤ 281474976710656) (a_l2 : 0 ≤ a.mark ∧ a.mark ≤ 255) {b : Head} (b_l1 : b.stem.length ≤ 281474976710656) (b_l2 : 0 ≤ b.mark ∧ b.mark ≤ 255) : Calls Tryz.prog 67 #[.agg #[strV a.stem, .int .u8 a.mark], .agg #[strV b.stem, .int .u8 b.mark]] w (Rets h w (fun _ _ res_ => res_ = .int .i64 ((orL [cmpT a.stem b.stem, cmpI a.mark b.mark])))) := by
 refine zA (n := 17) (args := [.agg #[strV a.stem, .int .u8 a.mark], .agg #[strV b.stem, .int .u8 b.mark]]) Tryz.func67 X X X ?_
 have st0 : St h w h w [] := St.start hs
 refine W.sr<|zz st0 (cs := [strV (a.stem), .int .u8 (a.mark)]) X X X ?_
 intro b1 w2 h3 le4 hc5 st6
 refine zz st6 (cs := [strV (b.stem), .int .u8 (b.mark)]) X X X ?_
 intro b7 w8 h9 le10 hc11 st12
 refine v_asI X X<|Z<|zj<|W.regionR (er := ([], [], [], [], 0)) (dsts := [5, 6, 7, 8, 9, 10, 11, 12, 13, 14, 15, 16, 4]) st12 Tryz.mixed<|zp 0 [] X t_kr t_kr X X (fun hD wD τD hL hS hO  => (zB X Tryz.underlying75 X Tryz.sizeOf9 X))<|zp 1 [0] X t_kr t_kr X X (fun hD wD τD hL hS hO _ _ => (zc (j := 0) (hL.sub hS) (hc5.up le10) X X X Tryz.isAgg9))<|zp 2 [] X t_kr t_kr X X (fun hD wD τD hL hS hO  => (zB X Tryz.underlying75 X Tryz.sizeOf9 X))<|zp 3 [0] X t_kr t_kr X X (fun hD wD τD hL hS hO _ _ => (zc (j := 0) (hL.sub hS) hc11 X X X Tryz.isAgg9)) ?_
 refine zH 4 (.det (.int .i64 (cmpT ((a.stem)) ((b.stem))))) [2, 0] rfl t_kr t_kr ?_ ?_
 ·
  intro hD wD τD hL hS hO _ _ _ _
  have st13 := St.start hS
  refine zi st13 X X X Tryz.call107 X (c_cmp_Compare_string st13.sub _ t_str _ t_str) ?_
  intro r14 w15 h16 le17 st18 q19
  obtain rfl := q19
  exact zx ⟨_, _, rfl, st18, (), rfl, trivial⟩
 refine zp 5 [] X t_kr t_kr X X (fun hD wD τD hL hS hO  => (zB X Tryz.underlying75 X Tryz.sizeOf5 X))<|zp 6 [0] X t_kr t_kr X X (fun hD wD τD hL hS hO _ _ => (zc (j := 1) (hL.sub hS) (hc5.up le10) X X X Tryz.isAgg5))<|zp 7 [] X t_kr t_kr X X (fun hD wD τD hL hS hO  => (zB X Tryz.underlying75 X Tryz.sizeOf5 X))<|zp 8 [0] X t_kr t_kr X X (fun hD wD τD hL hS hO _ _ => (zc (j := 1) (hL.sub hS) hc11 X X X Tryz.isAgg5)) ?_
 refine zH 9 (.det (.int .i64 (cmpI ((a.mark)) ((b.mark))))) [2, 0, 4] rfl t_kr t_kr ?_ ?_
 ·
  intro hD wD τD hL hS hO _ _ _ _ _ _
  have st20 := St.start hS
  refine zi st20 rfl rfl rfl Tryz.call108 rfl (c_cmp_Compare_uint8 st20.sub _ (by omega) _ (by omega)) ?_
  intro r21 w22 h23 le24 st25 q26
  obtain rfl := q26
  exact zx ⟨_, _, rfl, st25, (), rfl, trivial⟩
 refine zH 10 (.res (fun h' res_ => Sl LInt h' res_ ([(cmpT ((a.stem)) ((b.stem))), (cmpI ((a.mark)) ((b.mark)))])) (fun _ _ _ hl f => f.up hl)) [5, 0] rfl t_kr t_kr ?_ ?_
 ·
  intro hD wD τD hL hS hO _ _ _ _
  have st27 := St.start hS
  refine zN (L := LInt) (xs := [(cmpT ((a.stem)) ((b.stem))), (cmpI ((a.mark)) ((b.mark)))]) (cs := [.int .i64 (cmpT ((a.stem)) ((b.stem))), .int .i64 (cmpI ((a.mark)) ((b.mark)))]) st27 (Enc.cons (L := LInt) (vs := [.int .i64 (cmpT ((a.stem)) ((b.stem)))]) (x := (cmpT ((a.stem)) ((b.stem)))) (h := hD) (X) (Enc.cons (L := LInt) (vs := [.int .i64 (cmpI ((a.mark)) ((b.mark)))]) (x := (cmpI ((a.mark)) ((b.mark)))) (h := hD) (X) Enc.nil)) X X X Tryz.underlying42 Tryz.info3 X X X t_kr ?_
  intro v28 w29 h32 le33 f30 st31
  exact zx ⟨_, _, rfl, st31, _, rfl, f30⟩
 refine zH 11 (.det (.int .i64 ((orL (([(cmpT ((a.stem)) ((b.stem))), (cmpI ((a.mark)) ((b.mark)))])))))) [0, 1] rfl t_kr t_kr ?_ ?_
 ·
  intro hD wD τD hL hS hO gv10_0 gf10_0 _ _
  have st34 := St.start hS
  refine zi st34 X X X Tryz.call48 X (c_cmp_Or_int st34.sub gf10_0) ?_
  intro r35 w36 h37 le38 st39 q40
  obtain rfl := q40
  exact zx ⟨_, _, rfl, st39, (), rfl, trivial⟩
 refine zp 12 [11, 10, 9, 8, 7, 6, 5, 4, 3, 2, 1, 0] X t_kr t_kr X X (fun hD wD τD hL hS hO _ _ _ _ _ _ _ _ _ _ _ _ _ _ _ _ _ _ _ _ gv10_0 gf10_0 _ _ => (r_asI X))<|Drw.nil X X X X X X ⟨t_kr, X, t_kr, X, t_kr, X, X, t_kr, cx_nil⟩ ?_
 intro hE41 w42 _ le43 st44 _ _ _ _ _ _ _ _ _ _ _ _ _ _ _ _ _ _ _ _ gv10_0x45 gf10_0x45 _ _ _ _
 refine AllDeps.fin X<|U<|zm<|zb Tryz.results67 ?_
 refine ⟨hE41, _, rfl, st44.done, ?_⟩
 refine zE ?_
 rfl
set_option maxRecDepth 4000 in
theorem c_vote_head_1 {h : Heap} {w : World} (hs : Sub h w) (b : Int) (b_l : 0 ≤ b ∧ b ≤ 255) : Calls Tryz.prog 106 #[.int .u8 b] w (Rets h w (fun _ _ res_ => res_ = .bool ((decide (b < 97) || decide (122 < b))))) := by
 refine zA (n := 9) (args := [.int .u8 b]) Tryz.func106 X X X ?_
 have st0 : St h w h w [] := St.start hs
 refine W.sr<|v_asB X X<|Z<|W.sr<|v_mvI X X<|v_lss X X X<|v_mvB X X ?_
 refine zw (d := 5) rfl (fun g1 => ?_) (fun g1 => ?_)
 ·
  replace g1 := of_decide_eq_true g1
  refine Y X X X X X<|Y X X X X X<|v_pickT (v := (.bool _)) X X X<|v_asB X X<|Z<|zm<|zb Tryz.results106 ?_
  refine ⟨h, _, rfl, st0.done, ?_⟩
  refine zf ?_
  first | (simp_all; done) | (simp_all; omega)
 ·
  replace g1 := of_decide_eq_false g1
  refine M X X (d := 5) X<|v_mvI X X<|M X X (d := 5) X<|v_gtr X X X<|v_pickF (v := (.bool _)) X X X<|v_asB X X<|Z<|zm<|zb Tryz.results106 ?_
  refine ⟨h, _, rfl, st0.done, ?_⟩
  refine zf ?_
  first | (simp_all; done) | (simp_all; omega)
set_option maxRecDepth 4000 in
theorem c_vote_head {h : Heap} {w : World} (hs : Sub h w) {hd : Head} (hd_l1 : hd.stem.length ≤ 281474976710656) (hd_l2 : 0 ≤ hd.mark ∧ hd.mark ≤ 255) : Calls Tryz.prog 66 #[.agg #[strV hd.stem, .int .u8 hd.mark]] w (Rets h w (fun _ _ res_ => res_ = .bool (headB hd))) := by
 refine zA (n := 22) (args := [.agg #[strV hd.stem, .int .u8 hd.mark]]) Tryz.func66 X X X ?_
 have st0 : St h w h w [] := St.start hs
 refine W.sr<|zz st0 (cs := [strV (hd.stem), .int .u8 (hd.mark)]) X X X ?_
 intro b1 w2 h3 le4 hc5 st6
 refine v_asB X X<|Z<|W.sr<|v_field_addr X Tryz.underlying75 X Tryz.sizeOf9 X X<|v_load_cells1 (j := 0) st6.sub hc5 X X X Tryz.isAgg9 X<|v_len_str X Tryz.underlying9 X<|zN (L := LInt) (xs := [((hd.stem).length : Int)]) (cs := [.int .i64 ((hd.stem).length : Int)]) st6 (Enc.cons (L := LInt) (vs := [.int .i64 ((hd.stem).length : Int)]) (x := ((hd.stem).length : Int)) (h := h3) (X) Enc.nil) X X X Tryz.underlying42 Tryz.info3 X X X t_kr ?_
 intro v7 w8 h11 le12 f9 st10
 refine zi st10 X X X Tryz.call39 X (c_vote_in st10.sub _ _ f9) ?_
 intro r13 w14 h15 le16 st17 q18
 obtain rfl := q18
 refine v_mvB X X ?_
 refine zw (d := 8) rfl (fun g19 => ?_) (fun g19 => ?_)
 ·
  refine M X X (d := 8) X<|v_field_addr X Tryz.underlying75 X Tryz.sizeOf5 X X<|M X X (d := 8) X<|v_load_cells1 (j := 1) st17.sub (hc5.up (le12.trans le16)) X X X Tryz.isAgg5 X<|M X X (d := 8) X ?_
  refine zr rfl rfl (r_conv_int rfl rfl Tryz.underlying3 (IntWalk.i64_in _ (by omega))) ?_
  refine M X X (d := 8) X<|zN (L := LInt) (xs := [(hd.mark)]) (cs := [.int .i64 (hd.mark)]) st17 (Enc.cons (L := LInt) (vs := [.int .i64 (hd.mark)]) (x := (hd.mark)) (h := h15) (X) Enc.nil) X X X Tryz.underlying42 Tryz.info3 X X X t_kr ?_
  intro v20 w21 h24 le25 f22 st23
  refine M X X (d := 8) X<|zi st23 X X X Tryz.call39 X (c_vote_in st23.sub _ _ f22) ?_
  intro r26 w27 h28 le29 st30 q31
  obtain rfl := q31
  refine v_pickT (v := (.bool _)) X X X<|v_mvB X X ?_
  refine zw (d := 15) rfl (fun g32 => ?_) (fun g32 => ?_)
  ·
   refine M X X (d := 15) X<|v_field_addr X Tryz.underlying75 X Tryz.sizeOf9 X X<|M X X (d := 15) X<|v_load_cells1 (j := 0) st30.sub (hc5.up (((le12.trans le16).trans le25).trans le29)) X X X Tryz.isAgg9 X<|M X X (d := 15) X ?_
   refine OpsL.strBytes st30 (s := (hd.stem)) rfl (by first | assumption | omega | (simp; omega)) rfl Tryz.underlying9 Tryz.underlying172 Tryz.underlying5 Tryz.sizeOf5 ?_
   intro v33 w34 h35 le36 f37 st38
   refine M X X (d := 15) X ?_
   refine zi st38 rfl rfl rfl Tryz.call105 rfl (c_slices_ContainsFunc_Lbyte_byte st38.sub f37 (fun x_ => (decide ((x_) < 97) || decide (122 < (x_)))) Tryz.call106 (fun x_ h_ w_ vs_ le_ hs_ hx_ hr_ u_ hu_ => by cases hu_; obtain ⟨hr1_, hr2_⟩ := hr_; cases hr1_; exact c_vote_head_1 hs_ _ hr2_)) ?_
   intro r39 w40 h41 le42 st43 q44
   obtain rfl := q44
   refine M X X (d := 15) X<|v_not X X<|v_pickT (v := (.bool _)) X X X<|v_asB X X<|Z<|zm<|zb Tryz.results66 ?_
   refine ⟨h41, _, rfl, st43.done, ?_⟩
   refine zf ?_
   simp_all [headB, wordB_eq, inAll_one]
  ·
   refine Y X X X X X<|Y X X X X X<|Y X X X X X<|Y X X X X X<|Y X X X X X<|v_pickF (v := (.bool _)) X X X<|v_asB X X<|Z<|zm<|zb Tryz.results66 ?_
   refine ⟨h28, _, rfl, st30.done, ?_⟩
   refine zf ?_
   simp_all [headB, wordB_eq, inAll_one]
 ·
  refine Y X X X X X<|Y X X X X X<|Y X X X X X<|Y X X X X X<|Y X X X X X<|v_pickF (v := (.bool _)) X X X<|v_mvB X X<|Y X X X X X<|Y X X X X X<|Y X X X X X<|Y X X X X X<|Y X X X X X<|v_pickF (v := (.bool _)) X X X<|v_asB X X<|Z<|zm<|zb Tryz.results66 ?_
  refine ⟨h15, _, rfl, st17.done, ?_⟩
  refine zf ?_
  simp_all [headB, wordB_eq, inAll_one]
set_option maxRecDepth 4000 in
theorem c_vote_asked_1 {h : Heap} {w : World} (hs : Sub h w) {p : Poll} {p_v0 : Value} (p_f0 : Sl LChapter h p_v0 p.text.chapters) {p_v1 : Value} (p_f1 : Sl LRule h p_v1 p.lexicon.rules) {p_v2 : Value} (p_f2 : Sl LDecision h p_v2 p.lexicon.decisions) {p_v3 : Value} (p_f3 : Sl LQuestion h p_v3 p.questions) {p_v4 : Value} (p_f4 : Sl LVoter h p_v4 p.voters) (i : Int) (hi : 0 ≤ i ∧ i < (p.voters.length : Int)) : Calls Tryz.prog 244 #[.agg #[p_v0, p_v1, p_v2, p_v3, p_v4], .int .i64 i] w (Rets h w (fun _ _ res_ => res_ = .bool ((match p.voters[i.toNat]? with | some v => inB v.id 0 9999 | none => true)))) := by
 refine zA (n := 13) (args := [.agg #[p_v0, p_v1, p_v2, p_v3, p_v4], .int .i64 i]) Tryz.func244 X X X ?_
 have st0 : St h w h w [] := St.start hs
 have p_f0_b := p_f0.le
 have p_f1_b := p_f1.le
 have p_f2_b := p_f2.le
 have p_f3_b := p_f3.le
 have p_f4_b := p_f4.le
 obtain ⟨v, hv⟩ : ∃ v, p.voters[i.toNat]? = some v := ⟨_, List.getElem?_eq_getElem (by omega)⟩
 refine W.sr<|zz st0 (cs := [p_v0, p_v1, p_v2, p_v3, p_v4]) X X X ?_
 intro b1 w2 h3 le4 hc5 st6
 refine v_asB X X<|Z<|W.sr<|v_field_addr X Tryz.underlying32 X Tryz.sizeOf30 X X<|v_load_cells1 (j := 4) st6.sub hc5 X X X Tryz.isAgg30 X<|v_mvI X X ?_
 obtain ⟨b7, o8, _, he10, hc9, hr_v⟩ := Sl.elem (p_f4.up le4) hv
 obtain ⟨v11, rfl, f12⟩ := hr_v
 have f12_b := f12.le
 refine zr rfl rfl (zD he10 rfl rfl (hk := (show _ = ((i.toNat : Nat) : Int) by omega)) (hu := Tryz.underlying30) (hz := Tryz.sizeOf84)) ?_
 refine v_field_addr X Tryz.underlying84 X Tryz.sizeOf3 X X<|v_load_cells1 (j := 0) st6.sub hc9 X X X Tryz.isAgg3 X<|zN (L := LInt) (xs := [(v.id)]) (cs := [.int .i64 (v.id)]) st6 (Enc.cons (L := LInt) (vs := [.int .i64 (v.id)]) (x := (v.id)) (h := h3) (X) Enc.nil) X X X Tryz.underlying42 Tryz.info3 X X X t_kr ?_
 intro v13 w14 h17 le18 f15 st16
 refine zi st16 X X X Tryz.call39 X (c_vote_in st16.sub _ _ f15) ?_
 intro r19 w20 h21 le22 st23 q24
 obtain rfl := q24
 refine v_asB X X<|Z<|zm<|zb Tryz.results244 ?_
 refine ⟨h21, _, rfl, st23.done, ?_⟩
 refine zf ?_
 simp [hv, inAll_one]
set_option maxRecDepth 4000 in
theorem c_vote_asked_2 {h : Heap} {w : World} (hs : Sub h w) {p : Poll} {p_v0 : Value} (p_f0 : Sl LChapter h p_v0 p.text.chapters) {p_v1 : Value} (p_f1 : Sl LRule h p_v1 p.lexicon.rules) {p_v2 : Value} (p_f2 : Sl LDecision h p_v2 p.lexicon.decisions) {p_v3 : Value} (p_f3 : Sl LQuestion h p_v3 p.questions) {p_v4 : Value} (p_f4 : Sl LVoter h p_v4 p.voters) (i : Int) (hi : 0 ≤ i ∧ i < (p.voters.length : Int)) : Calls Tryz.prog 245 #[.agg #[p_v0, p_v1, p_v2, p_v3, p_v4], .int .i64 i] w (Rets h w (fun _ _ res_ => res_ = .bool ((match p.voters[i.toNat]? with | some v => inB v.wrong 0 6 | none => true)))) := by
 refine zA (n := 13) (args := [.agg #[p_v0, p_v1, p_v2, p_v3, p_v4], .int .i64 i]) Tryz.func245 X X X ?_
 have st0 : St h w h w [] := St.start hs
 have p_f0_b := p_f0.le
 have p_f1_b := p_f1.le
 have p_f2_b := p_f2.le
 have p_f3_b := p_f3.le
 have p_f4_b := p_f4.le
 obtain ⟨v, hv⟩ : ∃ v, p.voters[i.toNat]? = some v := ⟨_, List.getElem?_eq_getElem (by omega)⟩
 refine W.sr<|zz st0 (cs := [p_v0, p_v1, p_v2, p_v3, p_v4]) X X X ?_
 intro b1 w2 h3 le4 hc5 st6
 refine v_asB X X<|Z<|W.sr<|v_field_addr X Tryz.underlying32 X Tryz.sizeOf30 X X<|v_load_cells1 (j := 4) st6.sub hc5 X X X Tryz.isAgg30 X<|v_mvI X X ?_
 obtain ⟨b7, o8, _, he10, hc9, hr_v⟩ := Sl.elem (p_f4.up le4) hv
 obtain ⟨v11, rfl, f12⟩ := hr_v
 have f12_b := f12.le
 refine zr rfl rfl (zD he10 rfl rfl (hk := (show _ = ((i.toNat : Nat) : Int) by omega)) (hu := Tryz.underlying30) (hz := Tryz.sizeOf84)) ?_
 refine v_field_addr X Tryz.underlying84 X Tryz.sizeOf3 X X<|v_load_cells1 (j := 1) st6.sub hc9 X X X Tryz.isAgg3 X<|zN (L := LInt) (xs := [(v.wrong)]) (cs := [.int .i64 (v.wrong)]) st6 (Enc.cons (L := LInt) (vs := [.int .i64 (v.wrong)]) (x := (v.wrong)) (h := h3) (X) Enc.nil) X X X Tryz.underlying42 Tryz.info3 X X X t_kr ?_
 intro v13 w14 h17 le18 f15 st16
 refine zi st16 X X X Tryz.call39 X (c_vote_in st16.sub _ _ f15) ?_
 intro r19 w20 h21 le22 st23 q24
 obtain rfl := q24
 refine v_asB X X<|Z<|zm<|zb Tryz.results245 ?_
 refine ⟨h21, _, rfl, st23.done, ?_⟩
 refine zf ?_
 simp [hv, inAll_one]
set_option maxRecDepth 4000 in
theorem c_vote_asked_3 {h : Heap} {w : World} (hs : Sub h w) {p : Poll} {p_v0 : Value} (p_f0 : Sl LChapter h p_v0 p.text.chapters) {p_v1 : Value} (p_f1 : Sl LRule h p_v1 p.lexicon.rules) {p_v2 : Value} (p_f2 : Sl LDecision h p_v2 p.lexicon.decisions) {p_v3 : Value} (p_f3 : Sl LQuestion h p_v3 p.questions) {p_v4 : Value} (p_f4 : Sl LVoter h p_v4 p.voters) (i : Int) (hi : 0 ≤ i ∧ i < (p.voters.length : Int)) : Calls Tryz.prog 246 #[.agg #[p_v0, p_v1, p_v2, p_v3, p_v4], .int .i64 i] w (Rets h w (fun _ _ res_ => res_ = .bool ((match p.voters[i.toNat]? with | some v => decide (v.votes.length = p.questions.length) | none => true)))) := by
 refine zA (n := 16) (args := [.agg #[p_v0, p_v1, p_v2, p_v3, p_v4], .int .i64 i]) Tryz.func246 X X X ?_
 have st0 : St h w h w [] := St.start hs
 have p_f0_b := p_f0.le
 have p_f1_b := p_f1.le
 have p_f2_b := p_f2.le
 have p_f3_b := p_f3.le
 have p_f4_b := p_f4.le
 obtain ⟨v, hv⟩ : ∃ v, p.voters[i.toNat]? = some v := ⟨_, List.getElem?_eq_getElem (by omega)⟩
 refine W.sr<|zz st0 (cs := [p_v0, p_v1, p_v2, p_v3, p_v4]) X X X ?_
 intro b1 w2 h3 le4 hc5 st6
 refine v_asB X X<|Z<|zj<|zT Tryz.mixed t_kr (Cls h3 _) (Cls.drew st6)<|u_field_addr X Tryz.underlying32 X Tryz.sizeOf30 X X<|zg X X (fun _ hC => (zc (j := 4) hC.sub hc5 X X X Tryz.isAgg30))<|u_mvI X X ?_
 obtain ⟨b7, o8, _, he10, hc9, hr_v⟩ := Sl.elem (p_f4.up le4) hv
 obtain ⟨v11, rfl, f12⟩ := hr_v
 have f12_b := f12.le
 refine zg rfl rfl (fun _ _ => (zD he10 rfl rfl (hk := (show _ = ((i.toNat : Nat) : Int) by omega)) (hu := Tryz.underlying30) (hz := Tryz.sizeOf84))) ?_
 refine u_field_addr X Tryz.underlying84 X Tryz.sizeOf42 X X<|zg X X (fun _ hC => (zc (j := 2) hC.sub hc9 X X X Tryz.isAgg42))<|u_len f12 X Tryz.underlying42 X<|u_field_addr X Tryz.underlying32 X Tryz.sizeOf29 X X<|zg X X (fun _ hC => (zc (j := 3) hC.sub hc5 X X X Tryz.isAgg29))<|u_len (p_f3.up le4) X Tryz.underlying29 X<|u_eql X X X<|u_asB X X<|zG ?_
 rintro w13 ⟨h14, s15⟩
 have st16 := st6.call0 s15
 refine U<|zm<|zb Tryz.results246 ?_
 refine ⟨h14, _, rfl, st16.done, ?_⟩
 refine zf ?_
 simp only [hv]; rw [Bool.eq_iff_iff]; simp only [decide_eq_true_eq]; omega
set_option maxRecDepth 4000 in
theorem c_vote_asked_4 {h : Heap} {w : World} (hs : Sub h w) {p : Poll} {p_v0 : Value} (p_f0 : Sl LChapter h p_v0 p.text.chapters) {p_v1 : Value} (p_f1 : Sl LRule h p_v1 p.lexicon.rules) {p_v2 : Value} (p_f2 : Sl LDecision h p_v2 p.lexicon.decisions) {p_v3 : Value} (p_f3 : Sl LQuestion h p_v3 p.questions) {p_v4 : Value} (p_f4 : Sl LVoter h p_v4 p.voters) (i : Int) (hi : 0 ≤ i ∧ i < (p.voters.length : Int)) (hvl : ∀ v ∈ p.voters, v.votes.length = p.questions.length ∨ p.voters[i.toNat]? ≠ some v) : Calls Tryz.prog 247 #[.agg #[p_v0, p_v1, p_v2, p_v3, p_v4], .int .i64 i] w (Rets h w (fun _ _ res_ => res_ = .bool ((match p.voters[i.toNat]? with | some v => votesOk p v | none => true)))) := by
 refine zA (n := 32) (args := [.agg #[p_v0, p_v1, p_v2, p_v3, p_v4], .int .i64 i]) Tryz.func247 X X X ?_
 have st0 : St h w h w [] := St.start hs
 have p_f0_b := p_f0.le
 have p_f1_b := p_f1.le
 have p_f2_b := p_f2.le
 have p_f3_b := p_f3.le
 have p_f4_b := p_f4.le
 obtain ⟨v, hv⟩ : ∃ v, p.voters[i.toNat]? = some v := ⟨_, List.getElem?_eq_getElem (by omega)⟩
 have hvq : v.votes.length = p.questions.length := by rcases hvl v (List.mem_of_getElem? hv) with q_ | q_; exact q_; exact absurd hv q_
 refine W.sr<|zz st0 (cs := [p_v0, p_v1, p_v2, p_v3, p_v4]) X X X ?_
 intro b1 w2 h3 le4 hc5 st6
 refine v_asB X X<|Z<|zj<|W.sr<|v_field_addr X Tryz.underlying32 X Tryz.sizeOf30 X X<|v_load_cells1 (j := 4) st6.sub hc5 X X X Tryz.isAgg30 X<|v_mvI X X ?_
 obtain ⟨b7, o8, _, he10, hc9, hr_v⟩ := Sl.elem (p_f4.up le4) hv
 obtain ⟨v11, rfl, f12⟩ := hr_v
 have f12_b := f12.le
 refine zr rfl rfl (zD he10 rfl rfl (hk := (show _ = ((i.toNat : Nat) : Int) by omega)) (hu := Tryz.underlying30) (hz := Tryz.sizeOf84)) ?_
 refine v_field_addr X Tryz.underlying84 X Tryz.sizeOf42 X X<|v_load_cells1 (j := 2) st6.sub hc9 X X X Tryz.isAgg42 X<|v_len f12 X Tryz.underlying42 X<|v_mvI X X<|Z<|zt ?_
 refine zJ [4, 5, 6, 14, 15, 16, 17, 18, 19, 20, 21, 22, 23, 24, 25, 26, 27, 28, 29, 30, 31] (G := Nat × Heap) (fun ⟨k, h13⟩ => [(14, .int .i64 (k : Int))]) (fun ⟨k, h13⟩ w' => Le h3 h13 ∧ St h w h13 w' [] ∧ (k ≤ v.votes.length) ∧ (∀ j, j < k → votesAt p v j = true)) (fun ⟨k, h13⟩ => v.votes.length - k) ⟨0, h3⟩ ⟨rfl, trivial⟩ ⟨Le.refl _, st6, zO, zO⟩ ?_
 rintro ⟨k, h13⟩ _ w16 ⟨le14, st15, hk, hN⟩
 refine W.sr<|v_lss X X X<|Z<|zj ?_
 refine zk rfl (fun c17 => ?_) (fun c17 => ?_)
 ·
  replace c17 := of_decide_eq_true c17
  refine zq<|U<|zj<|zt<|W.sr<|v_mvI X X ?_
  have hn : ∃ y_, (v.votes)[k]? = some y_ := ⟨_, List.getElem?_eq_getElem (by omega)⟩
  obtain ⟨n, hn⟩ := hn
  obtain ⟨b18, o19, _, he21, hc20, hr_n⟩ := Sl.elem (f12.up le14) hn
  obtain rfl := hr_n
  refine v_index_el he21 X X (hk := X) (hu := Tryz.underlying42) (hz := Tryz.sizeOf3) X<|v_load_cells1 (j := 0) st15.sub hc20 X X X Tryz.isAgg3 X<|v_asI X X<|v_asI X X<|Z<|W.sr<|v_field_addr X Tryz.underlying32 X Tryz.sizeOf29 X X<|v_load_cells1 (j := 3) st15.sub (hc5.up le14) X X X Tryz.isAgg29 X<|v_mvI X X ?_
  have hq : ∃ y_, (p.questions)[k]? = some y_ := ⟨_, List.getElem?_eq_getElem (by omega)⟩
  obtain ⟨q, hq⟩ := hq
  obtain ⟨b22, o23, _, he25, hc24, hr_q⟩ := Sl.elem (p_f3.up (le4.trans le14)) hq
  obtain ⟨v26, rfl, f27⟩ := hr_q
  have f27_b := f27.le
  refine v_index_el he25 X X (hk := X) (hu := Tryz.underlying29) (hz := Tryz.sizeOf82) X<|v_field_addr X Tryz.underlying82 X Tryz.sizeOf80 X X<|v_load_cells1 (j := 3) st15.sub hc24 X X X Tryz.isAgg80 X<|v_len f27 X Tryz.underlying80 X<|v_sub X X t_om X<|v_mvI X X<|zN (L := LInt) (xs := [n]) (cs := [.int .i64 n]) st15 (Enc.cons (L := LInt) (vs := [.int .i64 n]) (x := n) (h := h13) (X) Enc.nil) X X X Tryz.underlying42 Tryz.info3 X X X t_kr ?_
  intro v28 w29 h32 le33 f30 st31
  refine zi st31 X X X Tryz.call39 X (c_vote_in st31.sub _ _ f30) ?_
  intro r34 w35 h36 le37 st38 q39
  obtain rfl := q39
  refine v_not X X<|Z ?_
  refine zk rfl (fun c40 => ?_) (fun c40 => ?_)
  ·
   refine W.sr<|v_asB X X<|Z<|zm<|zl<|za<|za<|zl<|za<|zb Tryz.results247 ?_
   refine ⟨h36, _, rfl, st38.done, ?_⟩
   refine zf ?_
   simp only [hv]
   exact (votesOk_no (k := k) (by simp only [votesAt, hn, hq]; simpa [inAll_one] using c40)).symm
  ·
   refine zq<|zy<|U<|zo<|v_add X X t_om X<|v_mvI X X<|Z ?_
   refine ⟨⟨k + 1, h36⟩, ⟨rfl, trivial⟩, ?_, ⟨((le14.trans le33).trans le37), st38, ?_, ?_⟩, ?_⟩
   ·exact zL
   ·first | omega | (simp; omega)
   ·exact all_lt_succ hN (by simp only [votesAt, hn, hq]; simpa [inAll_one] using c40)
   ·show v.votes.length - ((k + 1)) < v.votes.length - k
    omega
 ·
  replace c17 := of_decide_eq_false c17
  refine zM<|zh<|zh<|zF<|U<|W.sr<|v_asB X X<|Z<|zm<|zb Tryz.results247 ?_
  refine ⟨h13, _, rfl, st15.done, ?_⟩
  refine zf ?_
  simp only [hv]
  exact (range_all hN (by omega)).symm
set_option maxRecDepth 4000 in
theorem c_vote_asked_5_1 {h : Heap} {w : World} (hs : Sub h w) {u : Voter} {u_v0 : Value} (u_f0 : Sl LInt h u_v0 u.votes) {p_b : Nat} {p : Poll} {p_v0 : Value} (p_f0 : Sl LChapter h p_v0 p.text.chapters) {p_v1 : Value} (p_f1 : Sl LRule h p_v1 p.lexicon.rules) {p_v2 : Value} (p_f2 : Sl LDecision h p_v2 p.lexicon.decisions) {p_v3 : Value} (p_f3 : Sl LQuestion h p_v3 p.questions) {p_v4 : Value} (p_f4 : Sl LVoter h p_v4 p.voters) (p_c : Cells h p_b 0 [p_v0, p_v1, p_v2, p_v3, p_v4]) {i_b : Nat} {i : Int} (i_c : Cells h i_b 0 [.int .i64 i]) (hi : 0 ≤ i ∧ i < (p.voters.length : Int)) : Calls Tryz.prog 250 #[.agg #[.int .i64 u.id, .int .i64 u.wrong, u_v0], .pointer (some ⟨p_b, 0, none⟩), .pointer (some ⟨i_b, 0, none⟩)] w (Rets h w (fun _ _ res_ => res_ = .bool ((match p.voters[i.toNat]? with | some v => decide (u.id = v.id) | none => false)))) := by
 refine zA (n := 14) (args := [.agg #[.int .i64 u.id, .int .i64 u.wrong, u_v0], .pointer (some ⟨p_b, 0, none⟩), .pointer (some ⟨i_b, 0, none⟩)]) Tryz.func250 X X X ?_
 have st0 : St h w h w [] := St.start hs
 have u_f0_b := u_f0.le
 have p_f0_b := p_f0.le
 have p_f1_b := p_f1.le
 have p_f2_b := p_f2.le
 have p_f3_b := p_f3.le
 have p_f4_b := p_f4.le
 obtain ⟨v, hv⟩ : ∃ v, p.voters[i.toNat]? = some v := ⟨_, List.getElem?_eq_getElem (by omega)⟩
 refine W.sr<|zz st0 (cs := [.int .i64 (u.id), .int .i64 (u.wrong), u_v0]) X X X ?_
 intro b1 w2 h3 le4 hc5 st6
 refine v_asB X X<|Z<|zj<|zT Tryz.mixed t_kr (Cls h3 _) (Cls.drew st6)<|u_field_addr X Tryz.underlying84 X Tryz.sizeOf3 X X<|zg X X (fun _ hC => (zc (j := 0) hC.sub hc5 X X X Tryz.isAgg3))<|u_field_addr X Tryz.underlying32 X Tryz.sizeOf30 X X<|zg X X (fun _ hC => (zc (j := 4) hC.sub (p_c.up le4) X X X Tryz.isAgg30))<|zg X X (fun _ hC => (zc (j := 0) hC.sub (i_c.up le4) X X X Tryz.isAgg3)) ?_
 obtain ⟨b7, o8, _, he10, hc9, hr_v⟩ := Sl.elem (p_f4.up le4) hv
 obtain ⟨v11, rfl, f12⟩ := hr_v
 have f12_b := f12.le
 refine zg rfl rfl (fun _ _ => (zD he10 rfl rfl (hk := (show _ = ((i.toNat : Nat) : Int) by omega)) (hu := Tryz.underlying30) (hz := Tryz.sizeOf84))) ?_
 refine u_field_addr X Tryz.underlying84 X Tryz.sizeOf3 X X<|zg X X (fun _ hC => (zc (j := 0) hC.sub hc9 X X X Tryz.isAgg3))<|u_eql X X X<|u_asB X X<|zG ?_
 rintro w13 ⟨h14, s15⟩
 have st16 := st6.call0 s15
 refine U<|zm<|zb Tryz.results250 ?_
 refine ⟨h14, _, rfl, st16.done, ?_⟩
 refine zf ?_
 simp only [hv]
set_option maxRecDepth 4000 in
theorem c_vote_asked_5 {h : Heap} {w : World} (hs : Sub h w) {p : Poll} {p_v0 : Value} (p_f0 : Sl LChapter h p_v0 p.text.chapters) {p_v1 : Value} (p_f1 : Sl LRule h p_v1 p.lexicon.rules) {p_v2 : Value} (p_f2 : Sl LDecision h p_v2 p.lexicon.decisions) {p_v3 : Value} (p_f3 : Sl LQuestion h p_v3 p.questions) {p_v4 : Value} (p_f4 : Sl LVoter h p_v4 p.voters) (i : Int) (hi : 0 ≤ i ∧ i < (p.voters.length : Int)) : Calls Tryz.prog 248 #[.agg #[p_v0, p_v1, p_v2, p_v3, p_v4], .int .i64 i] w (Rets h w (fun _ _ res_ => res_ = .bool ((match p.voters[i.toNat]? with | some v => (!((p.voters.take i.toNat).any fun u => decide (u.id = v.id))) | none => true)))) := by
 refine zA (n := 12) (args := [.agg #[p_v0, p_v1, p_v2, p_v3, p_v4], .int .i64 i]) Tryz.func248 X X X ?_
 have st0 : St h w h w [] := St.start hs
 have p_f0_b := p_f0.le
 have p_f1_b := p_f1.le
 have p_f2_b := p_f2.le
 have p_f3_b := p_f3.le
 have p_f4_b := p_f4.le
 obtain ⟨v, hv⟩ : ∃ v, p.voters[i.toNat]? = some v := ⟨_, List.getElem?_eq_getElem (by omega)⟩
 refine W.sr<|zz st0 (cs := [p_v0, p_v1, p_v2, p_v3, p_v4]) X X X ?_
 intro b1 w2 h3 le4 hc5 st6
 refine zz st6 (cs := [.int .i64 i]) X X X ?_
 intro b7 w8 h9 le10 hc11 st12
 refine v_asB X X<|Z<|W.sr<|v_field_addr X Tryz.underlying32 X Tryz.sizeOf30 X X<|v_load_cells1 (j := 4) st12.sub (hc5.up le10) X X X Tryz.isAgg30 X<|v_load_cells1 (j := 0) st12.sub hc11 X X X Tryz.isAgg3 X ?_
 have f13 := Sl.take p_f4 (k := i.toNat) (by omega)
 refine zr rfl rfl (r_slice_to_sl (p_f4.up (le4.trans le10)) rfl rfl (hk := (show _ = ((i.toNat : Nat) : Int) by omega)) (by omega) Tryz.underlying30 Tryz.sizeOf84) ?_
 refine v_make_func X X X ?_
 refine zi st12 rfl rfl rfl Tryz.call249 rfl (c_slices_ContainsFunc_Lapi_Voter_api_Voter st12.sub (f13.up (le4.trans le10)) (fun x_ => (match (p).voters[(i).toNat]? with | some v => decide ((x_).id = v.id) | none => false)) Tryz.call250 (fun x_ h_ w_ vs_ le_ hs_ hx_ hr_ u_ hu_ => by obtain ⟨v0_, rfl, f0_⟩ := hr_; cases hu_; exact c_vote_asked_5_1 hs_ (u := x_) f0_ (p := p) ((p_f0.up (le4.trans le10)).up le_) ((p_f1.up (le4.trans le10)).up le_) ((p_f2.up (le4.trans le10)).up le_) ((p_f3.up (le4.trans le10)).up le_) ((p_f4.up (le4.trans le10)).up le_) ((hc5.up le10).up le_) (i := i) (hc11.up le_) (by exact hi))) ?_
 intro r14 w15 h16 le17 st18 q19
 obtain rfl := q19
 refine v_not X X<|v_asB X X<|Z<|zm<|zb Tryz.results248 ?_
 refine ⟨h16, _, rfl, st18.done, ?_⟩
 refine zf ?_
 simp only [hv]
end Go.Pk

namespace Go.Pk
open Go Go.RowKit Go.Proofs
set_option maxRecDepth 4000 in
set_option maxHeartbeats 4000000 in
theorem c_vote_Check {h : Heap} {w : World} (hs : Sub h w) {p : Poll} {p_v0 : Value} (p_f0 : Sl LChapter h p_v0 p.text.chapters) {p_v1 : Value} (p_f1 : Sl LRule h p_v1 p.lexicon.rules) {p_v2 : Value} (p_f2 : Sl LDecision h p_v2 p.lexicon.decisions) {p_v3 : Value} (p_f3 : Sl LQuestion h p_v3 p.questions) {p_v4 : Value} (p_f4 : Sl LVoter h p_v4 p.voters) (K1 : Cells h 1 0 Tryz.glob1) (K0 : Cells h 0 0 Tryz.glob0) : Calls Tryz.prog 22 #[.agg #[p_v0, p_v1, p_v2, p_v3, p_v4]] w (Rets h w (fun _ _ res_ => res_ = .int .i64 (checkP p))) := by
 refine zA (n := 124) (args := [.agg #[p_v0, p_v1, p_v2, p_v3, p_v4]]) Tryz.func22 X X X ?_
 have st0 : St h w h w [] := St.start hs
 have p_f0_b := p_f0.le
 have p_f1_b := p_f1.le
 have p_f2_b := p_f2.le
 have p_f3_b := p_f3.le
 have p_f4_b := p_f4.le
 refine W.sr<|zz st0 (cs := [p_v0, p_v1, p_v2, p_v3, p_v4]) X X X ?_
 intro b1 w2 h3 le4 hc5 st6
 refine v_asI X X<|Z<|zj<|W.sr<|v_field_addr X Tryz.underlying32 X Tryz.sizeOf24 X X<|v_load_cellsN (j := 0) st6.sub hc5 (us := [p_v0]) X X Tryz.isAgg24 Tryz.sizeOf24 X X X<|v_field_addr X Tryz.underlying32 X Tryz.sizeOf28 X X<|v_load_cellsN (j := 1) st6.sub hc5 (us := [p_v1, p_v2]) X X Tryz.isAgg28 Tryz.sizeOf28 X X X<|zi st6 X X X Tryz.call63 X (c_stem_Check st6.sub (t := p.text) (p_f0.up le4) (x := p.lexicon) (p_f1.up le4) (p_f2.up le4) (K1.up le4)) ?_
 intro r7 w8 h9 le10 st11 q12
 obtain rfl := q12
 refine v_asI X X<|Z<|W.sr<|v_mvI X X<|v_neq X X X<|Z ?_
 refine zk rfl (fun c13 => ?_) (fun c13 => ?_)
 ·
  replace c13 := of_decide_eq_true c13
  refine W.sr<|v_mvI X X<|v_asI X X<|Z<|zm<|za<|zb Tryz.results22 ?_
  refine ⟨h9, _, rfl, st11.done, ?_⟩
  refine zE ?_
  simp_all [checkP]
 ·
  replace c13 := of_decide_eq_false c13
  refine zq<|U<|zj<|zj ?_
  have hz : checkN p.text p.lexicon = 0 := by simpa using c13
  have htx : textB p.text = true := check_text hz
  refine zo<|v_field_addr X Tryz.underlying32 X Tryz.sizeOf29 X X<|v_load_cells1 (j := 3) st11.sub (hc5.up le10) X X X Tryz.isAgg29 X<|v_len (p_f3.up (le4.trans le10)) X Tryz.underlying29 X<|v_gtr X X X<|v_mvB X X ?_
  refine zw (d := 26) rfl (fun g14 => ?_) (fun g14 => ?_)
  ·
   replace g14 := of_decide_eq_true g14
   refine Y X X X X X<|Y X X X X X<|Y X X X X X<|Y X X X X X<|v_pickT (v := (.bool _)) X X X<|Z ?_
   refine zk rfl (fun c15 => ?_) (fun c15 => ?_)
   ·
    refine W.sr<|v_asI X X<|Z<|zm<|za<|zb Tryz.results22 ?_
    refine ⟨h9, _, rfl, st11.done, ?_⟩
    refine zE ?_
    first | (refine (check_not hz ?_).symm; simp [pollB]; omega) | (refine (check_yes hz (poll_true ?_ ?_ hA ?_ hV ?_)).symm <;> omega) | (refine (check_not hz (poll_q (i := i) ?_)).symm; rw [quest_eq hq (show q.heads.length = k by omega)]; simpa using c13) | (refine (check_not hz (ask_no (k := k) hv (by have q_ := c13; rw [Int.toNat_natCast, hv] at q_; first | (obtain rfl : k = 0 := (by omega); simpa [askAt, inAll_one] using q_) | (obtain rfl : k = 1 := (by omega); simpa [askAt, inAll_one] using q_) | (obtain rfl : k = 2 := (by omega); simpa [askAt, inAll_one] using q_) | (obtain rfl : k = 3 := (by omega); simpa [askAt, inAll_one] using q_) | (obtain rfl : k = 4 := (by omega); simpa [askAt, inAll_one] using q_)))).symm)
   ·
    cases c15
  ·
   replace g14 := of_decide_eq_false g14
   refine M X X (d := 26) X<|v_field_addr X Tryz.underlying32 X Tryz.sizeOf30 X X<|M X X (d := 26) X<|v_load_cells1 (j := 4) st11.sub (hc5.up le10) X X X Tryz.isAgg30 X<|M X X (d := 26) X<|v_len (p_f4.up (le4.trans le10)) X Tryz.underlying30 X<|M X X (d := 26) X<|v_gtr X X X<|v_pickF (v := (.bool _)) X X X<|Z ?_
   refine zk rfl (fun c16 => ?_) (fun c16 => ?_)
   ·
    replace c16 := of_decide_eq_true c16
    refine W.sr<|v_asI X X<|Z<|zm<|za<|zb Tryz.results22 ?_
    refine ⟨h9, _, rfl, st11.done, ?_⟩
    refine zE ?_
    first | (refine (check_not hz ?_).symm; simp [pollB]; omega) | (refine (check_yes hz (poll_true ?_ ?_ hA ?_ hV ?_)).symm <;> omega) | (refine (check_not hz (poll_q (i := i) ?_)).symm; rw [quest_eq hq (show q.heads.length = k by omega)]; simpa using c16) | (refine (check_not hz (ask_no (k := k) hv (by have q_ := c16; rw [Int.toNat_natCast, hv] at q_; first | (obtain rfl : k = 0 := (by omega); simpa [askAt, inAll_one] using q_) | (obtain rfl : k = 1 := (by omega); simpa [askAt, inAll_one] using q_) | (obtain rfl : k = 2 := (by omega); simpa [askAt, inAll_one] using q_) | (obtain rfl : k = 3 := (by omega); simpa [askAt, inAll_one] using q_) | (obtain rfl : k = 4 := (by omega); simpa [askAt, inAll_one] using q_)))).symm)
   ·
    replace c16 := of_decide_eq_false c16
    refine zq<|U<|zj<|W.sr<|v_field_addr X Tryz.underlying32 X Tryz.sizeOf29 X X<|v_load_cells1 (j := 3) st11.sub (hc5.up le10) X X X Tryz.isAgg29 X<|v_len (p_f3.up (le4.trans le10)) X Tryz.underlying29 X<|v_mvI X X<|Z<|zt ?_
    refine zJ [2, 4, 5, 6, 7, 8, 9, 10, 35, 36, 37, 38, 39, 40, 41, 42, 43, 44, 45, 46, 47, 48, 49, 50, 51, 52, 53, 54, 55, 56, 57, 58, 59, 60, 61, 62, 63, 64, 65, 66, 67, 68, 69, 70, 71, 72, 73, 74, 75, 76, 77, 78, 79, 80, 81, 82, 83, 84, 85, 86, 87, 88, 89, 90, 91, 92, 93, 94, 95, 96, 97, 98, 99, 100, 101, 102, 103, 104, 105] (G := Nat × Heap) (fun ⟨i, h17⟩ => [(35, .int .i64 (i : Int))]) (fun ⟨i, h17⟩ w' => Le h9 h17 ∧ St h w h17 w' [] ∧ (i ≤ p.questions.length) ∧ (∀ j, j < i → questAt p j = true)) (fun ⟨i, h17⟩ => p.questions.length - i) ⟨0, h9⟩ ⟨rfl, trivial⟩ ⟨Le.refl _, st11, zO, zO⟩ ?_
    rintro ⟨i, h17⟩ _ w20 ⟨le18, st19, hi, hA⟩
    refine W.sr<|v_lss X X X<|Z<|zj ?_
    refine zk rfl (fun c21 => ?_) (fun c21 => ?_)
    ·
     replace c21 := of_decide_eq_true c21
     refine zq<|U<|zj<|zt<|W.sr<|v_mvI X X ?_
     have hq : ∃ y_, (p.questions)[i]? = some y_ := ⟨_, List.getElem?_eq_getElem (by omega)⟩
     obtain ⟨q, hq⟩ := hq
     obtain ⟨b22, o23, _, he25, hc24, hr_q⟩ := Sl.elem (p_f3.up ((le4.trans le10).trans le18)) hq
     obtain ⟨v26, rfl, f27⟩ := hr_q
     have f27_b := f27.le
     refine v_index_el he25 X X (hk := X) (hu := Tryz.underlying29) (hz := Tryz.sizeOf82) X<|v_load_call st19.sub hc24 X Tryz.isAgg82 Tryz.sizeOf82 X X<|zI st19 Tryz.zeroValue82 X X ?_
     intro b28 w29 st30
     refine v_asI X X<|zC st30 (k := 0) X X X (zn X (zn X (zn X (zn f27.one zX)))) Tryz.sizeOf82 X X X ?_
     intro w31 st32
     obtain ⟨h33, le34, hb35, st37⟩ := st32.freeze (k := 0) rfl
     have hc36 := Cells.of hb35
     refine Z<|W.sr<|v_field_addr X Tryz.underlying32 X Tryz.sizeOf24 X X<|v_load_cellsN (j := 0) st37.sub (hc5.up ((le10.trans le18).trans le34)) (us := [p_v0]) X X Tryz.isAgg24 Tryz.sizeOf24 X X X<|v_field_addr X Tryz.underlying82 X Tryz.sizeOf73 X X<|v_load_cellsN (j := 0) st37.sub hc36 (us := [.int .i64 (q.at_.chapter), .int .i64 (q.at_.line), .int .i64 (q.at_.word)]) X X Tryz.isAgg73 Tryz.sizeOf73 X X X ?_
     have con := (c_leaf_At st37.sub (t := p.text) (p_f0.up (((le4.trans le10).trans le18).trans le34)) (p := q.at_))
     rw [htx] at con; simp only [Bool.true_and, if_true] at con
     refine zi st37 X X X Tryz.call64 X con ?_
     intro r38 w39 h40 le41 st42 q43
     obtain rfl := q43
     clear con
     refine v_mvT X X<|v_extract (v := (strV _)) X X X<|v_extract (v := (.int _ _)) X X X<|v_asS X X<|v_asI X X<|Z<|zj ?_
     rcases Bool.eq_false_or_eq_true (decide (((if placeB p.text q.at_ = true then (0 : Int) else 12)) = 0)) with g44 | g44
     ·
      have g44_r := g44
      replace g44 := of_decide_eq_true g44
      rcases Bool.eq_false_or_eq_true ((inAll (([(q.heads.length : Int)])) (2) (3))) with g45 | g45
      ·
       have g45_r := g45
       rcases Bool.eq_false_or_eq_true (decide ((i : Int) = 0)) with g46 | g46
       ·
        have g46_r := g46
        replace g46 := of_decide_eq_true g46
        refine W.regionR (er := ([], [], [], [], 0)) (dsts := [48, 49, 50, 51, 52, 53, 54, 55, 56, 57, 58, 59, 60, 61, 62, 63, 64, 65, 66, 67, 68, 69, 70, 71, 72, 73, 8]) st42 Tryz.mixed<|zp 0 [] X t_kr t_kr X X (fun hD wD τD hL hS hO  => (r_mvI X))<|zp 1 [0] X t_kr t_kr X X (fun hD wD τD hL hS hO _ _ => (Run.lit (r_eql X X) g44_r))<|zp 2 [0] X t_kr t_kr X X (fun hD wD τD hL hS hO _ _ => (r_mvB X))<|zQ 3 [0] X t_kr t_kr X X X (fun hD wD τD hL hS hO _ _ => ⟨rfl, (zB X Tryz.underlying82 X Tryz.sizeOf80 X)⟩)<|zQ 4 [0, 1] X t_kr t_kr X X X (fun hD wD τD hL hS hO _ _ _ _ => ⟨rfl, (zc (j := 3) (hL.sub hS) (hc36.up le41) X X X Tryz.isAgg80)⟩)<|zQ 5 [0, 2] X t_kr t_kr X X X (fun hD wD τD hL hS hO _ _ _ _ => ⟨rfl, (r_len (f27.up (le34.trans le41)) X Tryz.underlying80)⟩) ?_
        refine zH 6 (.res (fun h' res_ => Sl LInt h' res_ ([(q.heads.length : Int)])) (fun _ _ _ hl f => f.up hl)) [0, 3] rfl t_kr t_kr ?_ ?_
        ·
         intro hD wD τD hL hS hO _ _ _ _
         have st47 := St.start hS
         refine M X X (d := 50) X<|zN (L := LInt) (xs := [(q.heads.length : Int)]) (cs := [.int .i64 (q.heads.length : Int)]) st47 (Enc.cons (L := LInt) (vs := [.int .i64 (q.heads.length : Int)]) (x := (q.heads.length : Int)) (h := hD) (X) Enc.nil) X X X Tryz.underlying42 Tryz.info3 X X X t_kr ?_
         intro v48 w49 h52 le53 f50 st51
         exact zx ⟨_, _, rfl, st51, _, rfl, f50⟩
        refine zH 7 (.det (.bool (inAll (([(q.heads.length : Int)])) (2) (3)))) [0, 4] rfl t_kr t_kr ?_ ?_
        ·
         intro hD wD τD hL hS hO gv6_0 gf6_0 _ _
         have st54 := St.start hS
         refine M X X (d := 50) X<|zi st54 X X X Tryz.call39 X (c_vote_in st54.sub _ _ gf6_0) ?_
         intro r55 w56 h57 le58 st59 q60
         obtain rfl := q60
         exact zx ⟨_, _, rfl, st59, (), rfl, trivial⟩
        refine zp 8 [5, 0] X t_kr t_kr X X (fun hD wD τD hL hS hO _ _ _ _ => (Run.lit (r_pickT (v := (.bool _)) X X) g45_r))<|zp 9 [0, 1] X t_kr t_kr X X (fun hD wD τD hL hS hO _ _ _ _ => (r_mvB X))<|zQ 10 [0] X t_kr t_kr X X X (fun hD wD τD hL hS hO _ _ => ⟨rfl, (r_mvI X)⟩)<|zQ 11 [0, 1] X t_kr t_kr X X X (fun hD wD τD hL hS hO _ _ _ _ => ⟨rfl, (Run.lit (r_eql X X) g46_r)⟩)<|zQ 12 [0, 2] X t_kr t_kr X X X (fun hD wD τD hL hS hO _ _ _ _ => ⟨rfl, (r_mvB X)⟩)<|zR 13 [0] X t_kr t_kr X X X X (fun hD wD τD hL hS hO _ _ => X)<|zR 14 [0, 1] X t_kr t_kr X X X X (fun hD wD τD hL hS hO _ _ _ _ => X)<|zR 15 [2] X t_kr t_kr X X X X (fun hD wD τD hL hS hO _ _ => X)<|zR 16 [0, 3] X t_kr t_kr X X X X (fun hD wD τD hL hS hO _ _ _ _ => X)<|zR 17 [2, 0, 4] X t_kr t_kr X X X X (fun hD wD τD hL hS hO _ _ _ _ _ _ => X)<|zR 18 [0, 5] X t_kr t_kr X X X X (fun hD wD τD hL hS hO _ _ _ _ => X)<|zR 19 [0, 6] X t_kr t_kr X X X X (fun hD wD τD hL hS hO _ _ _ _ => X)<|zR 20 [7] X t_kr t_kr X X X X (fun hD wD τD hL hS hO _ _ => X)<|zR 21 [0, 8] X t_kr t_kr X X X X (fun hD wD τD hL hS hO _ _ _ _ => X)<|zR 22 [2, 0, 9] X t_kr t_kr X X X X (fun hD wD τD hL hS hO _ _ _ _ _ _ => X)<|zR 23 [0, 10] X t_kr t_kr X X X X (fun hD wD τD hL hS hO _ _ _ _ => X)<|zQ 24 [11, 0, 14] X t_kr t_kr X X X (fun hD wD τD hL hS hO _ _ _ _ _ _ => ⟨rfl, (r_pickT (v := (.bool _)) X X)⟩)<|zp 25 [15, 0] X t_kr t_kr X X (fun hD wD τD hL hS hO _ _ _ _ => (r_pickT (v := (.bool _)) X X))<|zp 26 [25, 24, 23, 22, 21, 20, 19, 18, 17, 16, 15, 14, 13, 12, 11, 10, 9, 8, 7, 6, 5, 4, 3, 2, 1, 0] X t_kr t_kr X X (fun hD wD τD hL hS hO _ _ _ _ _ _ _ _ _ _ _ _ gv6_0 gf6_0 _ _ _ _ _ _ _ _ _ _ _ _ _ _ _ _ _ _ _ _ _ _ _ _ _ _ _ _ _ _ _ _ _ _ _ _ _ _ => (r_asB X))<|Drw.nil X X X X X X ⟨t_kr, X, t_kr, X, t_kr, X, X, t_kr, cx_nil⟩ ?_
        intro hE61 w62 _ le63 st64 _ _ _ _ _ _ _ _ _ _ _ _ gv6_0x65 gf6_0x65 _ _ _ _ _ _ _ _ _ _ _ _ _ _ _ _ _ _ _ _ _ _ _ _ _ _ _ _ _ _ _ _ _ _ _ _ _ _ _ _
        refine AllDeps.fin X<|U<|zj<|W.sr<|v_field_addr X Tryz.underlying82 X Tryz.sizeOf80 X X<|v_load_cells1 (j := 3) st64.sub (hc36.up (le41.trans le63)) X X X Tryz.isAgg80 X<|v_len (f27.up ((le34.trans le41).trans le63)) X Tryz.underlying80 X<|v_mvI X X<|Z<|zt ?_
        refine zJ [8, 9, 10, 77, 78, 79, 80, 81, 82, 83, 84, 85, 86, 87, 88, 89, 90, 91, 92, 93, 94, 95, 96, 97, 98, 99, 100, 101, 102] (G := Nat × Heap) (fun ⟨k, h66⟩ => [(8, .bool (questK p i q k)), (77, .int .i64 (k : Int))]) (fun ⟨k, h66⟩ w' => Le hE61 h66 ∧ St h w h66 w' [[]] ∧ (k ≤ q.heads.length)) (fun ⟨k, h66⟩ => q.heads.length - k) ⟨0, hE61⟩ ⟨(zf (by rw [questK_zero]; first | exact q_init0 g44 g45 g46 | exact q_init1 g44 g45 g46 hq1 | exact q_init2 g46 | exact q_init3 g46)), rfl, trivial⟩ ⟨Le.refl _, st64, zO⟩ ?_
        rintro ⟨k, h66⟩ _ w69 ⟨le67, st68, hk⟩
        refine W.sr<|v_lss X X X<|Z<|zj ?_
        refine zk rfl (fun c70 => ?_) (fun c70 => ?_)
        ·
         replace c70 := of_decide_eq_true c70
         refine zq<|U<|zj<|zt<|W.sr<|v_mvI X X ?_
         have hhd : ∃ y_, (q.heads)[k]? = some y_ := ⟨_, List.getElem?_eq_getElem (by omega)⟩
         obtain ⟨hd, hhd⟩ := hhd
         obtain ⟨b71, o72, _, he74, hc73, hr_hd⟩ := Sl.elem (f27.up (((le34.trans le41).trans le63).trans le67)) hhd
         obtain ⟨rfl, ls75, lu76⟩ := hr_hd
         simp only [big] at ls75
         refine v_index_el he74 X X (hk := X) (hu := Tryz.underlying80) (hz := Tryz.sizeOf75) X<|v_load_call st68.sub hc73 X Tryz.isAgg75 Tryz.sizeOf75 X X<|zI st68 Tryz.zeroValue75 X X ?_
         intro b77 w78 st79
         refine v_asI X X<|zC st79 (k := 1) X X X (zn X (zn X zX)) Tryz.sizeOf75 X X X ?_
         intro w80 st81
         obtain ⟨h82, le83, hb84, st86⟩ := st81.freeze (k := 1) rfl
         have hc85 := Cells.of hb84
         refine Z<|zT Tryz.mixed t_kr (Cls h82 _) (Cls.drew st86)<|u_mvB X X<|u_mvB X X ?_
         refine zS (d := 83) rfl (fun g87 => ?_) (fun g87 => ?_)
         ·
          refine O X X (d := 83) X<|zg X X (fun _ hC => (zK hC.sub hc85 X Tryz.isAgg75 Tryz.sizeOf75 X))<|O X X (d := 83) X<|zW X X (fun _ => zP X Tryz.call66 X) (fun _ hC => Rets.quiet hC (c_vote_head hC.sub (hd := hd) t_str t_u8))<|u_pickT (v := (.bool _)) X X X<|u_mvB X X ?_
          refine zS (d := 87) rfl (fun g88 => ?_) (fun g88 => ?_)
          ·
           refine O X X (d := 87) X<|u_mvI X X<|O X X (d := 87) X<|u_eql X X X<|O X X (d := 87) X<|u_mvB X X ?_
           refine zS (d := 90) rfl (fun g89 => ?_) (fun g89 => ?_)
           ·
            replace g89 := of_decide_eq_true g89
            refine E X X (d := 90) X X X<|E X X (d := 90) X X X<|E X X (d := 90) X X X<|E X X (d := 90) X X X<|E X X (d := 90) X X X<|E X X (d := 90) X X X<|E X X (d := 90) X X X<|E X X (d := 90) X X X<|E X X (d := 90) X X X<|O X X (d := 87) X<|u_pickT (v := (.bool _)) X X X<|u_pickT (v := (.bool _)) X X X<|u_asB X X<|zG ?_
            rintro w90 ⟨h91, s92⟩
            have st93 := st86.call0 s92
            refine zy<|U<|zo<|v_add X X t_om X<|v_mvI X X<|Z ?_
            refine ⟨⟨k + 1, h91⟩, ⟨?_, rfl, trivial⟩, ?_, ⟨((le67.trans le83).trans s92.le), st93.take 1, ?_⟩, ?_⟩
            ·exact zf (by rw [questK_succ]; first | exact q_step0 g87 g88 g89 hhd | exact q_step1 g87 g88 g89 hhd hh1 | exact q_step2 g89 hhd | exact q_step3 g89)
            ·exact zL
            ·first | omega | (simp; omega)
            ·show q.heads.length - ((k + 1)) < q.heads.length - k
             omega
           ·
            replace g89 := of_decide_eq_false g89
            refine O X X (d := 90) X<|u_field_addr X Tryz.underlying82 X Tryz.sizeOf80 X X<|O X X (d := 90) X<|zg X X (fun _ hC => (zc (j := 3) hC.sub (hc36.up (((le41.trans le63).trans le67).trans le83)) X X X Tryz.isAgg80))<|O X X (d := 90) X<|u_mvI X X<|O X X (d := 90) X<|u_sub X X t_om X<|O X X (d := 90) X ?_
            have hh1 : ∃ y_, (q.heads)[(k - 1)]? = some y_ := ⟨_, List.getElem?_eq_getElem (by omega)⟩
            obtain ⟨h1, hh1⟩ := hh1
            obtain ⟨b94, o95, _, he97, hc96, hr_h1⟩ := Sl.elem (f27.up ((((le34.trans le41).trans le63).trans le67).trans le83)) hh1
            obtain ⟨rfl, ls98, lu99⟩ := hr_h1
            simp only [big] at ls98
            refine zg rfl rfl (fun _ _ => (zD he97 rfl rfl (hk := (show _ = (((k - 1) : Nat) : Int) by omega)) (hu := Tryz.underlying80) (hz := Tryz.sizeOf75))) ?_
            refine O X X (d := 90) X<|zg X X (fun _ hC => (zK hC.sub hc96 X Tryz.isAgg75 Tryz.sizeOf75 X))<|O X X (d := 90) X<|zg X X (fun _ hC => (zK hC.sub hc85 X Tryz.isAgg75 Tryz.sizeOf75 X))<|O X X (d := 90) X<|zW X X (fun _ => zP X Tryz.call67 X) (fun _ hC => Rets.quiet hC (c_vote_heads hC.sub (a := h1) t_str t_u8 (b := hd) t_str t_u8))<|O X X (d := 90) X<|u_lss X X X<|O X X (d := 87) X<|u_pickF (v := (.bool _)) X X X<|u_pickT (v := (.bool _)) X X X<|u_asB X X<|zG ?_
            rintro w100 ⟨h101, s102⟩
            have st103 := st86.call0 s102
            refine zy<|U<|zo<|v_add X X t_om X<|v_mvI X X<|Z ?_
            refine ⟨⟨k + 1, h101⟩, ⟨?_, rfl, trivial⟩, ?_, ⟨((le67.trans le83).trans s102.le), st103.take 1, ?_⟩, ?_⟩
            ·exact zf (by rw [questK_succ]; first | exact q_step0 g87 g88 g89 hhd | exact q_step1 g87 g88 g89 hhd hh1 | exact q_step2 g89 hhd | exact q_step3 g89)
            ·exact zL
            ·first | omega | (simp; omega)
            ·show q.heads.length - ((k + 1)) < q.heads.length - k
             omega
          ·
           refine E X X (d := 87) X X X<|E X X (d := 87) X X X<|E X X (d := 87) X X X<|ze X X (d := 90) X X<|ze X X (d := 90) X X<|ze X X (d := 90) X X<|ze X X (d := 90) X X<|ze X X (d := 90) X X<|ze X X (d := 90) X X<|ze X X (d := 90) X X<|ze X X (d := 90) X X<|ze X X (d := 90) X X<|E X X (d := 87) X X X<|u_pickF (v := (.bool _)) X X X<|u_asB X X<|zG ?_
           rintro w104 ⟨h105, s106⟩
           have st107 := st86.call0 s106
           refine zy<|U<|zo<|v_add X X t_om X<|v_mvI X X<|Z ?_
           refine ⟨⟨k + 1, h105⟩, ⟨?_, rfl, trivial⟩, ?_, ⟨((le67.trans le83).trans s106.le), st107.take 1, ?_⟩, ?_⟩
           ·exact zf (by rw [questK_succ]; first | exact q_step0 g46 g87 g88 hhd | exact q_step1 g46 g87 g88 hhd hh1 | exact q_step2 g88 hhd | exact q_step3 g88)
           ·exact zL
           ·first | omega | (simp; omega)
           ·show q.heads.length - ((k + 1)) < q.heads.length - k
            omega
         ·
          refine E X X (d := 83) X X X<|E X X (d := 83) X X X<|u_pickF (v := (.bool _)) X X X<|u_mvB X X<|E X X (d := 87) X X X<|E X X (d := 87) X X X<|E X X (d := 87) X X X<|ze X X (d := 90) X X<|ze X X (d := 90) X X<|ze X X (d := 90) X X<|ze X X (d := 90) X X<|ze X X (d := 90) X X<|ze X X (d := 90) X X<|ze X X (d := 90) X X<|ze X X (d := 90) X X<|ze X X (d := 90) X X<|E X X (d := 87) X X X<|u_pickF (v := (.bool _)) X X X<|u_asB X X<|zG ?_
          rintro w108 ⟨h109, s110⟩
          have st111 := st86.call0 s110
          refine zy<|U<|zo<|v_add X X t_om X<|v_mvI X X<|Z ?_
          refine ⟨⟨k + 1, h109⟩, ⟨?_, rfl, trivial⟩, ?_, ⟨((le67.trans le83).trans s110.le), st111.take 1, ?_⟩, ?_⟩
          ·exact zf (by rw [questK_succ]; first | exact q_step0 g45 g46 g87 hhd | exact q_step1 g45 g46 g87 hhd hh1 | exact q_step2 g87 hhd | exact q_step3 g87)
          ·exact zL
          ·first | omega | (simp; omega)
          ·show q.heads.length - ((k + 1)) < q.heads.length - k
           omega
        ·
         replace c70 := of_decide_eq_false c70
         refine zM<|zh<|zh<|zF<|U<|W.sr<|v_mvB X X<|v_not X X<|Z ?_
         refine zk rfl (fun c112 => ?_) (fun c112 => ?_)
         ·
          refine W.sr<|v_asI X X<|Z<|zm<|zl<|za<|za<|zl<|za<|zb Tryz.results22 ?_
          refine ⟨h66, _, rfl, st68.done, ?_⟩
          refine zE ?_
          first | (refine (check_not hz ?_).symm; simp [pollB]; omega) | (refine (check_yes hz (poll_true ?_ ?_ hA ?_ hV ?_)).symm <;> omega) | (refine (check_not hz (poll_q (i := i) ?_)).symm; rw [quest_eq hq (show q.heads.length = k by omega)]; simpa using c112) | (refine (check_not hz (ask_no (k := k) hv (by have q_ := c112; rw [Int.toNat_natCast, hv] at q_; first | (obtain rfl : k = 0 := (by omega); simpa [askAt, inAll_one] using q_) | (obtain rfl : k = 1 := (by omega); simpa [askAt, inAll_one] using q_) | (obtain rfl : k = 2 := (by omega); simpa [askAt, inAll_one] using q_) | (obtain rfl : k = 3 := (by omega); simpa [askAt, inAll_one] using q_) | (obtain rfl : k = 4 := (by omega); simpa [askAt, inAll_one] using q_)))).symm)
         ·
          refine zq<|zy<|U<|zo<|v_add X X t_om X<|v_mvI X X<|Z ?_
          refine ⟨⟨i + 1, h66⟩, ⟨rfl, trivial⟩, ?_, ⟨((((le18.trans le34).trans le41).trans le63).trans le67), st68.take 0, ?_, ?_⟩, ?_⟩
          ·exact zL
          ·first | omega | (simp; omega)
          ·exact all_lt_succ hA (by rw [quest_eq hq (show q.heads.length = k by omega)]; simpa using c112)
          ·show p.questions.length - ((i + 1)) < p.questions.length - i
           omega
       ·
        have g46_r := g46
        replace g46 := of_decide_eq_false g46
        have hq1 : ∃ y_, (p.questions)[(i - 1)]? = some y_ := ⟨_, List.getElem?_eq_getElem (by omega)⟩
        obtain ⟨q1, hq1⟩ := hq1
        obtain ⟨b113, o114, _, he116, hc115, hr_q1⟩ := Sl.elem (p_f3.up ((((le4.trans le10).trans le18).trans le34).trans le41)) hq1
        obtain ⟨v117, rfl, f118⟩ := hr_q1
        have f118_b := f118.le
        refine W.regionR (er := ([], [], [], [], 0)) (dsts := [48, 49, 50, 51, 52, 53, 54, 55, 56, 57, 58, 59, 60, 61, 62, 63, 64, 65, 66, 67, 68, 69, 70, 71, 72, 73, 8]) st42 Tryz.mixed<|zp 0 [] X t_kr t_kr X X (fun hD wD τD hL hS hO  => (r_mvI X))<|zp 1 [0] X t_kr t_kr X X (fun hD wD τD hL hS hO _ _ => (Run.lit (r_eql X X) g44_r))<|zp 2 [0] X t_kr t_kr X X (fun hD wD τD hL hS hO _ _ => (r_mvB X))<|zQ 3 [0] X t_kr t_kr X X X (fun hD wD τD hL hS hO _ _ => ⟨rfl, (zB X Tryz.underlying82 X Tryz.sizeOf80 X)⟩)<|zQ 4 [0, 1] X t_kr t_kr X X X (fun hD wD τD hL hS hO _ _ _ _ => ⟨rfl, (zc (j := 3) (hL.sub hS) (hc36.up le41) X X X Tryz.isAgg80)⟩)<|zQ 5 [0, 2] X t_kr t_kr X X X (fun hD wD τD hL hS hO _ _ _ _ => ⟨rfl, (r_len (f27.up (le34.trans le41)) X Tryz.underlying80)⟩) ?_
        refine zH 6 (.res (fun h' res_ => Sl LInt h' res_ ([(q.heads.length : Int)])) (fun _ _ _ hl f => f.up hl)) [0, 3] rfl t_kr t_kr ?_ ?_
        ·
         intro hD wD τD hL hS hO _ _ _ _
         have st119 := St.start hS
         refine M X X (d := 50) X<|zN (L := LInt) (xs := [(q.heads.length : Int)]) (cs := [.int .i64 (q.heads.length : Int)]) st119 (Enc.cons (L := LInt) (vs := [.int .i64 (q.heads.length : Int)]) (x := (q.heads.length : Int)) (h := hD) (X) Enc.nil) X X X Tryz.underlying42 Tryz.info3 X X X t_kr ?_
         intro v120 w121 h124 le125 f122 st123
         exact zx ⟨_, _, rfl, st123, _, rfl, f122⟩
        refine zH 7 (.det (.bool (inAll (([(q.heads.length : Int)])) (2) (3)))) [0, 4] rfl t_kr t_kr ?_ ?_
        ·
         intro hD wD τD hL hS hO gv6_0 gf6_0 _ _
         have st126 := St.start hS
         refine M X X (d := 50) X<|zi st126 X X X Tryz.call39 X (c_vote_in st126.sub _ _ gf6_0) ?_
         intro r127 w128 h129 le130 st131 q132
         obtain rfl := q132
         exact zx ⟨_, _, rfl, st131, (), rfl, trivial⟩
        refine zp 8 [5, 0] X t_kr t_kr X X (fun hD wD τD hL hS hO _ _ _ _ => (Run.lit (r_pickT (v := (.bool _)) X X) g45_r))<|zp 9 [0, 1] X t_kr t_kr X X (fun hD wD τD hL hS hO _ _ _ _ => (r_mvB X))<|zQ 10 [0] X t_kr t_kr X X X (fun hD wD τD hL hS hO _ _ => ⟨rfl, (r_mvI X)⟩)<|zQ 11 [0, 1] X t_kr t_kr X X X (fun hD wD τD hL hS hO _ _ _ _ => ⟨rfl, (Run.lit (r_eql X X) g46_r)⟩)<|zQ 12 [0, 2] X t_kr t_kr X X X (fun hD wD τD hL hS hO _ _ _ _ => ⟨rfl, (r_mvB X)⟩)<|zQ 13 [0] X t_kr t_kr X X X (fun hD wD τD hL hS hO _ _ => ⟨rfl, (zB X Tryz.underlying32 X Tryz.sizeOf29 X)⟩)<|zQ 14 [0, 1] X t_kr t_kr X X X (fun hD wD τD hL hS hO _ _ _ _ => ⟨rfl, (zc (j := 3) (hL.sub hS) (hc5.up (((le10.trans le18).trans le34).trans le41)) X X X Tryz.isAgg29)⟩)<|zQ 15 [2] X t_kr t_kr X X X (fun hD wD τD hL hS hO _ _ => ⟨rfl, (r_mvI X)⟩)<|zQ 16 [0, 3] X t_kr t_kr X X X (fun hD wD τD hL hS hO _ _ _ _ => ⟨rfl, (r_sub X X t_om)⟩) ?_
        refine zQ 17 [2, 0, 4] rfl t_kr t_kr rfl rfl rfl (fun hD wD τD hL hS hO _ _ _ _ _ _ => ⟨rfl, (zD he116 rfl rfl (hk := (show _ = (((i - 1) : Nat) : Int) by omega)) (hu := Tryz.underlying29) (hz := Tryz.sizeOf82))⟩) ?_
        refine zQ 18 [0, 5] X t_kr t_kr X X X (fun hD wD τD hL hS hO _ _ _ _ => ⟨rfl, (zB X Tryz.underlying82 X Tryz.sizeOf73 X)⟩)<|zQ 19 [0, 6] X t_kr t_kr X X X (fun hD wD τD hL hS hO _ _ _ _ => ⟨rfl, (r_load_cellsN (j := 0) (hL.sub hS) hc115 (us := [.int .i64 (q1.at_.chapter), .int .i64 (q1.at_.line), .int .i64 (q1.at_.word)]) X X Tryz.isAgg73 Tryz.sizeOf73 X X)⟩)<|zQ 20 [7] X t_kr t_kr X X X (fun hD wD τD hL hS hO _ _ => ⟨rfl, (zB X Tryz.underlying82 X Tryz.sizeOf73 X)⟩)<|zQ 21 [0, 8] X t_kr t_kr X X X (fun hD wD τD hL hS hO _ _ _ _ => ⟨rfl, (r_load_cellsN (j := 0) (hL.sub hS) (hc36.up le41) (us := [.int .i64 (q.at_.chapter), .int .i64 (q.at_.line), .int .i64 (q.at_.word)]) X X Tryz.isAgg73 Tryz.sizeOf73 X X)⟩) ?_
        refine zH 22 (.det (.int .i64 ((orL [cmpI (q1.at_).chapter (q.at_).chapter, cmpI (q1.at_).line (q.at_).line, cmpI (q1.at_).word (q.at_).word])))) [2, 0, 9] rfl t_kr t_kr ?_ ?_
        ·
         intro hD wD τD hL hS hO _ _ _ _ _ _
         have st133 := St.start hS
         refine M X X (d := 60) X<|zi st133 X X X Tryz.call65 X (c_vote_places st133.sub (a := q1.at_) (b := q.at_)) ?_
         intro r134 w135 h136 le137 st138 q139
         obtain rfl := q139
         exact zx ⟨_, _, rfl, st138, (), rfl, trivial⟩
        refine zQ 23 [0, 10] X t_kr t_kr X X X (fun hD wD τD hL hS hO _ _ _ _ => ⟨rfl, (r_lss X X)⟩)<|zQ 24 [11, 0, 14] X t_kr t_kr X X X (fun hD wD τD hL hS hO _ _ _ _ _ _ => ⟨rfl, (r_pickF (v := (.bool _)) X X)⟩)<|zp 25 [15, 0] X t_kr t_kr X X (fun hD wD τD hL hS hO _ _ _ _ => (r_pickT (v := (.bool _)) X X))<|zp 26 [25, 24, 23, 22, 21, 20, 19, 18, 17, 16, 15, 14, 13, 12, 11, 10, 9, 8, 7, 6, 5, 4, 3, 2, 1, 0] X t_kr t_kr X X (fun hD wD τD hL hS hO _ _ _ _ _ _ _ _ _ _ _ _ gv6_0 gf6_0 _ _ _ _ _ _ _ _ _ _ _ _ _ _ _ _ _ _ _ _ _ _ _ _ _ _ _ _ _ _ _ _ _ _ _ _ _ _ => (r_asB X))<|Drw.nil X X X X X X ⟨t_kr, X, t_kr, X, t_kr, X, X, t_kr, cx_nil⟩ ?_
        intro hE140 w141 _ le142 st143 _ _ _ _ _ _ _ _ _ _ _ _ gv6_0x144 gf6_0x144 _ _ _ _ _ _ _ _ _ _ _ _ _ _ _ _ _ _ _ _ _ _ _ _ _ _ _ _ _ _ _ _ _ _ _ _ _ _ _ _
        refine AllDeps.fin X<|U<|zj<|W.sr<|v_field_addr X Tryz.underlying82 X Tryz.sizeOf80 X X<|v_load_cells1 (j := 3) st143.sub (hc36.up (le41.trans le142)) X X X Tryz.isAgg80 X<|v_len (f27.up ((le34.trans le41).trans le142)) X Tryz.underlying80 X<|v_mvI X X<|Z<|zt ?_
        refine zJ [8, 9, 10, 77, 78, 79, 80, 81, 82, 83, 84, 85, 86, 87, 88, 89, 90, 91, 92, 93, 94, 95, 96, 97, 98, 99, 100, 101, 102] (G := Nat × Heap) (fun ⟨k, h145⟩ => [(8, .bool (questK p i q k)), (77, .int .i64 (k : Int))]) (fun ⟨k, h145⟩ w' => Le hE140 h145 ∧ St h w h145 w' [[]] ∧ (k ≤ q.heads.length)) (fun ⟨k, h145⟩ => q.heads.length - k) ⟨0, hE140⟩ ⟨(zf (by rw [questK_zero]; first | exact q_init0 g44 g45 g46 | exact q_init1 g44 g45 g46 hq1 | exact q_init2 g46 | exact q_init3 g46)), rfl, trivial⟩ ⟨Le.refl _, st143, zO⟩ ?_
        rintro ⟨k, h145⟩ _ w148 ⟨le146, st147, hk⟩
        refine W.sr<|v_lss X X X<|Z<|zj ?_
        refine zk rfl (fun c149 => ?_) (fun c149 => ?_)
        ·
         replace c149 := of_decide_eq_true c149
         refine zq<|U<|zj<|zt<|W.sr<|v_mvI X X ?_
         have hhd : ∃ y_, (q.heads)[k]? = some y_ := ⟨_, List.getElem?_eq_getElem (by omega)⟩
         obtain ⟨hd, hhd⟩ := hhd
         obtain ⟨b150, o151, _, he153, hc152, hr_hd⟩ := Sl.elem (f27.up (((le34.trans le41).trans le142).trans le146)) hhd
         obtain ⟨rfl, ls154, lu155⟩ := hr_hd
         simp only [big] at ls154
         refine v_index_el he153 X X (hk := X) (hu := Tryz.underlying80) (hz := Tryz.sizeOf75) X<|v_load_call st147.sub hc152 X Tryz.isAgg75 Tryz.sizeOf75 X X<|zI st147 Tryz.zeroValue75 X X ?_
         intro b156 w157 st158
         refine v_asI X X<|zC st158 (k := 1) X X X (zn X (zn X zX)) Tryz.sizeOf75 X X X ?_
         intro w159 st160
         obtain ⟨h161, le162, hb163, st165⟩ := st160.freeze (k := 1) rfl
         have hc164 := Cells.of hb163
         refine Z<|zT Tryz.mixed t_kr (Cls h161 _) (Cls.drew st165)<|u_mvB X X<|u_mvB X X ?_
         refine zS (d := 83) rfl (fun g166 => ?_) (fun g166 => ?_)
         ·
          refine O X X (d := 83) X<|zg X X (fun _ hC => (zK hC.sub hc164 X Tryz.isAgg75 Tryz.sizeOf75 X))<|O X X (d := 83) X<|zW X X (fun _ => zP X Tryz.call66 X) (fun _ hC => Rets.quiet hC (c_vote_head hC.sub (hd := hd) t_str t_u8))<|u_pickT (v := (.bool _)) X X X<|u_mvB X X ?_
          refine zS (d := 87) rfl (fun g167 => ?_) (fun g167 => ?_)
          ·
           refine O X X (d := 87) X<|u_mvI X X<|O X X (d := 87) X<|u_eql X X X<|O X X (d := 87) X<|u_mvB X X ?_
           refine zS (d := 90) rfl (fun g168 => ?_) (fun g168 => ?_)
           ·
            replace g168 := of_decide_eq_true g168
            refine E X X (d := 90) X X X<|E X X (d := 90) X X X<|E X X (d := 90) X X X<|E X X (d := 90) X X X<|E X X (d := 90) X X X<|E X X (d := 90) X X X<|E X X (d := 90) X X X<|E X X (d := 90) X X X<|E X X (d := 90) X X X<|O X X (d := 87) X<|u_pickT (v := (.bool _)) X X X<|u_pickT (v := (.bool _)) X X X<|u_asB X X<|zG ?_
            rintro w169 ⟨h170, s171⟩
            have st172 := st165.call0 s171
            refine zy<|U<|zo<|v_add X X t_om X<|v_mvI X X<|Z ?_
            refine ⟨⟨k + 1, h170⟩, ⟨?_, rfl, trivial⟩, ?_, ⟨((le146.trans le162).trans s171.le), st172.take 1, ?_⟩, ?_⟩
            ·exact zf (by rw [questK_succ]; first | exact q_step0 g166 g167 g168 hhd | exact q_step1 g166 g167 g168 hhd hh1 | exact q_step2 g168 hhd | exact q_step3 g168)
            ·exact zL
            ·first | omega | (simp; omega)
            ·show q.heads.length - ((k + 1)) < q.heads.length - k
             omega
           ·
            replace g168 := of_decide_eq_false g168
            refine O X X (d := 90) X<|u_field_addr X Tryz.underlying82 X Tryz.sizeOf80 X X<|O X X (d := 90) X<|zg X X (fun _ hC => (zc (j := 3) hC.sub (hc36.up (((le41.trans le142).trans le146).trans le162)) X X X Tryz.isAgg80))<|O X X (d := 90) X<|u_mvI X X<|O X X (d := 90) X<|u_sub X X t_om X<|O X X (d := 90) X ?_
            have hh1 : ∃ y_, (q.heads)[(k - 1)]? = some y_ := ⟨_, List.getElem?_eq_getElem (by omega)⟩
            obtain ⟨h1, hh1⟩ := hh1
            obtain ⟨b173, o174, _, he176, hc175, hr_h1⟩ := Sl.elem (f27.up ((((le34.trans le41).trans le142).trans le146).trans le162)) hh1
            obtain ⟨rfl, ls177, lu178⟩ := hr_h1
            simp only [big] at ls177
            refine zg rfl rfl (fun _ _ => (zD he176 rfl rfl (hk := (show _ = (((k - 1) : Nat) : Int) by omega)) (hu := Tryz.underlying80) (hz := Tryz.sizeOf75))) ?_
            refine O X X (d := 90) X<|zg X X (fun _ hC => (zK hC.sub hc175 X Tryz.isAgg75 Tryz.sizeOf75 X))<|O X X (d := 90) X<|zg X X (fun _ hC => (zK hC.sub hc164 X Tryz.isAgg75 Tryz.sizeOf75 X))<|O X X (d := 90) X<|zW X X (fun _ => zP X Tryz.call67 X) (fun _ hC => Rets.quiet hC (c_vote_heads hC.sub (a := h1) t_str t_u8 (b := hd) t_str t_u8))<|O X X (d := 90) X<|u_lss X X X<|O X X (d := 87) X<|u_pickF (v := (.bool _)) X X X<|u_pickT (v := (.bool _)) X X X<|u_asB X X<|zG ?_
            rintro w179 ⟨h180, s181⟩
            have st182 := st165.call0 s181
            refine zy<|U<|zo<|v_add X X t_om X<|v_mvI X X<|Z ?_
            refine ⟨⟨k + 1, h180⟩, ⟨?_, rfl, trivial⟩, ?_, ⟨((le146.trans le162).trans s181.le), st182.take 1, ?_⟩, ?_⟩
            ·exact zf (by rw [questK_succ]; first | exact q_step0 g166 g167 g168 hhd | exact q_step1 g166 g167 g168 hhd hh1 | exact q_step2 g168 hhd | exact q_step3 g168)
            ·exact zL
            ·first | omega | (simp; omega)
            ·show q.heads.length - ((k + 1)) < q.heads.length - k
             omega
          ·
           refine E X X (d := 87) X X X<|E X X (d := 87) X X X<|E X X (d := 87) X X X<|ze X X (d := 90) X X<|ze X X (d := 90) X X<|ze X X (d := 90) X X<|ze X X (d := 90) X X<|ze X X (d := 90) X X<|ze X X (d := 90) X X<|ze X X (d := 90) X X<|ze X X (d := 90) X X<|ze X X (d := 90) X X<|E X X (d := 87) X X X<|u_pickF (v := (.bool _)) X X X<|u_asB X X<|zG ?_
           rintro w183 ⟨h184, s185⟩
           have st186 := st165.call0 s185
           refine zy<|U<|zo<|v_add X X t_om X<|v_mvI X X<|Z ?_
           refine ⟨⟨k + 1, h184⟩, ⟨?_, rfl, trivial⟩, ?_, ⟨((le146.trans le162).trans s185.le), st186.take 1, ?_⟩, ?_⟩
           ·exact zf (by rw [questK_succ]; first | exact q_step0 g46 g166 g167 hhd | exact q_step1 g46 g166 g167 hhd hh1 | exact q_step2 g167 hhd | exact q_step3 g167)
           ·exact zL
           ·first | omega | (simp; omega)
           ·show q.heads.length - ((k + 1)) < q.heads.length - k
            omega
         ·
          refine E X X (d := 83) X X X<|E X X (d := 83) X X X<|u_pickF (v := (.bool _)) X X X<|u_mvB X X<|E X X (d := 87) X X X<|E X X (d := 87) X X X<|E X X (d := 87) X X X<|ze X X (d := 90) X X<|ze X X (d := 90) X X<|ze X X (d := 90) X X<|ze X X (d := 90) X X<|ze X X (d := 90) X X<|ze X X (d := 90) X X<|ze X X (d := 90) X X<|ze X X (d := 90) X X<|ze X X (d := 90) X X<|E X X (d := 87) X X X<|u_pickF (v := (.bool _)) X X X<|u_asB X X<|zG ?_
          rintro w187 ⟨h188, s189⟩
          have st190 := st165.call0 s189
          refine zy<|U<|zo<|v_add X X t_om X<|v_mvI X X<|Z ?_
          refine ⟨⟨k + 1, h188⟩, ⟨?_, rfl, trivial⟩, ?_, ⟨((le146.trans le162).trans s189.le), st190.take 1, ?_⟩, ?_⟩
          ·exact zf (by rw [questK_succ]; first | exact q_step0 g45 g46 g166 hhd | exact q_step1 g45 g46 g166 hhd hh1 | exact q_step2 g166 hhd | exact q_step3 g166)
          ·exact zL
          ·first | omega | (simp; omega)
          ·show q.heads.length - ((k + 1)) < q.heads.length - k
           omega
        ·
         replace c149 := of_decide_eq_false c149
         refine zM<|zh<|zh<|zF<|U<|W.sr<|v_mvB X X<|v_not X X<|Z ?_
         refine zk rfl (fun c191 => ?_) (fun c191 => ?_)
         ·
          refine W.sr<|v_asI X X<|Z<|zm<|zl<|za<|za<|zl<|za<|zb Tryz.results22 ?_
          refine ⟨h145, _, rfl, st147.done, ?_⟩
          refine zE ?_
          first | (refine (check_not hz ?_).symm; simp [pollB]; omega) | (refine (check_yes hz (poll_true ?_ ?_ hA ?_ hV ?_)).symm <;> omega) | (refine (check_not hz (poll_q (i := i) ?_)).symm; rw [quest_eq hq (show q.heads.length = k by omega)]; simpa using c191) | (refine (check_not hz (ask_no (k := k) hv (by have q_ := c191; rw [Int.toNat_natCast, hv] at q_; first | (obtain rfl : k = 0 := (by omega); simpa [askAt, inAll_one] using q_) | (obtain rfl : k = 1 := (by omega); simpa [askAt, inAll_one] using q_) | (obtain rfl : k = 2 := (by omega); simpa [askAt, inAll_one] using q_) | (obtain rfl : k = 3 := (by omega); simpa [askAt, inAll_one] using q_) | (obtain rfl : k = 4 := (by omega); simpa [askAt, inAll_one] using q_)))).symm)
         ·
          refine zq<|zy<|U<|zo<|v_add X X t_om X<|v_mvI X X<|Z ?_
          refine ⟨⟨i + 1, h145⟩, ⟨rfl, trivial⟩, ?_, ⟨((((le18.trans le34).trans le41).trans le142).trans le146), st147.take 0, ?_, ?_⟩, ?_⟩
          ·exact zL
          ·first | omega | (simp; omega)
          ·exact all_lt_succ hA (by rw [quest_eq hq (show q.heads.length = k by omega)]; simpa using c191)
          ·show p.questions.length - ((i + 1)) < p.questions.length - i
           omega
      ·
       have g45_r := g45
       refine W.regionR (er := ([], [], [], [], 0)) (dsts := [48, 49, 50, 51, 52, 53, 54, 55, 56, 57, 58, 59, 60, 61, 62, 63, 64, 65, 66, 67, 68, 69, 70, 71, 72, 73, 8]) st42 Tryz.mixed<|zp 0 [] X t_kr t_kr X X (fun hD wD τD hL hS hO  => (r_mvI X))<|zp 1 [0] X t_kr t_kr X X (fun hD wD τD hL hS hO _ _ => (Run.lit (r_eql X X) g44_r))<|zp 2 [0] X t_kr t_kr X X (fun hD wD τD hL hS hO _ _ => (r_mvB X))<|zQ 3 [0] X t_kr t_kr X X X (fun hD wD τD hL hS hO _ _ => ⟨rfl, (zB X Tryz.underlying82 X Tryz.sizeOf80 X)⟩)<|zQ 4 [0, 1] X t_kr t_kr X X X (fun hD wD τD hL hS hO _ _ _ _ => ⟨rfl, (zc (j := 3) (hL.sub hS) (hc36.up le41) X X X Tryz.isAgg80)⟩)<|zQ 5 [0, 2] X t_kr t_kr X X X (fun hD wD τD hL hS hO _ _ _ _ => ⟨rfl, (r_len (f27.up (le34.trans le41)) X Tryz.underlying80)⟩) ?_
       refine zH 6 (.res (fun h' res_ => Sl LInt h' res_ ([(q.heads.length : Int)])) (fun _ _ _ hl f => f.up hl)) [0, 3] rfl t_kr t_kr ?_ ?_
       ·
        intro hD wD τD hL hS hO _ _ _ _
        have st192 := St.start hS
        refine M X X (d := 50) X<|zN (L := LInt) (xs := [(q.heads.length : Int)]) (cs := [.int .i64 (q.heads.length : Int)]) st192 (Enc.cons (L := LInt) (vs := [.int .i64 (q.heads.length : Int)]) (x := (q.heads.length : Int)) (h := hD) (X) Enc.nil) X X X Tryz.underlying42 Tryz.info3 X X X t_kr ?_
        intro v193 w194 h197 le198 f195 st196
        exact zx ⟨_, _, rfl, st196, _, rfl, f195⟩
       refine zH 7 (.det (.bool (inAll (([(q.heads.length : Int)])) (2) (3)))) [0, 4] rfl t_kr t_kr ?_ ?_
       ·
        intro hD wD τD hL hS hO gv6_0 gf6_0 _ _
        have st199 := St.start hS
        refine M X X (d := 50) X<|zi st199 X X X Tryz.call39 X (c_vote_in st199.sub _ _ gf6_0) ?_
        intro r200 w201 h202 le203 st204 q205
        obtain rfl := q205
        exact zx ⟨_, _, rfl, st204, (), rfl, trivial⟩
       refine zp 8 [5, 0] X t_kr t_kr X X (fun hD wD τD hL hS hO _ _ _ _ => (Run.lit (r_pickT (v := (.bool _)) X X) g45_r))<|zp 9 [0, 1] X t_kr t_kr X X (fun hD wD τD hL hS hO _ _ _ _ => (r_mvB X))<|zR 10 [0] X t_kr t_kr X X X X (fun hD wD τD hL hS hO _ _ => X)<|zR 11 [0, 1] X t_kr t_kr X X X X (fun hD wD τD hL hS hO _ _ _ _ => X)<|zR 12 [0, 2] X t_kr t_kr X X X X (fun hD wD τD hL hS hO _ _ _ _ => X)<|zaa 13 [0] X t_kr t_kr X X X (fun hD wD τD hL hS hO _ _ => X)<|zaa 14 [0, 1] X t_kr t_kr X X X (fun hD wD τD hL hS hO _ _ _ _ => X)<|zaa 15 [2] X t_kr t_kr X X X (fun hD wD τD hL hS hO _ _ => X)<|zaa 16 [0, 3] X t_kr t_kr X X X (fun hD wD τD hL hS hO _ _ _ _ => X)<|zaa 17 [2, 0, 4] X t_kr t_kr X X X (fun hD wD τD hL hS hO _ _ _ _ _ _ => X)<|zaa 18 [0, 5] X t_kr t_kr X X X (fun hD wD τD hL hS hO _ _ _ _ => X)<|zaa 19 [0, 6] X t_kr t_kr X X X (fun hD wD τD hL hS hO _ _ _ _ => X)<|zaa 20 [7] X t_kr t_kr X X X (fun hD wD τD hL hS hO _ _ => X)<|zaa 21 [0, 8] X t_kr t_kr X X X (fun hD wD τD hL hS hO _ _ _ _ => X)<|zaa 22 [2, 0, 9] X t_kr t_kr X X X (fun hD wD τD hL hS hO _ _ _ _ _ _ => X)<|zaa 23 [0, 10] X t_kr t_kr X X X (fun hD wD τD hL hS hO _ _ _ _ => X)<|zR 24 [11, 0, 14] X t_kr t_kr X X X X (fun hD wD τD hL hS hO _ _ _ _ _ _ => X)<|zp 25 [15, 0] X t_kr t_kr X X (fun hD wD τD hL hS hO _ _ _ _ => (r_pickF (v := (.bool _)) X X))<|zp 26 [25, 24, 23, 22, 21, 20, 19, 18, 17, 16, 15, 14, 13, 12, 11, 10, 9, 8, 7, 6, 5, 4, 3, 2, 1, 0] X t_kr t_kr X X (fun hD wD τD hL hS hO _ _ _ _ _ _ _ _ _ _ _ _ gv6_0 gf6_0 _ _ _ _ _ _ _ _ _ _ _ _ _ _ _ _ _ _ _ _ _ _ _ _ _ _ _ _ _ _ _ _ _ _ _ _ _ _ => (r_asB X))<|Drw.nil X X X X X X ⟨t_kr, X, t_kr, X, t_kr, X, X, t_kr, cx_nil⟩ ?_
       intro hE206 w207 _ le208 st209 _ _ _ _ _ _ _ _ _ _ _ _ gv6_0x210 gf6_0x210 _ _ _ _ _ _ _ _ _ _ _ _ _ _ _ _ _ _ _ _ _ _ _ _ _ _ _ _ _ _ _ _ _ _ _ _ _ _ _ _
       refine AllDeps.fin X<|U<|zj<|W.sr<|v_field_addr X Tryz.underlying82 X Tryz.sizeOf80 X X<|v_load_cells1 (j := 3) st209.sub (hc36.up (le41.trans le208)) X X X Tryz.isAgg80 X<|v_len (f27.up ((le34.trans le41).trans le208)) X Tryz.underlying80 X<|v_mvI X X<|Z<|zt ?_
       refine zJ [8, 9, 10, 77, 78, 79, 80, 81, 82, 83, 84, 85, 86, 87, 88, 89, 90, 91, 92, 93, 94, 95, 96, 97, 98, 99, 100, 101, 102] (G := Nat × Heap) (fun ⟨k, h211⟩ => [(8, .bool (questK p i q k)), (77, .int .i64 (k : Int))]) (fun ⟨k, h211⟩ w' => Le hE206 h211 ∧ St h w h211 w' [[]] ∧ (k ≤ q.heads.length)) (fun ⟨k, h211⟩ => q.heads.length - k) ⟨0, hE206⟩ ⟨(zf (by rw [questK_zero]; first | exact q_init0 g14 g44 g45 | exact q_init1 g14 g44 g45 hq1 | exact q_init2 g45 | exact q_init3 g45)), rfl, trivial⟩ ⟨Le.refl _, st209, zO⟩ ?_
       rintro ⟨k, h211⟩ _ w214 ⟨le212, st213, hk⟩
       refine W.sr<|v_lss X X X<|Z<|zj ?_
       refine zk rfl (fun c215 => ?_) (fun c215 => ?_)
       ·
        replace c215 := of_decide_eq_true c215
        refine zq<|U<|zj<|zt<|W.sr<|v_mvI X X ?_
        have hhd : ∃ y_, (q.heads)[k]? = some y_ := ⟨_, List.getElem?_eq_getElem (by omega)⟩
        obtain ⟨hd, hhd⟩ := hhd
        obtain ⟨b216, o217, _, he219, hc218, hr_hd⟩ := Sl.elem (f27.up (((le34.trans le41).trans le208).trans le212)) hhd
        obtain ⟨rfl, ls220, lu221⟩ := hr_hd
        simp only [big] at ls220
        refine v_index_el he219 X X (hk := X) (hu := Tryz.underlying80) (hz := Tryz.sizeOf75) X<|v_load_call st213.sub hc218 X Tryz.isAgg75 Tryz.sizeOf75 X X<|zI st213 Tryz.zeroValue75 X X ?_
        intro b222 w223 st224
        refine v_asI X X<|zC st224 (k := 1) X X X (zn X (zn X zX)) Tryz.sizeOf75 X X X ?_
        intro w225 st226
        obtain ⟨h227, le228, hb229, st231⟩ := st226.freeze (k := 1) rfl
        have hc230 := Cells.of hb229
        refine Z<|zT Tryz.mixed t_kr (Cls h227 _) (Cls.drew st231)<|u_mvB X X<|u_mvB X X ?_
        refine zS (d := 83) rfl (fun g232 => ?_) (fun g232 => ?_)
        ·
         refine O X X (d := 83) X<|zg X X (fun _ hC => (zK hC.sub hc230 X Tryz.isAgg75 Tryz.sizeOf75 X))<|O X X (d := 83) X<|zW X X (fun _ => zP X Tryz.call66 X) (fun _ hC => Rets.quiet hC (c_vote_head hC.sub (hd := hd) t_str t_u8))<|u_pickT (v := (.bool _)) X X X<|u_mvB X X ?_
         refine zS (d := 87) rfl (fun g233 => ?_) (fun g233 => ?_)
         ·
          refine O X X (d := 87) X<|u_mvI X X<|O X X (d := 87) X<|u_eql X X X<|O X X (d := 87) X<|u_mvB X X ?_
          refine zS (d := 90) rfl (fun g234 => ?_) (fun g234 => ?_)
          ·
           replace g234 := of_decide_eq_true g234
           refine E X X (d := 90) X X X<|E X X (d := 90) X X X<|E X X (d := 90) X X X<|E X X (d := 90) X X X<|E X X (d := 90) X X X<|E X X (d := 90) X X X<|E X X (d := 90) X X X<|E X X (d := 90) X X X<|E X X (d := 90) X X X<|O X X (d := 87) X<|u_pickT (v := (.bool _)) X X X<|u_pickT (v := (.bool _)) X X X<|u_asB X X<|zG ?_
           rintro w235 ⟨h236, s237⟩
           have st238 := st231.call0 s237
           refine zy<|U<|zo<|v_add X X t_om X<|v_mvI X X<|Z ?_
           refine ⟨⟨k + 1, h236⟩, ⟨?_, rfl, trivial⟩, ?_, ⟨((le212.trans le228).trans s237.le), st238.take 1, ?_⟩, ?_⟩
           ·exact zf (by rw [questK_succ]; first | exact q_step0 g232 g233 g234 hhd | exact q_step1 g232 g233 g234 hhd hh1 | exact q_step2 g234 hhd | exact q_step3 g234)
           ·exact zL
           ·first | omega | (simp; omega)
           ·show q.heads.length - ((k + 1)) < q.heads.length - k
            omega
          ·
           replace g234 := of_decide_eq_false g234
           refine O X X (d := 90) X<|u_field_addr X Tryz.underlying82 X Tryz.sizeOf80 X X<|O X X (d := 90) X<|zg X X (fun _ hC => (zc (j := 3) hC.sub (hc36.up (((le41.trans le208).trans le212).trans le228)) X X X Tryz.isAgg80))<|O X X (d := 90) X<|u_mvI X X<|O X X (d := 90) X<|u_sub X X t_om X<|O X X (d := 90) X ?_
           have hh1 : ∃ y_, (q.heads)[(k - 1)]? = some y_ := ⟨_, List.getElem?_eq_getElem (by omega)⟩
           obtain ⟨h1, hh1⟩ := hh1
           obtain ⟨b239, o240, _, he242, hc241, hr_h1⟩ := Sl.elem (f27.up ((((le34.trans le41).trans le208).trans le212).trans le228)) hh1
           obtain ⟨rfl, ls243, lu244⟩ := hr_h1
           simp only [big] at ls243
           refine zg rfl rfl (fun _ _ => (zD he242 rfl rfl (hk := (show _ = (((k - 1) : Nat) : Int) by omega)) (hu := Tryz.underlying80) (hz := Tryz.sizeOf75))) ?_
           refine O X X (d := 90) X<|zg X X (fun _ hC => (zK hC.sub hc241 X Tryz.isAgg75 Tryz.sizeOf75 X))<|O X X (d := 90) X<|zg X X (fun _ hC => (zK hC.sub hc230 X Tryz.isAgg75 Tryz.sizeOf75 X))<|O X X (d := 90) X<|zW X X (fun _ => zP X Tryz.call67 X) (fun _ hC => Rets.quiet hC (c_vote_heads hC.sub (a := h1) t_str t_u8 (b := hd) t_str t_u8))<|O X X (d := 90) X<|u_lss X X X<|O X X (d := 87) X<|u_pickF (v := (.bool _)) X X X<|u_pickT (v := (.bool _)) X X X<|u_asB X X<|zG ?_
           rintro w245 ⟨h246, s247⟩
           have st248 := st231.call0 s247
           refine zy<|U<|zo<|v_add X X t_om X<|v_mvI X X<|Z ?_
           refine ⟨⟨k + 1, h246⟩, ⟨?_, rfl, trivial⟩, ?_, ⟨((le212.trans le228).trans s247.le), st248.take 1, ?_⟩, ?_⟩
           ·exact zf (by rw [questK_succ]; first | exact q_step0 g232 g233 g234 hhd | exact q_step1 g232 g233 g234 hhd hh1 | exact q_step2 g234 hhd | exact q_step3 g234)
           ·exact zL
           ·first | omega | (simp; omega)
           ·show q.heads.length - ((k + 1)) < q.heads.length - k
            omega
         ·
          refine E X X (d := 87) X X X<|E X X (d := 87) X X X<|E X X (d := 87) X X X<|ze X X (d := 90) X X<|ze X X (d := 90) X X<|ze X X (d := 90) X X<|ze X X (d := 90) X X<|ze X X (d := 90) X X<|ze X X (d := 90) X X<|ze X X (d := 90) X X<|ze X X (d := 90) X X<|ze X X (d := 90) X X<|E X X (d := 87) X X X<|u_pickF (v := (.bool _)) X X X<|u_asB X X<|zG ?_
          rintro w249 ⟨h250, s251⟩
          have st252 := st231.call0 s251
          refine zy<|U<|zo<|v_add X X t_om X<|v_mvI X X<|Z ?_
          refine ⟨⟨k + 1, h250⟩, ⟨?_, rfl, trivial⟩, ?_, ⟨((le212.trans le228).trans s251.le), st252.take 1, ?_⟩, ?_⟩
          ·exact zf (by rw [questK_succ]; first | exact q_step0 g45 g232 g233 hhd | exact q_step1 g45 g232 g233 hhd hh1 | exact q_step2 g233 hhd | exact q_step3 g233)
          ·exact zL
          ·first | omega | (simp; omega)
          ·show q.heads.length - ((k + 1)) < q.heads.length - k
           omega
        ·
         refine E X X (d := 83) X X X<|E X X (d := 83) X X X<|u_pickF (v := (.bool _)) X X X<|u_mvB X X<|E X X (d := 87) X X X<|E X X (d := 87) X X X<|E X X (d := 87) X X X<|ze X X (d := 90) X X<|ze X X (d := 90) X X<|ze X X (d := 90) X X<|ze X X (d := 90) X X<|ze X X (d := 90) X X<|ze X X (d := 90) X X<|ze X X (d := 90) X X<|ze X X (d := 90) X X<|ze X X (d := 90) X X<|E X X (d := 87) X X X<|u_pickF (v := (.bool _)) X X X<|u_asB X X<|zG ?_
         rintro w253 ⟨h254, s255⟩
         have st256 := st231.call0 s255
         refine zy<|U<|zo<|v_add X X t_om X<|v_mvI X X<|Z ?_
         refine ⟨⟨k + 1, h254⟩, ⟨?_, rfl, trivial⟩, ?_, ⟨((le212.trans le228).trans s255.le), st256.take 1, ?_⟩, ?_⟩
         ·exact zf (by rw [questK_succ]; first | exact q_step0 g44 g45 g232 hhd | exact q_step1 g44 g45 g232 hhd hh1 | exact q_step2 g232 hhd | exact q_step3 g232)
         ·exact zL
         ·first | omega | (simp; omega)
         ·show q.heads.length - ((k + 1)) < q.heads.length - k
          omega
       ·
        replace c215 := of_decide_eq_false c215
        refine zM<|zh<|zh<|zF<|U<|W.sr<|v_mvB X X<|v_not X X<|Z ?_
        refine zk rfl (fun c257 => ?_) (fun c257 => ?_)
        ·
         refine W.sr<|v_asI X X<|Z<|zm<|zl<|za<|za<|zl<|za<|zb Tryz.results22 ?_
         refine ⟨h211, _, rfl, st213.done, ?_⟩
         refine zE ?_
         first | (refine (check_not hz ?_).symm; simp [pollB]; omega) | (refine (check_yes hz (poll_true ?_ ?_ hA ?_ hV ?_)).symm <;> omega) | (refine (check_not hz (poll_q (i := i) ?_)).symm; rw [quest_eq hq (show q.heads.length = k by omega)]; simpa using c257) | (refine (check_not hz (ask_no (k := k) hv (by have q_ := c257; rw [Int.toNat_natCast, hv] at q_; first | (obtain rfl : k = 0 := (by omega); simpa [askAt, inAll_one] using q_) | (obtain rfl : k = 1 := (by omega); simpa [askAt, inAll_one] using q_) | (obtain rfl : k = 2 := (by omega); simpa [askAt, inAll_one] using q_) | (obtain rfl : k = 3 := (by omega); simpa [askAt, inAll_one] using q_) | (obtain rfl : k = 4 := (by omega); simpa [askAt, inAll_one] using q_)))).symm)
        ·
         refine zq<|zy<|U<|zo<|v_add X X t_om X<|v_mvI X X<|Z ?_
         refine ⟨⟨i + 1, h211⟩, ⟨rfl, trivial⟩, ?_, ⟨((((le18.trans le34).trans le41).trans le208).trans le212), st213.take 0, ?_, ?_⟩, ?_⟩
         ·exact zL
         ·first | omega | (simp; omega)
         ·exact all_lt_succ hA (by rw [quest_eq hq (show q.heads.length = k by omega)]; simpa using c257)
         ·show p.questions.length - ((i + 1)) < p.questions.length - i
          omega
     ·
      have g44_r := g44
      replace g44 := of_decide_eq_false g44
      refine W.regionR (er := ([], [], [], [], 0)) (dsts := [48, 49, 50, 51, 52, 53, 54, 55, 56, 57, 58, 59, 60, 61, 62, 63, 64, 65, 66, 67, 68, 69, 70, 71, 72, 73, 8]) st42 Tryz.mixed<|zp 0 [] X t_kr t_kr X X (fun hD wD τD hL hS hO  => (r_mvI X))<|zp 1 [0] X t_kr t_kr X X (fun hD wD τD hL hS hO _ _ => (Run.lit (r_eql X X) g44_r))<|zp 2 [0] X t_kr t_kr X X (fun hD wD τD hL hS hO _ _ => (r_mvB X))<|zR 3 [0] X t_kr t_kr X X X X (fun hD wD τD hL hS hO _ _ => X)<|zR 4 [0, 1] X t_kr t_kr X X X X (fun hD wD τD hL hS hO _ _ _ _ => X)<|zR 5 [0, 2] X t_kr t_kr X X X X (fun hD wD τD hL hS hO _ _ _ _ => X)<|zR 6 [0, 3] X t_kr t_kr X X X X (fun hD wD τD hL hS hO _ _ _ _ => X)<|zR 7 [0, 4] X t_kr t_kr X X X X (fun hD wD τD hL hS hO _ _ _ _ => X)<|zp 8 [5, 0] X t_kr t_kr X X (fun hD wD τD hL hS hO _ _ _ _ => (r_pickF (v := (.bool _)) X X))<|zp 9 [0, 1] X t_kr t_kr X X (fun hD wD τD hL hS hO _ _ _ _ => (r_mvB X))<|zR 10 [0] X t_kr t_kr X X X X (fun hD wD τD hL hS hO _ _ => X)<|zR 11 [0, 1] X t_kr t_kr X X X X (fun hD wD τD hL hS hO _ _ _ _ => X)<|zR 12 [0, 2] X t_kr t_kr X X X X (fun hD wD τD hL hS hO _ _ _ _ => X)<|zaa 13 [0] X t_kr t_kr X X X (fun hD wD τD hL hS hO _ _ => X)<|zaa 14 [0, 1] X t_kr t_kr X X X (fun hD wD τD hL hS hO _ _ _ _ => X)<|zaa 15 [2] X t_kr t_kr X X X (fun hD wD τD hL hS hO _ _ => X)<|zaa 16 [0, 3] X t_kr t_kr X X X (fun hD wD τD hL hS hO _ _ _ _ => X)<|zaa 17 [2, 0, 4] X t_kr t_kr X X X (fun hD wD τD hL hS hO _ _ _ _ _ _ => X)<|zaa 18 [0, 5] X t_kr t_kr X X X (fun hD wD τD hL hS hO _ _ _ _ => X)<|zaa 19 [0, 6] X t_kr t_kr X X X (fun hD wD τD hL hS hO _ _ _ _ => X)<|zaa 20 [7] X t_kr t_kr X X X (fun hD wD τD hL hS hO _ _ => X)<|zaa 21 [0, 8] X t_kr t_kr X X X (fun hD wD τD hL hS hO _ _ _ _ => X)<|zaa 22 [2, 0, 9] X t_kr t_kr X X X (fun hD wD τD hL hS hO _ _ _ _ _ _ => X)<|zaa 23 [0, 10] X t_kr t_kr X X X (fun hD wD τD hL hS hO _ _ _ _ => X)<|zR 24 [11, 0, 14] X t_kr t_kr X X X X (fun hD wD τD hL hS hO _ _ _ _ _ _ => X)<|zp 25 [15, 0] X t_kr t_kr X X (fun hD wD τD hL hS hO _ _ _ _ => (r_pickF (v := (.bool _)) X X))<|zp 26 [25, 24, 23, 22, 21, 20, 19, 18, 17, 16, 15, 14, 13, 12, 11, 10, 9, 8, 7, 6, 5, 4, 3, 2, 1, 0] X t_kr t_kr X X (fun hD wD τD hL hS hO _ _ _ _ _ _ _ _ _ _ _ _ _ _ _ _ _ _ _ _ _ _ _ _ _ _ _ _ _ _ _ _ _ _ _ _ _ _ _ _ _ _ _ _ _ _ _ _ _ _ _ _ => (r_asB X))<|Drw.nil X X X X X X ⟨t_kr, X, t_kr, X, t_kr, X, X, t_kr, cx_nil⟩ ?_
      intro hE258 w259 _ le260 st261 _ _ _ _ _ _ _ _ _ _ _ _ _ _ _ _ _ _ _ _ _ _ _ _ _ _ _ _ _ _ _ _ _ _ _ _ _ _ _ _ _ _ _ _ _ _ _ _ _ _ _ _ _ _
      refine AllDeps.fin X<|U<|zj<|W.sr<|v_field_addr X Tryz.underlying82 X Tryz.sizeOf80 X X<|v_load_cells1 (j := 3) st261.sub (hc36.up (le41.trans le260)) X X X Tryz.isAgg80 X<|v_len (f27.up ((le34.trans le41).trans le260)) X Tryz.underlying80 X<|v_mvI X X<|Z<|zt ?_
      refine zJ [8, 9, 10, 77, 78, 79, 80, 81, 82, 83, 84, 85, 86, 87, 88, 89, 90, 91, 92, 93, 94, 95, 96, 97, 98, 99, 100, 101, 102] (G := Nat × Heap) (fun ⟨k, h263⟩ => [(8, .bool (questK p i q k)), (77, .int .i64 (k : Int))]) (fun ⟨k, h263⟩ w' => Le hE258 h263 ∧ St h w h263 w' [[]] ∧ (k ≤ q.heads.length)) (fun ⟨k, h263⟩ => q.heads.length - k) ⟨0, hE258⟩ ⟨(zf (by rw [questK_zero]; first | exact q_init0 %g3 g14 g44 | exact q_init1 %g3 g14 g44 hq1 | exact q_init2 g44 | exact q_init3 g44)), rfl, trivial⟩ ⟨Le.refl _, st261, zO⟩ ?_
      rintro ⟨k, h263⟩ _ w266 ⟨le264, st265, hk⟩
      refine W.sr<|v_lss X X X<|Z<|zj ?_
      refine zk rfl (fun c267 => ?_) (fun c267 => ?_)
      ·
       replace c267 := of_decide_eq_true c267
       refine zq<|U<|zj<|zt<|W.sr<|v_mvI X X ?_
       have hhd : ∃ y_, (q.heads)[k]? = some y_ := ⟨_, List.getElem?_eq_getElem (by omega)⟩
       obtain ⟨hd, hhd⟩ := hhd
       obtain ⟨b268, o269, _, he271, hc270, hr_hd⟩ := Sl.elem (f27.up (((le34.trans le41).trans le260).trans le264)) hhd
       obtain ⟨rfl, ls272, lu273⟩ := hr_hd
       simp only [big] at ls272
       refine v_index_el he271 X X (hk := X) (hu := Tryz.underlying80) (hz := Tryz.sizeOf75) X<|v_load_call st265.sub hc270 X Tryz.isAgg75 Tryz.sizeOf75 X X<|zI st265 Tryz.zeroValue75 X X ?_
       intro b274 w275 st276
       refine v_asI X X<|zC st276 (k := 1) X X X (zn X (zn X zX)) Tryz.sizeOf75 X X X ?_
       intro w277 st278
       obtain ⟨h279, le280, hb281, st283⟩ := st278.freeze (k := 1) rfl
       have hc282 := Cells.of hb281
       refine Z<|zT Tryz.mixed t_kr (Cls h279 _) (Cls.drew st283)<|u_mvB X X<|u_mvB X X ?_
       refine zS (d := 83) rfl (fun g284 => ?_) (fun g284 => ?_)
       ·
        refine O X X (d := 83) X<|zg X X (fun _ hC => (zK hC.sub hc282 X Tryz.isAgg75 Tryz.sizeOf75 X))<|O X X (d := 83) X<|zW X X (fun _ => zP X Tryz.call66 X) (fun _ hC => Rets.quiet hC (c_vote_head hC.sub (hd := hd) t_str t_u8))<|u_pickT (v := (.bool _)) X X X<|u_mvB X X ?_
        refine zS (d := 87) rfl (fun g285 => ?_) (fun g285 => ?_)
        ·
         refine O X X (d := 87) X<|u_mvI X X<|O X X (d := 87) X<|u_eql X X X<|O X X (d := 87) X<|u_mvB X X ?_
         refine zS (d := 90) rfl (fun g286 => ?_) (fun g286 => ?_)
         ·
          replace g286 := of_decide_eq_true g286
          refine E X X (d := 90) X X X<|E X X (d := 90) X X X<|E X X (d := 90) X X X<|E X X (d := 90) X X X<|E X X (d := 90) X X X<|E X X (d := 90) X X X<|E X X (d := 90) X X X<|E X X (d := 90) X X X<|E X X (d := 90) X X X<|O X X (d := 87) X<|u_pickT (v := (.bool _)) X X X<|u_pickT (v := (.bool _)) X X X<|u_asB X X<|zG ?_
          rintro w287 ⟨h288, s289⟩
          have st290 := st283.call0 s289
          refine zy<|U<|zo<|v_add X X t_om X<|v_mvI X X<|Z ?_
          refine ⟨⟨k + 1, h288⟩, ⟨?_, rfl, trivial⟩, ?_, ⟨((le264.trans le280).trans s289.le), st290.take 1, ?_⟩, ?_⟩
          ·exact zf (by rw [questK_succ]; first | exact q_step0 g284 g285 g286 hhd | exact q_step1 g284 g285 g286 hhd hh1 | exact q_step2 g286 hhd | exact q_step3 g286)
          ·exact zL
          ·first | omega | (simp; omega)
          ·show q.heads.length - ((k + 1)) < q.heads.length - k
           omega
         ·
          replace g286 := of_decide_eq_false g286
          refine O X X (d := 90) X<|u_field_addr X Tryz.underlying82 X Tryz.sizeOf80 X X<|O X X (d := 90) X<|zg X X (fun _ hC => (zc (j := 3) hC.sub (hc36.up (((le41.trans le260).trans le264).trans le280)) X X X Tryz.isAgg80))<|O X X (d := 90) X<|u_mvI X X<|O X X (d := 90) X<|u_sub X X t_om X<|O X X (d := 90) X ?_
          have hh1 : ∃ y_, (q.heads)[(k - 1)]? = some y_ := ⟨_, List.getElem?_eq_getElem (by omega)⟩
          obtain ⟨h1, hh1⟩ := hh1
          obtain ⟨b291, o292, _, he294, hc293, hr_h1⟩ := Sl.elem (f27.up ((((le34.trans le41).trans le260).trans le264).trans le280)) hh1
          obtain ⟨rfl, ls295, lu296⟩ := hr_h1
          simp only [big] at ls295
          refine zg rfl rfl (fun _ _ => (zD he294 rfl rfl (hk := (show _ = (((k - 1) : Nat) : Int) by omega)) (hu := Tryz.underlying80) (hz := Tryz.sizeOf75))) ?_
          refine O X X (d := 90) X<|zg X X (fun _ hC => (zK hC.sub hc293 X Tryz.isAgg75 Tryz.sizeOf75 X))<|O X X (d := 90) X<|zg X X (fun _ hC => (zK hC.sub hc282 X Tryz.isAgg75 Tryz.sizeOf75 X))<|O X X (d := 90) X<|zW X X (fun _ => zP X Tryz.call67 X) (fun _ hC => Rets.quiet hC (c_vote_heads hC.sub (a := h1) t_str t_u8 (b := hd) t_str t_u8))<|O X X (d := 90) X<|u_lss X X X<|O X X (d := 87) X<|u_pickF (v := (.bool _)) X X X<|u_pickT (v := (.bool _)) X X X<|u_asB X X<|zG ?_
          rintro w297 ⟨h298, s299⟩
          have st300 := st283.call0 s299
          refine zy<|U<|zo<|v_add X X t_om X<|v_mvI X X<|Z ?_
          refine ⟨⟨k + 1, h298⟩, ⟨?_, rfl, trivial⟩, ?_, ⟨((le264.trans le280).trans s299.le), st300.take 1, ?_⟩, ?_⟩
          ·exact zf (by rw [questK_succ]; first | exact q_step0 g284 g285 g286 hhd | exact q_step1 g284 g285 g286 hhd hh1 | exact q_step2 g286 hhd | exact q_step3 g286)
          ·exact zL
          ·first | omega | (simp; omega)
          ·show q.heads.length - ((k + 1)) < q.heads.length - k
           omega
        ·
         refine E X X (d := 87) X X X<|E X X (d := 87) X X X<|E X X (d := 87) X X X<|ze X X (d := 90) X X<|ze X X (d := 90) X X<|ze X X (d := 90) X X<|ze X X (d := 90) X X<|ze X X (d := 90) X X<|ze X X (d := 90) X X<|ze X X (d := 90) X X<|ze X X (d := 90) X X<|ze X X (d := 90) X X<|E X X (d := 87) X X X<|u_pickF (v := (.bool _)) X X X<|u_asB X X<|zG ?_
         rintro w301 ⟨h302, s303⟩
         have st304 := st283.call0 s303
         refine zy<|U<|zo<|v_add X X t_om X<|v_mvI X X<|Z ?_
         refine ⟨⟨k + 1, h302⟩, ⟨?_, rfl, trivial⟩, ?_, ⟨((le264.trans le280).trans s303.le), st304.take 1, ?_⟩, ?_⟩
         ·exact zf (by rw [questK_succ]; first | exact q_step0 g44 g284 g285 hhd | exact q_step1 g44 g284 g285 hhd hh1 | exact q_step2 g285 hhd | exact q_step3 g285)
         ·exact zL
         ·first | omega | (simp; omega)
         ·show q.heads.length - ((k + 1)) < q.heads.length - k
          omega
       ·
        refine E X X (d := 83) X X X<|E X X (d := 83) X X X<|u_pickF (v := (.bool _)) X X X<|u_mvB X X<|E X X (d := 87) X X X<|E X X (d := 87) X X X<|E X X (d := 87) X X X<|ze X X (d := 90) X X<|ze X X (d := 90) X X<|ze X X (d := 90) X X<|ze X X (d := 90) X X<|ze X X (d := 90) X X<|ze X X (d := 90) X X<|ze X X (d := 90) X X<|ze X X (d := 90) X X<|ze X X (d := 90) X X<|E X X (d := 87) X X X<|u_pickF (v := (.bool _)) X X X<|u_asB X X<|zG ?_
        rintro w305 ⟨h306, s307⟩
        have st308 := st283.call0 s307
        refine zy<|U<|zo<|v_add X X t_om X<|v_mvI X X<|Z ?_
        refine ⟨⟨k + 1, h306⟩, ⟨?_, rfl, trivial⟩, ?_, ⟨((le264.trans le280).trans s307.le), st308.take 1, ?_⟩, ?_⟩
        ·exact zf (by rw [questK_succ]; first | exact q_step0 g14 g44 g284 hhd | exact q_step1 g14 g44 g284 hhd hh1 | exact q_step2 g284 hhd | exact q_step3 g284)
        ·exact zL
        ·first | omega | (simp; omega)
        ·show q.heads.length - ((k + 1)) < q.heads.length - k
         omega
      ·
       replace c267 := of_decide_eq_false c267
       refine zM<|zh<|zh<|zF<|U<|W.sr<|v_mvB X X<|v_not X X<|Z ?_
       refine zk rfl (fun c309 => ?_) (fun c309 => ?_)
       ·
        refine W.sr<|v_asI X X<|Z<|zm<|zl<|za<|za<|zl<|za<|zb Tryz.results22 ?_
        refine ⟨h263, _, rfl, st265.done, ?_⟩
        refine zE ?_
        first | (refine (check_not hz ?_).symm; simp [pollB]; omega) | (refine (check_yes hz (poll_true ?_ ?_ hA ?_ hV ?_)).symm <;> omega) | (refine (check_not hz (poll_q (i := i) ?_)).symm; rw [quest_eq hq (show q.heads.length = k by omega)]; simpa using c309) | (refine (check_not hz (ask_no (k := k) hv (by have q_ := c309; rw [Int.toNat_natCast, hv] at q_; first | (obtain rfl : k = 0 := (by omega); simpa [askAt, inAll_one] using q_) | (obtain rfl : k = 1 := (by omega); simpa [askAt, inAll_one] using q_) | (obtain rfl : k = 2 := (by omega); simpa [askAt, inAll_one] using q_) | (obtain rfl : k = 3 := (by omega); simpa [askAt, inAll_one] using q_) | (obtain rfl : k = 4 := (by omega); simpa [askAt, inAll_one] using q_)))).symm)
       ·
        refine zq<|zy<|U<|zo<|v_add X X t_om X<|v_mvI X X<|Z ?_
        refine ⟨⟨i + 1, h263⟩, ⟨rfl, trivial⟩, ?_, ⟨((((le18.trans le34).trans le41).trans le260).trans le264), st265.take 0, ?_, ?_⟩, ?_⟩
        ·exact zL
        ·first | omega | (simp; omega)
        ·exact all_lt_succ hA (by rw [quest_eq hq (show q.heads.length = k by omega)]; simpa using c309)
        ·show p.questions.length - ((i + 1)) < p.questions.length - i
         omega
    ·
     replace c21 := of_decide_eq_false c21
     refine zM<|zh<|zh<|zF<|U<|zj<|W.sr<|v_field_addr X Tryz.underlying32 X Tryz.sizeOf30 X X<|v_load_cells1 (j := 4) st19.sub (hc5.up (le10.trans le18)) X X X Tryz.isAgg30 X<|v_len (p_f4.up ((le4.trans le10).trans le18)) X Tryz.underlying30 X<|v_mvI X X<|Z<|zt ?_
     refine zJ [2, 11, 13, 109, 110, 111, 112, 113, 114, 115, 116, 117, 118, 119, 120, 121, 122, 123] (G := Nat × Heap) (fun ⟨j, h310⟩ => [(109, .int .i64 (j : Int))]) (fun ⟨j, h310⟩ w' => Le h17 h310 ∧ St h w h310 w' [] ∧ (j ≤ p.voters.length) ∧ (∀ i, i < j → voterAt p i = true)) (fun ⟨j, h310⟩ => p.voters.length - j) ⟨0, h17⟩ ⟨rfl, trivial⟩ ⟨Le.refl _, st19, zO, zO⟩ ?_
     rintro ⟨j, h310⟩ _ w313 ⟨le311, st312, hj, hV⟩
     refine W.sr<|v_lss X X X<|Z<|zj ?_
     refine zk rfl (fun c314 => ?_) (fun c314 => ?_)
     ·
      replace c314 := of_decide_eq_true c314
      refine zq<|U<|zj<|zt<|zj ?_
      obtain ⟨v, hv⟩ : ∃ y, (p.voters)[j]? = some y := ⟨_, List.getElem?_eq_getElem (by omega)⟩
      refine zo<|v_mvI X X<|v_asI X X<|Z<|W.sr<|v_load_call st312.sub (K0.up (((le4.trans le10).trans le18).trans le311)) X Tryz.isAgg126 Tryz.sizeOf126 X X<|v_mvI X X<|Z<|zt ?_
      refine zJ [2, 13, 113, 114, 115, 116, 117, 118, 119, 120, 121, 122] (G := Nat × Heap) (fun ⟨k, h315⟩ => [(113, .int .i64 (k : Int))]) (fun ⟨k, h315⟩ w' => Le h310 h315 ∧ St h w h315 w' [] ∧ (k ≤ 5) ∧ (∀ m, m < k → askAt p v j m = true)) (fun ⟨k, h315⟩ => 5 - k) ⟨0, h310⟩ ⟨rfl, trivial⟩ ⟨Le.refl _, st312, zO, zO⟩ ?_
      rintro ⟨k, h315⟩ _ w318 ⟨le316, st317, hk5, hK⟩
      refine W.sr<|v_lss X X X<|Z<|zj ?_
      refine zk rfl (fun c319 => ?_) (fun c319 => ?_)
      ·
       replace c319 := of_decide_eq_true c319
       refine zq<|U<|zj<|zt<|zj ?_
       rcases (show (k : Int) = 0 ∨ (k : Int) = 1 ∨ (k : Int) = 2 ∨ (k : Int) = 3 ∨ (k : Int) = 4 by omega) with hk320 | hk320 | hk320 | hk320 | hk320
       ·
        refine zo ?_
        refine zr rfl rfl (r_index_arrv (us := [.func (.func 244) #[] #[]]) rfl rfl (show _ = ((0 : Nat) : Int) by rw [hk320]; rfl) rfl Tryz.underlying126 Tryz.isAgg125 Tryz.sizeOf125 rfl) ?_
        refine zI st317 Tryz.zeroValue125 X X ?_
        intro b321 w322 st323
        refine zC st323 (k := 0) X X X (zn X zX) Tryz.sizeOf125 X X X ?_
        intro w324 st325
        obtain ⟨h326, le327, hb328, st330⟩ := st325.freeze (k := 0) rfl
        have hc329 := Cells.of hb328
        refine Z<|W.sr<|v_field_addr X Tryz.underlying125 X Tryz.sizeOf58 X X<|v_load_cells1 (j := 0) st330.sub hc329 X X X Tryz.isAgg58 X<|v_load_call st330.sub (hc5.up ((((le10.trans le18).trans le311).trans le316).trans le327)) X Tryz.isAgg32 Tryz.sizeOf32 X X<|v_mvI X X ?_
        refine OpsL.callFV (fs := []) (cs := []) st330 rfl rfl rfl rfl Tryz.call244 rfl (c_vote_asked_1 st330.sub (p := p) (p_f0.up (((((le4.trans le10).trans le18).trans le311).trans le316).trans le327)) (p_f1.up (((((le4.trans le10).trans le18).trans le311).trans le316).trans le327)) (p_f2.up (((((le4.trans le10).trans le18).trans le311).trans le316).trans le327)) (p_f3.up (((((le4.trans le10).trans le18).trans le311).trans le316).trans le327)) (p_f4.up (((((le4.trans le10).trans le18).trans le311).trans le316).trans le327)) _ (by omega)) ?_
        intro r331 w332 h333 le334 st335 q336
        obtain rfl := q336
        refine v_not X X<|Z ?_
        refine zk rfl (fun c337 => ?_) (fun c337 => ?_)
        ·
         refine W.sr<|v_asI X X<|Z<|zm<|zl<|za<|za<|zl<|zl<|za<|za<|zl<|za<|zb Tryz.results22 ?_
         refine ⟨h333, _, rfl, st335.done, ?_⟩
         refine zE ?_
         first | (refine (check_not hz ?_).symm; simp [pollB]; omega) | (refine (check_yes hz (poll_true ?_ ?_ hA ?_ hV ?_)).symm <;> omega) | (refine (check_not hz (poll_q (i := i) ?_)).symm; rw [quest_eq hq (show q.heads.length = k by omega)]; simpa using c337) | (refine (check_not hz (ask_no (k := k) hv (by have q_ := c337; rw [Int.toNat_natCast, hv] at q_; first | (obtain rfl : k = 0 := (by omega); simpa [askAt, inAll_one] using q_) | (obtain rfl : k = 1 := (by omega); simpa [askAt, inAll_one] using q_) | (obtain rfl : k = 2 := (by omega); simpa [askAt, inAll_one] using q_) | (obtain rfl : k = 3 := (by omega); simpa [askAt, inAll_one] using q_) | (obtain rfl : k = 4 := (by omega); simpa [askAt, inAll_one] using q_)))).symm)
        ·
         refine zq<|zy<|U<|zo<|v_add X X t_om X<|v_mvI X X<|Z ?_
         refine ⟨⟨k + 1, h333⟩, ⟨rfl, trivial⟩, ?_, ⟨((le316.trans le327).trans le334), st335.take 0, ?_, ?_⟩, ?_⟩
         ·exact zL
         ·first | omega | (simp; omega)
         ·exact all_lt_succ hK (by have q_ := c337; rw [Int.toNat_natCast, hv] at q_; first | (obtain rfl : k = 0 := (by omega); simpa [askAt, inAll_one] using q_) | (obtain rfl : k = 1 := (by omega); simpa [askAt, inAll_one] using q_) | (obtain rfl : k = 2 := (by omega); simpa [askAt, inAll_one] using q_) | (obtain rfl : k = 3 := (by omega); simpa [askAt, inAll_one] using q_) | (obtain rfl : k = 4 := (by omega); simpa [askAt, inAll_one] using q_))
         ·show 5 - ((k + 1)) < 5 - k
          omega
       ·
        refine zo ?_
        refine zr rfl rfl (r_index_arrv (us := [.func (.func 245) #[] #[]]) rfl rfl (show _ = ((1 : Nat) : Int) by rw [hk320]; rfl) rfl Tryz.underlying126 Tryz.isAgg125 Tryz.sizeOf125 rfl) ?_
        refine zI st317 Tryz.zeroValue125 X X ?_
        intro b338 w339 st340
        refine zC st340 (k := 0) X X X (zn X zX) Tryz.sizeOf125 X X X ?_
        intro w341 st342
        obtain ⟨h343, le344, hb345, st347⟩ := st342.freeze (k := 0) rfl
        have hc346 := Cells.of hb345
        refine Z<|W.sr<|v_field_addr X Tryz.underlying125 X Tryz.sizeOf58 X X<|v_load_cells1 (j := 0) st347.sub hc346 X X X Tryz.isAgg58 X<|v_load_call st347.sub (hc5.up ((((le10.trans le18).trans le311).trans le316).trans le344)) X Tryz.isAgg32 Tryz.sizeOf32 X X<|v_mvI X X ?_
        refine OpsL.callFV (fs := []) (cs := []) st347 rfl rfl rfl rfl Tryz.call245 rfl (c_vote_asked_2 st347.sub (p := p) (p_f0.up (((((le4.trans le10).trans le18).trans le311).trans le316).trans le344)) (p_f1.up (((((le4.trans le10).trans le18).trans le311).trans le316).trans le344)) (p_f2.up (((((le4.trans le10).trans le18).trans le311).trans le316).trans le344)) (p_f3.up (((((le4.trans le10).trans le18).trans le311).trans le316).trans le344)) (p_f4.up (((((le4.trans le10).trans le18).trans le311).trans le316).trans le344)) _ (by omega)) ?_
        intro r348 w349 h350 le351 st352 q353
        obtain rfl := q353
        refine v_not X X<|Z ?_
        refine zk rfl (fun c354 => ?_) (fun c354 => ?_)
        ·
         refine W.sr<|v_asI X X<|Z<|zm<|zl<|za<|za<|zl<|zl<|za<|za<|zl<|za<|zb Tryz.results22 ?_
         refine ⟨h350, _, rfl, st352.done, ?_⟩
         refine zE ?_
         first | (refine (check_not hz ?_).symm; simp [pollB]; omega) | (refine (check_yes hz (poll_true ?_ ?_ hA ?_ hV ?_)).symm <;> omega) | (refine (check_not hz (poll_q (i := i) ?_)).symm; rw [quest_eq hq (show q.heads.length = k by omega)]; simpa using c354) | (refine (check_not hz (ask_no (k := k) hv (by have q_ := c354; rw [Int.toNat_natCast, hv] at q_; first | (obtain rfl : k = 0 := (by omega); simpa [askAt, inAll_one] using q_) | (obtain rfl : k = 1 := (by omega); simpa [askAt, inAll_one] using q_) | (obtain rfl : k = 2 := (by omega); simpa [askAt, inAll_one] using q_) | (obtain rfl : k = 3 := (by omega); simpa [askAt, inAll_one] using q_) | (obtain rfl : k = 4 := (by omega); simpa [askAt, inAll_one] using q_)))).symm)
        ·
         refine zq<|zy<|U<|zo<|v_add X X t_om X<|v_mvI X X<|Z ?_
         refine ⟨⟨k + 1, h350⟩, ⟨rfl, trivial⟩, ?_, ⟨((le316.trans le344).trans le351), st352.take 0, ?_, ?_⟩, ?_⟩
         ·exact zL
         ·first | omega | (simp; omega)
         ·exact all_lt_succ hK (by have q_ := c354; rw [Int.toNat_natCast, hv] at q_; first | (obtain rfl : k = 0 := (by omega); simpa [askAt, inAll_one] using q_) | (obtain rfl : k = 1 := (by omega); simpa [askAt, inAll_one] using q_) | (obtain rfl : k = 2 := (by omega); simpa [askAt, inAll_one] using q_) | (obtain rfl : k = 3 := (by omega); simpa [askAt, inAll_one] using q_) | (obtain rfl : k = 4 := (by omega); simpa [askAt, inAll_one] using q_))
         ·show 5 - ((k + 1)) < 5 - k
          omega
       ·
        refine zo ?_
        refine zr rfl rfl (r_index_arrv (us := [.func (.func 246) #[] #[]]) rfl rfl (show _ = ((2 : Nat) : Int) by rw [hk320]; rfl) rfl Tryz.underlying126 Tryz.isAgg125 Tryz.sizeOf125 rfl) ?_
        refine zI st317 Tryz.zeroValue125 X X ?_
        intro b355 w356 st357
        refine zC st357 (k := 0) X X X (zn X zX) Tryz.sizeOf125 X X X ?_
        intro w358 st359
        obtain ⟨h360, le361, hb362, st364⟩ := st359.freeze (k := 0) rfl
        have hc363 := Cells.of hb362
        refine Z<|W.sr<|v_field_addr X Tryz.underlying125 X Tryz.sizeOf58 X X<|v_load_cells1 (j := 0) st364.sub hc363 X X X Tryz.isAgg58 X<|v_load_call st364.sub (hc5.up ((((le10.trans le18).trans le311).trans le316).trans le361)) X Tryz.isAgg32 Tryz.sizeOf32 X X<|v_mvI X X ?_
        refine OpsL.callFV (fs := []) (cs := []) st364 rfl rfl rfl rfl Tryz.call246 rfl (c_vote_asked_3 st364.sub (p := p) (p_f0.up (((((le4.trans le10).trans le18).trans le311).trans le316).trans le361)) (p_f1.up (((((le4.trans le10).trans le18).trans le311).trans le316).trans le361)) (p_f2.up (((((le4.trans le10).trans le18).trans le311).trans le316).trans le361)) (p_f3.up (((((le4.trans le10).trans le18).trans le311).trans le316).trans le361)) (p_f4.up (((((le4.trans le10).trans le18).trans le311).trans le316).trans le361)) _ (by omega)) ?_
        intro r365 w366 h367 le368 st369 q370
        obtain rfl := q370
        refine v_not X X<|Z ?_
        refine zk rfl (fun c371 => ?_) (fun c371 => ?_)
        ·
         refine W.sr<|v_asI X X<|Z<|zm<|zl<|za<|za<|zl<|zl<|za<|za<|zl<|za<|zb Tryz.results22 ?_
         refine ⟨h367, _, rfl, st369.done, ?_⟩
         refine zE ?_
         first | (refine (check_not hz ?_).symm; simp [pollB]; omega) | (refine (check_yes hz (poll_true ?_ ?_ hA ?_ hV ?_)).symm <;> omega) | (refine (check_not hz (poll_q (i := i) ?_)).symm; rw [quest_eq hq (show q.heads.length = k by omega)]; simpa using c371) | (refine (check_not hz (ask_no (k := k) hv (by have q_ := c371; rw [Int.toNat_natCast, hv] at q_; first | (obtain rfl : k = 0 := (by omega); simpa [askAt, inAll_one] using q_) | (obtain rfl : k = 1 := (by omega); simpa [askAt, inAll_one] using q_) | (obtain rfl : k = 2 := (by omega); simpa [askAt, inAll_one] using q_) | (obtain rfl : k = 3 := (by omega); simpa [askAt, inAll_one] using q_) | (obtain rfl : k = 4 := (by omega); simpa [askAt, inAll_one] using q_)))).symm)
        ·
         refine zq<|zy<|U<|zo<|v_add X X t_om X<|v_mvI X X<|Z ?_
         refine ⟨⟨k + 1, h367⟩, ⟨rfl, trivial⟩, ?_, ⟨((le316.trans le361).trans le368), st369.take 0, ?_, ?_⟩, ?_⟩
         ·exact zL
         ·first | omega | (simp; omega)
         ·exact all_lt_succ hK (by have q_ := c371; rw [Int.toNat_natCast, hv] at q_; first | (obtain rfl : k = 0 := (by omega); simpa [askAt, inAll_one] using q_) | (obtain rfl : k = 1 := (by omega); simpa [askAt, inAll_one] using q_) | (obtain rfl : k = 2 := (by omega); simpa [askAt, inAll_one] using q_) | (obtain rfl : k = 3 := (by omega); simpa [askAt, inAll_one] using q_) | (obtain rfl : k = 4 := (by omega); simpa [askAt, inAll_one] using q_))
         ·show 5 - ((k + 1)) < 5 - k
          omega
       ·
        refine zo ?_
        refine zr rfl rfl (r_index_arrv (us := [.func (.func 247) #[] #[]]) rfl rfl (show _ = ((3 : Nat) : Int) by rw [hk320]; rfl) rfl Tryz.underlying126 Tryz.isAgg125 Tryz.sizeOf125 rfl) ?_
        refine zI st317 Tryz.zeroValue125 X X ?_
        intro b372 w373 st374
        refine zC st374 (k := 0) X X X (zn X zX) Tryz.sizeOf125 X X X ?_
        intro w375 st376
        obtain ⟨h377, le378, hb379, st381⟩ := st376.freeze (k := 0) rfl
        have hc380 := Cells.of hb379
        refine Z<|W.sr<|v_field_addr X Tryz.underlying125 X Tryz.sizeOf58 X X<|v_load_cells1 (j := 0) st381.sub hc380 X X X Tryz.isAgg58 X<|v_load_call st381.sub (hc5.up ((((le10.trans le18).trans le311).trans le316).trans le378)) X Tryz.isAgg32 Tryz.sizeOf32 X X<|v_mvI X X ?_
        refine OpsL.callFV (fs := []) (cs := []) st381 rfl rfl rfl rfl Tryz.call247 rfl (c_vote_asked_4 st381.sub (p := p) (p_f0.up (((((le4.trans le10).trans le18).trans le311).trans le316).trans le378)) (p_f1.up (((((le4.trans le10).trans le18).trans le311).trans le316).trans le378)) (p_f2.up (((((le4.trans le10).trans le18).trans le311).trans le316).trans le378)) (p_f3.up (((((le4.trans le10).trans le18).trans le311).trans le316).trans le378)) (p_f4.up (((((le4.trans le10).trans le18).trans le311).trans le316).trans le378)) _ (by omega) (by intro u hu_; exact asked_len hv (hK 2 (by omega)))) ?_
        intro r382 w383 h384 le385 st386 q387
        obtain rfl := q387
        refine v_not X X<|Z ?_
        refine zk rfl (fun c388 => ?_) (fun c388 => ?_)
        ·
         refine W.sr<|v_asI X X<|Z<|zm<|zl<|za<|za<|zl<|zl<|za<|za<|zl<|za<|zb Tryz.results22 ?_
         refine ⟨h384, _, rfl, st386.done, ?_⟩
         refine zE ?_
         first | (refine (check_not hz ?_).symm; simp [pollB]; omega) | (refine (check_yes hz (poll_true ?_ ?_ hA ?_ hV ?_)).symm <;> omega) | (refine (check_not hz (poll_q (i := i) ?_)).symm; rw [quest_eq hq (show q.heads.length = k by omega)]; simpa using c388) | (refine (check_not hz (ask_no (k := k) hv (by have q_ := c388; rw [Int.toNat_natCast, hv] at q_; first | (obtain rfl : k = 0 := (by omega); simpa [askAt, inAll_one] using q_) | (obtain rfl : k = 1 := (by omega); simpa [askAt, inAll_one] using q_) | (obtain rfl : k = 2 := (by omega); simpa [askAt, inAll_one] using q_) | (obtain rfl : k = 3 := (by omega); simpa [askAt, inAll_one] using q_) | (obtain rfl : k = 4 := (by omega); simpa [askAt, inAll_one] using q_)))).symm)
        ·
         refine zq<|zy<|U<|zo<|v_add X X t_om X<|v_mvI X X<|Z ?_
         refine ⟨⟨k + 1, h384⟩, ⟨rfl, trivial⟩, ?_, ⟨((le316.trans le378).trans le385), st386.take 0, ?_, ?_⟩, ?_⟩
         ·exact zL
         ·first | omega | (simp; omega)
         ·exact all_lt_succ hK (by have q_ := c388; rw [Int.toNat_natCast, hv] at q_; first | (obtain rfl : k = 0 := (by omega); simpa [askAt, inAll_one] using q_) | (obtain rfl : k = 1 := (by omega); simpa [askAt, inAll_one] using q_) | (obtain rfl : k = 2 := (by omega); simpa [askAt, inAll_one] using q_) | (obtain rfl : k = 3 := (by omega); simpa [askAt, inAll_one] using q_) | (obtain rfl : k = 4 := (by omega); simpa [askAt, inAll_one] using q_))
         ·show 5 - ((k + 1)) < 5 - k
          omega
       ·
        refine zo ?_
        refine zr rfl rfl (r_index_arrv (us := [.func (.func 248) #[] #[]]) rfl rfl (show _ = ((4 : Nat) : Int) by rw [hk320]; rfl) rfl Tryz.underlying126 Tryz.isAgg125 Tryz.sizeOf125 rfl) ?_
        refine zI st317 Tryz.zeroValue125 X X ?_
        intro b389 w390 st391
        refine zC st391 (k := 0) X X X (zn X zX) Tryz.sizeOf125 X X X ?_
        intro w392 st393
        obtain ⟨h394, le395, hb396, st398⟩ := st393.freeze (k := 0) rfl
        have hc397 := Cells.of hb396
        refine Z<|W.sr<|v_field_addr X Tryz.underlying125 X Tryz.sizeOf58 X X<|v_load_cells1 (j := 0) st398.sub hc397 X X X Tryz.isAgg58 X<|v_load_call st398.sub (hc5.up ((((le10.trans le18).trans le311).trans le316).trans le395)) X Tryz.isAgg32 Tryz.sizeOf32 X X<|v_mvI X X ?_
        refine OpsL.callFV (fs := []) (cs := []) st398 rfl rfl rfl rfl Tryz.call248 rfl (c_vote_asked_5 st398.sub (p := p) (p_f0.up (((((le4.trans le10).trans le18).trans le311).trans le316).trans le395)) (p_f1.up (((((le4.trans le10).trans le18).trans le311).trans le316).trans le395)) (p_f2.up (((((le4.trans le10).trans le18).trans le311).trans le316).trans le395)) (p_f3.up (((((le4.trans le10).trans le18).trans le311).trans le316).trans le395)) (p_f4.up (((((le4.trans le10).trans le18).trans le311).trans le316).trans le395)) _ (by omega)) ?_
        intro r399 w400 h401 le402 st403 q404
        obtain rfl := q404
        refine v_not X X<|Z ?_
        refine zk rfl (fun c405 => ?_) (fun c405 => ?_)
        ·
         refine W.sr<|v_asI X X<|Z<|zm<|zl<|za<|za<|zl<|zl<|za<|za<|zl<|za<|zb Tryz.results22 ?_
         refine ⟨h401, _, rfl, st403.done, ?_⟩
         refine zE ?_
         first | (refine (check_not hz ?_).symm; simp [pollB]; omega) | (refine (check_yes hz (poll_true ?_ ?_ hA ?_ hV ?_)).symm <;> omega) | (refine (check_not hz (poll_q (i := i) ?_)).symm; rw [quest_eq hq (show q.heads.length = k by omega)]; simpa using c405) | (refine (check_not hz (ask_no (k := k) hv (by have q_ := c405; rw [Int.toNat_natCast, hv] at q_; first | (obtain rfl : k = 0 := (by omega); simpa [askAt, inAll_one] using q_) | (obtain rfl : k = 1 := (by omega); simpa [askAt, inAll_one] using q_) | (obtain rfl : k = 2 := (by omega); simpa [askAt, inAll_one] using q_) | (obtain rfl : k = 3 := (by omega); simpa [askAt, inAll_one] using q_) | (obtain rfl : k = 4 := (by omega); simpa [askAt, inAll_one] using q_)))).symm)
        ·
         refine zq<|zy<|U<|zo<|v_add X X t_om X<|v_mvI X X<|Z ?_
         refine ⟨⟨k + 1, h401⟩, ⟨rfl, trivial⟩, ?_, ⟨((le316.trans le395).trans le402), st403.take 0, ?_, ?_⟩, ?_⟩
         ·exact zL
         ·first | omega | (simp; omega)
         ·exact all_lt_succ hK (by have q_ := c405; rw [Int.toNat_natCast, hv] at q_; first | (obtain rfl : k = 0 := (by omega); simpa [askAt, inAll_one] using q_) | (obtain rfl : k = 1 := (by omega); simpa [askAt, inAll_one] using q_) | (obtain rfl : k = 2 := (by omega); simpa [askAt, inAll_one] using q_) | (obtain rfl : k = 3 := (by omega); simpa [askAt, inAll_one] using q_) | (obtain rfl : k = 4 := (by omega); simpa [askAt, inAll_one] using q_))
         ·show 5 - ((k + 1)) < 5 - k
          omega
      ·
       replace c319 := of_decide_eq_false c319
       refine zM<|zh<|zh<|zF<|zy<|U<|zo<|v_add X X t_om X<|v_mvI X X<|Z ?_
       refine ⟨⟨j + 1, h315⟩, ⟨rfl, trivial⟩, ?_, ⟨(le311.trans le316), st317, ?_, ?_⟩, ?_⟩
       ·exact zL
       ·first | omega | (simp; omega)
       ·exact all_lt_succ hV (ask_all hv hK (by omega))
       ·show p.voters.length - ((j + 1)) < p.voters.length - j
        omega
     ·
      replace c314 := of_decide_eq_false c314
      refine zM<|zh<|zh<|zF<|U<|W.sr<|v_asI X X<|Z<|zm<|zb Tryz.results22 ?_
      refine ⟨h310, _, rfl, st312.done, ?_⟩
      refine zE ?_
      first | (refine (check_not hz ?_).symm; simp [pollB]; omega) | (refine (check_yes hz (poll_true ?_ ?_ hA ?_ hV ?_)).symm <;> omega) | (refine (check_not hz (poll_q (i := i) ?_)).symm; rw [quest_eq hq (show q.heads.length = k by omega)]; simpa using c314) | (refine (check_not hz (ask_no (k := k) hv (by have q_ := c314; rw [Int.toNat_natCast, hv] at q_; first | (obtain rfl : k = 0 := (by omega); simpa [askAt, inAll_one] using q_) | (obtain rfl : k = 1 := (by omega); simpa [askAt, inAll_one] using q_) | (obtain rfl : k = 2 := (by omega); simpa [askAt, inAll_one] using q_) | (obtain rfl : k = 3 := (by omega); simpa [askAt, inAll_one] using q_) | (obtain rfl : k = 4 := (by omega); simpa [askAt, inAll_one] using q_)))).symm)
end Go.Pk

namespace Go.Pk
open Go Go.RowKit Go.Proofs
set_option maxRecDepth 4000 in
theorem c_slices_Clone_Lint_int {h : Heap} {w : World} (hs : Sub h w) {s_v : Value} {s : (List Int)} (s_f : Sl LInt h s_v s) (hl : s.length * 8 ≤ 140737488355328) : Calls Tryz.prog 93 #[s_v] w (fun e_ w' => ∃ h' res_ o_, e_ = .returned res_ ∧ Le h h' ∧ St h w h' w' [o_] ∧ OSl LInt 3 h' res_ (s) o_) := by
 refine zA (n := 8) (args := [s_v]) Tryz.func93 X X X ?_
 have st0 : St h w h w [] := St.start hs
 have s_f_b := s_f.le
 refine W.sr<|v_asL X X<|Z<|zj<|W.sr<|v_move (v := s_v) X X ?_
 obtain ⟨nb1, hn2, hn2_r⟩ := Sl.nilb (P := Tryz.prog) s_f
 refine zr X X (hn2_r Tryz.underlying42 X X)<|Z ?_
 refine zk rfl (fun c3 => ?_) (fun c3 => ?_)
 ·
  refine W.sr<|v_asL X X<|Z<|zm<|za<|zb Tryz.results93 ?_
  have st4 := st0.snoc
  have f5 := OSl.nil LInt 3 h
  refine ⟨h, _, _, rfl, Le.refl _, st4, OSl.to f5 ?_⟩
  simp_all
 ·
  refine zq<|U<|W.sr<|OpsL.sliceE (L := LInt) st0 X ⟨_, Tryz.sizeOf3⟩ Tryz.underlying42 ?_
  intro v6 o7 w8 f9 st10
  refine v_move (v := s_v) X X ?_
  refine zZ (k := 0) (nb := 8) st10 f9 rfl s_f rfl rfl rfl Tryz.underlying42 Tryz.info3 rfl rfl rfl (by decide) rfl t_om t_om ?_
  intro v11 o12 w13 _ e14 f15 st16
  subst e14
  refine v_assign (v := v11) X X<|Z<|zm<|zb Tryz.results93 ?_
  refine ⟨h, _, _, rfl, Le.refl _, st16, OSl.to f15 ?_⟩
  simp
set_option maxRecDepth 4000 in
set_option maxHeartbeats 4000000 in
theorem c_vote_count_truths_1_1 : ∀ (n_ : Nat) {h0 h : Heap} {w0 w : World} {rest : Own} {now_v : Value} {now : (List Int)} (now_f : Sl LInt h now_v now) {left_v : Value} {left : (List Int)} (left_f : Sl LInt h left_v left) {p_b : Nat} {p : Poll} {p_v0 : Value} (p_f0 : Sl LChapter h p_v0 p.text.chapters) {p_v1 : Value} (p_f1 : Sl LRule h p_v1 p.lexicon.rules) {p_v2 : Value} (p_f2 : Sl LDecision h p_v2 p.lexicon.decisions) {p_v3 : Value} (p_f3 : Sl LQuestion h p_v3 p.questions) {p_v4 : Value} (p_f4 : Sl LVoter h p_v4 p.voters) (p_c : Cells h p_b 0 [p_v0, p_v1, p_v2, p_v3, p_v4]) {l : Nat} {y_b : Nat} (y_c : Cells h y_b 0 [.func (.yield l) #[] #[]]) {m_b : Nat} (m_c : Cells h m_b 0 [(.func (.func 92) #[] #[.pointer (some ⟨p_b, 0, none⟩), .pointer (some ⟨y_b, 0, none⟩), .pointer (some ⟨m_b, 0, none⟩)])]) {J Jx : List (List Int) → Heap → Own → Prop} (hJm : ∀ xs h1 h2 o, J xs h1 o → Le h1 h2 → J xs h2 o) (hJxm : ∀ xs h1 h2 o, Jx xs h1 o → Le h1 h2 → Jx xs h2 o) {done : List (List Int)} (hJ0 : J done h rest) (hY : ∀ pre x h1 w1 B rest us, Le h h1 → J pre h1 rest → St h0 w0 h1 w1 (B ++ rest) → (∃ u_, us = [u_] ∧ Sl LInt h1 u_ x ∧ (truthsL p)[pre.length]? = some x) → Yields Tryz.prog l us.toArray w1 fun v w2 => ∃ h2 rest2, Le h1 h2 ∧ St h0 w0 h2 w2 (B ++ rest2) ∧ ((v = .bool true ∧ J (pre ++ [x]) h2 rest2) ∨ (v = .bool false ∧ Jx (pre ++ [x]) h2 rest2))) (hp : pollB p = true) (hn : NowOk p now) (hw : OnWay p done now) (hm : p.questions.length ≤ now.length + n_) (hl : left = leftL p now) (st0 : St h0 w0 h w rest), Calls Tryz.prog 92 #[now_v, left_v, .pointer (some ⟨p_b, 0, none⟩), .pointer (some ⟨y_b, 0, none⟩), .pointer (some ⟨m_b, 0, none⟩)] w (fun e_ w' => ∃ h' rest' b_, e_ = .returned (.bool b_) ∧ Le h h' ∧ St h0 w0 h' w' rest' ∧ (b_ = true → J (done ++ truthsFrom p now) h' rest') ∧ (b_ = false → ∃ pre, Jx pre h' rest')) := by
 intro n_
 induction n_ using Nat.strongRecOn with
 | _ n_ ih_ =>
 intro h0 h w0 w rest now_v now now_f left_v left left_f p_b p p_v0 p_f0 p_v1 p_f1 p_v2 p_f2 p_v3 p_f3 p_v4 p_f4 p_c l y_b y_c m_b m_c J Jx hJm hJxm done hJ0 hY hp hn hw hm hl st0
 refine zA (n := 83) (args := [now_v, left_v, .pointer (some ⟨p_b, 0, none⟩), .pointer (some ⟨y_b, 0, none⟩), .pointer (some ⟨m_b, 0, none⟩)]) Tryz.func92 X X X ?_
 have now_f_b := now_f.le
 have left_f_b := left_f.le
 have p_f0_b := p_f0.le
 have p_f1_b := p_f1.le
 have p_f2_b := p_f2.le
 have p_f3_b := p_f3.le
 have p_f4_b := p_f4.le
 have st1 := St.start st0.sub
 have hnl := hn.len
 refine W.sr<|v_asB X X<|Z<|W.scope<|W.sr<|v_move (v := now_v) X X<|v_len now_f X Tryz.underlying42 X<|v_asI X X<|Z<|zj<|W.sr<|v_mvI X X<|v_field_addr X Tryz.underlying112 X Tryz.sizeOf32 X X<|v_field_addr X Tryz.underlying32 X Tryz.sizeOf29 X X<|v_load_cells1 (j := 3) st1.sub p_c X X X Tryz.isAgg29 X<|v_len p_f3 X Tryz.underlying29 X<|v_eql X X X<|Z ?_
 refine zk rfl (fun c2 => ?_) (fun c2 => ?_)
 ·
  replace c2 := of_decide_eq_true c2
  refine W.sr<|v_load_cells1 (j := 0) st1.sub y_c X X X Tryz.isAgg95 X<|v_move (v := now_v) X X ?_
  have st11 := st0.over st1
  have hlq : now.length = p.questions.length := by omega
  have hone := truths_one hn hlq
  have hJc := hJm _ _ _ _ hJ0 (Le.refl _)
  have hAc : ∃ u_, [now_v] = [u_] ∧ Sl LInt h u_ now ∧ (truthsL p)[done.length]? = some now := ⟨_, rfl, now_f.up (Le.refl _), onway_at hw hone⟩
  refine OpsL.yieldsJ rfl rfl rfl rfl rfl (hY _ _ _ _ [] rest _ (Le.refl _) hJc st11 hAc) ?_
  intro yb3 w4 h5 rest6 le7 st8 hj9 hx10
  refine v_asB X X<|Z<|zm<|za<|NoGo.ret<|zb Tryz.results92 ?_
  exact ⟨_, _, _, rfl, le7, st8, fun e_ => by rw [hone]; exact hj9 e_, fun e_ => ⟨_, hx10 e_⟩⟩
 ·
  replace c2 := of_decide_eq_false c2
  refine zq<|U<|zj<|W.label<|U<|zj<|W.sr<|v_field_addr X Tryz.underlying112 X Tryz.sizeOf32 X X<|v_field_addr X Tryz.underlying32 X Tryz.sizeOf29 X X<|v_load_cells1 (j := 3) st1.sub p_c X X X Tryz.isAgg29 X<|v_mvI X X ?_
  have hq : ∃ y_, (p.questions)[now.length]? = some y_ := ⟨_, List.getElem?_eq_getElem (by omega)⟩
  obtain ⟨q, hq⟩ := hq
  obtain ⟨b12, o13, _, he15, hc14, hr_q⟩ := Sl.elem p_f3 hq
  obtain ⟨v16, rfl, f17⟩ := hr_q
  have f17_b := f17.le
  refine zr rfl rfl (zD he15 rfl rfl (hk := (show _ = ((now.length : Nat) : Int) by rfl)) (hu := Tryz.underlying29) (hz := Tryz.sizeOf82)) ?_
  refine v_field_addr X Tryz.underlying82 X Tryz.sizeOf80 X X<|v_load_cells1 (j := 3) st1.sub hc14 X X X Tryz.isAgg80 X<|v_len f17 X Tryz.underlying80 X<|v_mvI X X<|Z<|zt ?_
  have st18 := st0.over st1
  refine zJ [7, 9, 10, 11, 12, 32, 33, 34, 35, 36, 37, 38, 39, 40, 41, 42, 43, 44, 45, 46, 47, 48, 49, 50, 51, 52, 53, 54, 55, 56, 57, 58, 59, 60, 61, 62, 63, 64, 65, 66, 67, 68, 69, 70, 71, 72, 73, 74, 75, 76, 77, 78, 79, 80, 81, 82] (G := Nat × Own × Heap) (fun ⟨hh, rest, h19⟩ => [(32, .int .i64 (hh : Int))]) (fun ⟨hh, rest, h19⟩ w' => Le h h19 ∧ St h0 w0 h19 w' (rest) ∧ (hh ≤ q.heads.length) ∧ (J (done ++ truthsK p now hh) h19 rest)) (fun ⟨hh, rest, h19⟩ => q.heads.length - hh) ⟨0, rest, h⟩ ⟨rfl, trivial⟩ ⟨Le.refl _, st18, zO, (by simpa [truthsK] using hJm _ _ _ _ hJ0 (Le.refl _))⟩ ?_
  rintro ⟨hh, rest, h19⟩ _ w22 ⟨le20, st21, hhl, hJ⟩
  have st23 := St.start st21.sub
  refine W.sr<|v_lss X X X<|Z<|zj ?_
  refine zk rfl (fun c24 => ?_) (fun c24 => ?_)
  ·
   replace c24 := of_decide_eq_true c24
   refine zq<|U<|zj<|zt<|W.sr<|v_mvI X X<|v_asI X X<|Z<|W.sr<|v_move (v := left_v) X X ?_
   refine zV rfl rfl (zP rfl Tryz.call93 rfl) ((c_slices_Clone_Lint_int st23.sub (left_f.up le20) (by have q_ := poll_len hp; rw [hl, leftL_len]; omega)).mono ?_)
   rintro _ w26 ⟨h27, v25, o30, rfl, le28, s32, f31⟩
   refine ⟨_, rfl, ?_⟩
   have st29 := st23.call s32
   refine v_assign (v := v25) X X<|Z<|zj<|W.sr<|v_field_addr X Tryz.underlying112 X Tryz.sizeOf32 X X<|v_field_addr X Tryz.underlying32 X Tryz.sizeOf30 X X<|v_load_cells1 (j := 4) st29.sub (p_c.up (le20.trans le28)) X X X Tryz.isAgg30 X<|v_len (p_f4.up (le20.trans le28)) X Tryz.underlying30 X<|v_mvI X X<|Z<|zt ?_
   refine zJ [11, 12, 41, 42, 43, 44, 45, 46, 47, 48, 49, 50, 51, 52, 53, 54, 55, 56, 57, 58, 59, 60, 61, 62, 63, 64, 65, 66, 67, 68, 69, 70, 71, 72] (G := Nat × List (Nat × Obj) × Heap) (fun ⟨i, o_10, h33⟩ => [(41, .int .i64 (i : Int))]) (fun ⟨i, o_10, h33⟩ w' => Le h27 h33 ∧ St h19 w22 h33 w' [o_10] ∧ (OSl LInt 3 h33 v25 ((leftM p now (hh : Int) i)) o_10) ∧ (i ≤ p.voters.length) ∧ (∀ v ∈ p.voters.take i, (wrongN v (now ++ [(hh : Int)]) : Int) ≤ v.wrong)) (fun ⟨i, o_10, h33⟩ => p.voters.length - i) ⟨0, o30, h27⟩ ⟨rfl, trivial⟩ ⟨Le.refl _, st29, (OSl.to f31 (by rw [leftM_zero]; exact hl)), zO, (by intro v_ hv_; simp at hv_)⟩ ?_
   rintro ⟨i, o_10, h33⟩ _ w36 ⟨le34, st35, hO_10, hi, hwr⟩
   refine W.sr<|v_lss X X X<|Z<|zj ?_
   refine zk rfl (fun c37 => ?_) (fun c37 => ?_)
   ·
    replace c37 := of_decide_eq_true c37
    refine zq<|U<|zj<|zt<|W.sr<|v_mvI X X ?_
    have hv : ∃ y_, (p.voters)[i]? = some y_ := ⟨_, List.getElem?_eq_getElem (by omega)⟩
    obtain ⟨v, hv⟩ := hv
    obtain ⟨b38, o39, _, he41, hc40, hr_v⟩ := Sl.elem (p_f4.up ((le20.trans le28).trans le34)) hv
    obtain ⟨v42, rfl, f43⟩ := hr_v
    have f43_b := f43.le
    refine v_index_el he41 X X (hk := X) (hu := Tryz.underlying30) (hz := Tryz.sizeOf84) X<|v_load_call st35.sub hc40 X Tryz.isAgg84 Tryz.sizeOf84 X X<|zI st35 Tryz.zeroValue84 X X ?_
    intro b44 w45 st46
    refine v_asI X X<|zC st46 (k := 1) X X X (zn X (zn X (zn f43.one zX))) Tryz.sizeOf84 X X X ?_
    intro w47 st48
    obtain ⟨h49, le50, hb51, st53⟩ := st48.freeze (k := 1) rfl
    have hc52 := Cells.of hb51
    refine Z<|zj<|W.sr<|v_field_addr X Tryz.underlying84 X Tryz.sizeOf42 X X<|v_load_cells1 (j := 2) st53.sub hc52 X X X Tryz.isAgg42 X<|v_mvI X X ?_
    have ha : ∃ y_, (v.votes)[now.length]? = some y_ := ⟨_, List.getElem?_eq_getElem (by have q_ := (poll_voter hp (List.mem_of_getElem? hv)).2.2.1; omega)⟩
    obtain ⟨a, ha⟩ := ha
    obtain ⟨b54, o55, _, he57, hc56, hr_a⟩ := Sl.elem (f43.up le50) ha
    obtain rfl := hr_a
    refine zr rfl rfl (zD he57 rfl rfl (hk := (show _ = ((now.length : Nat) : Int) by rfl)) (hu := Tryz.underlying42) (hz := Tryz.sizeOf3)) ?_
    refine v_load_cells1 (j := 0) st53.sub hc56 X X X Tryz.isAgg3 X<|v_lss X X X<|v_mvB X X ?_
    refine zw (d := 52) rfl (fun g58 => ?_) (fun g58 => ?_)
    ·
     replace g58 := of_decide_eq_true g58
     refine Y X X X X X<|Y X X X X X<|Y X X X X X<|Y X X X X X<|Y X X X X X<|Y X X X X X<|Y X X X X X<|v_pickT (v := (.bool _)) X X X<|Z ?_
     refine zk rfl (fun c59 => ?_) (fun c59 => ?_)
     ·
      refine zM<|zh<|zF<|U<|zo<|v_add X X t_om X<|v_mvI X X<|Z ?_
      refine ⟨⟨i + 1, o_10, h49⟩, ⟨rfl, trivial⟩, ?_, ⟨(le34.trans le50), st53.take 1, ?_, ?_, ?_⟩, ?_⟩
      ·exact zL
      ·refine OSl.to (hO_10.up le50) ?_
       exact (leftM_skip hv ha (.inl (by assumption))).symm
      ·first | omega | (simp; omega)
      ·exact all_snoc hwr hv (left_skip hn (List.mem_of_getElem? hv) ha (.inl (by assumption)))
      ·show p.voters.length - ((i + 1)) < p.voters.length - i
       omega
     ·
      cases c59
    ·
     replace g58 := of_decide_eq_false g58
     refine M X X (d := 52) X<|v_field_addr X Tryz.underlying84 X Tryz.sizeOf42 X X<|M X X (d := 52) X<|v_load_cells1 (j := 2) st53.sub hc52 X X X Tryz.isAgg42 X<|M X X (d := 52) X<|v_mvI X X<|M X X (d := 52) X ?_
     refine zr rfl rfl (zD he57 rfl rfl (hk := (show _ = ((now.length : Nat) : Int) by rfl)) (hu := Tryz.underlying42) (hz := Tryz.sizeOf3)) ?_
     refine M X X (d := 52) X<|v_load_cells1 (j := 0) st53.sub hc56 X X X Tryz.isAgg3 X<|M X X (d := 52) X<|v_mvI X X<|M X X (d := 52) X<|v_eql X X X<|v_pickF (v := (.bool _)) X X X<|Z ?_
     refine zk rfl (fun c60 => ?_) (fun c60 => ?_)
     ·
      replace c60 := of_decide_eq_true c60
      refine zM<|zh<|zF<|U<|zo<|v_add X X t_om X<|v_mvI X X<|Z ?_
      refine ⟨⟨i + 1, o_10, h49⟩, ⟨rfl, trivial⟩, ?_, ⟨(le34.trans le50), st53.take 1, ?_, ?_, ?_⟩, ?_⟩
      ·exact zL
      ·refine OSl.to (hO_10.up le50) ?_
       exact (leftM_skip hv ha (.inr (by assumption))).symm
      ·first | omega | (simp; omega)
      ·exact all_snoc hwr hv (left_skip hn (List.mem_of_getElem? hv) ha (.inr (by assumption)))
      ·show p.voters.length - ((i + 1)) < p.voters.length - i
       omega
     ·
      replace c60 := of_decide_eq_false c60
      refine zq<|U<|W.sr<|v_move (v := v25) X X<|v_mvI X X ?_
      have hx : ∃ y_, ((leftM p now (hh : Int) i))[i]? = some y_ := ⟨_, List.getElem?_eq_getElem (by rw [leftM_len]; omega)⟩
      obtain ⟨x, hx⟩ := hx
      obtain ⟨b61, o62, cur63, _, e66, he64, hr_x, hc65⟩ := OSl.elem (hO_10.up le50) hx
      subst e66
      obtain rfl := hr_x
      refine v_index_el he64 X X (hk := X) (hu := Tryz.underlying42) (hz := Tryz.sizeOf3) X<|zr X X (r_load_cur1 (j := 0) (st53.get (k := 0) X) hc65 X X X Tryz.isAgg3) ?_
      refine zr rfl rfl (r_sub rfl rfl (by have q_ := left_bound hp hn (List.mem_of_getElem? hv); have q2_ := left_at hv hx; omega)) ?_
      obtain ⟨b67, o68, cur69, _, e72, he70, hr_x, hc71⟩ := OSl.elem (hO_10.up le50) hx
      obtain ⟨hb73, hc74⟩ : b61 = b67 ∧ cur63 = cur69 := by cases e72; exact ⟨rfl, rfl⟩
      subst hb73
      subst hc74
      obtain rfl := hr_x
      refine v_index_el he70 X X (hk := X) (hu := Tryz.underlying42) (hz := Tryz.sizeOf3) X ?_
      refine OpsL.storeEl1 (k := 0) st53 (hO_10.up le50) rfl (by rw [leftM_len]; omega) he70 rfl rfl (rfl) Tryz.sizeOf3 ?_
      intro o75 w76 _ e77 f78 st79
      subst e77
      refine Z<|W.sr<|v_move (v := v25) X X<|v_mvI X X ?_
      have hz : ∃ y_, (((leftM p now (hh : Int) i).set i (x - 1)))[i]? = some y_ := ⟨_, List.getElem?_eq_getElem (by simp only [List.length_set, leftM_len]; omega)⟩
      obtain ⟨z, hz⟩ := hz
      obtain ⟨b80, o81, cur82, _, e85, he83, hr_z, hc84⟩ := OSl.elem f78 hz
      subst e85
      obtain rfl := hr_z
      refine v_index_el he83 X X (hk := X) (hu := Tryz.underlying42) (hz := Tryz.sizeOf3) X<|zr X X (r_load_cur1 (j := 0) (st79.get (k := 0) X) hc84 X X X Tryz.isAgg3)<|v_lss X X X<|Z ?_
      refine zk rfl (fun c86 => ?_) (fun c86 => ?_)
      ·
       replace c86 := of_decide_eq_true c86
       refine zM<|Blk.miss X<|zh<|zh<|Blk.miss X<|zh<|zF<|U<|zo<|v_add X X t_om X<|v_mvI X X<|Z ?_
       have st87 := st21.over st79
       refine ⟨⟨hh + 1, rest, h49⟩, ⟨rfl, trivial⟩, ?_, ⟨(((le20.trans le28).trans le34).trans le50), st87, ?_, ?_⟩, ?_⟩
       ·exact zL
       ·first | omega | (simp; omega)
       ·rw [truthsK_succ, truthsFrom_none (List.mem_of_getElem? hv) (left_neg ha (by omega) (by first | assumption | omega) (by rw [← left_at hv hx]; exact set_at hz) c86), List.append_nil]; exact hJm _ _ _ _ hJ ((le28.trans le34).trans le50)
       ·show q.heads.length - ((hh + 1)) < q.heads.length - hh
        omega
      ·
       replace c86 := of_decide_eq_false c86
       refine zq<|zy<|U<|zo<|v_add X X t_om X<|v_mvI X X<|Z ?_
       refine ⟨⟨i + 1, [(b80, .cells cur82 3)], h49⟩, ⟨rfl, trivial⟩, ?_, ⟨(le34.trans le50), st79.take 1, ?_, ?_, ?_⟩, ?_⟩
       ·exact zL
       ·refine OSl.to f78 ?_
        rw [left_at hv hx]; exact (leftM_less hv ha (by assumption) (by assumption)).symm
       ·first | omega | (simp; omega)
       ·exact all_snoc hwr hv (left_pos ha (by assumption) (by assumption) (by rw [← left_at hv hx]; exact set_at hz) c86)
       ·show p.voters.length - ((i + 1)) < p.voters.length - i
        omega
   ·
    replace c37 := of_decide_eq_false c37
    refine zM<|zh<|zh<|zF<|U<|zj ?_
    have st88 : St h0 w0 h33 _ (o_10 :: rest) := st21.keep st35
    refine W.regionR (er := ([], [], [], [], 0)) (dsts := [73, 74, 75, 76, 77, 78, 79, 80, 81]) st88 Tryz.mixed<|zp 0 [] X t_kr t_kr X X (fun hD wD τD hL hS hO  => (zc (j := 0) (hL.sub hS) (m_c.up ((le20.trans le28).trans le34)) X X X Tryz.isAgg47))<|zp 1 [] X t_kr t_kr X X (fun hD wD τD hL hS hO  => (r_move (v := now_v) X))<|Drw.ch<|zp 3 [] X t_kr t_kr X X (fun hD wD τD hL hS hO  => (r_mvI X)) ?_
    refine zH 4 (.res (fun h' res_ => Sl LInt h' res_ ([(hh : Int)])) (fun _ _ _ hl f => f.up hl)) [0] rfl t_kr t_kr ?_ ?_
    ·
     intro hD wD τD hL hS hO _ _
     have st89 := St.start hS
     refine zN (L := LInt) (xs := [(hh : Int)]) (cs := [.int .i64 (hh : Int)]) st89 (Enc.cons (L := LInt) (vs := [.int .i64 (hh : Int)]) (x := (hh : Int)) (h := hD) (X) Enc.nil) X X X Tryz.underlying42 Tryz.info3 X X X t_kr ?_
     intro v90 w91 h94 le95 f92 st93
     exact zx ⟨_, _, rfl, st93, _, rfl, f92⟩
    refine Drw.ch<|zp 6 [] X t_kr t_kr X X (fun hD wD τD hL hS hO  => (r_move (v := v25) X))<|Drw.ch<|Drw.ch<|Drw.nil X X X X X X ⟨t_kr, X, t_kr, X, t_kr, X, X, t_kr, (cx_cons X (cx_cons X (cx_cons X (cx_cons X cx_nil))))⟩ ?_
    intro hE97 w98 _ le99 st100 _ _
    refine zV rfl rfl (zP rfl Tryz.call93 rfl) ((c_slices_Clone_Lint_int st100.sub (now_f.up (((le20.trans le28).trans le34).trans le99)) (by have q_ := poll_len hp; omega)).mono ?_)
    rintro _ w102 ⟨h103, v101, o106, rfl, le104, s108, f107⟩
    refine ⟨_, rfl, ?_⟩
    have st105 := st100.call s108
    have st109 : St h0 w0 h103 _ (o_10 :: o106 :: rest) := St.mid (A := [o_10]) st105
    refine zx ⟨_, rfl, _, _, le104, st109, ?_⟩
    intro hE111 w112 _ le113 st114 gv4_0x110 gf4_0x110
    refine zZ (k := 1) (nb := 8) st114 (f107.up le113) rfl gf4_0x110 rfl rfl rfl Tryz.underlying42 Tryz.info3 rfl rfl rfl (by decide) rfl (by first | omega | (simp only [leftM_len, leftL_len, List.length_append, List.length_cons, List.length_nil]; have q_ := poll_len hp; omega)) (by first | omega | (simp only [leftM_len, leftL_len, List.length_append, List.length_cons, List.length_nil]; have q_ := poll_len hp; omega)) ?_
    intro v115 o116 w117 _ e118 f119 st120
    subst e118
    refine zx ⟨_, rfl, _, _, Le.refl _, st120, ?_⟩
    intro hE122 w123 _ le124 st125 _ _ _ _
    obtain ⟨h126, le127, f128, st129⟩ := OSl.freeze (k := 1) st125 (f119.up le124) rfl (by first | omega | (simp only [leftM_len, leftL_len, List.length_append, List.length_cons, List.length_nil]; have q_ := poll_len hp; omega))
    obtain ⟨h130, le131, f132, st133⟩ := OSl.freeze (k := 0) st129 (hO_10.up ((((le99.trans le104).trans le113).trans le124).trans le127)) rfl (by first | omega | (simp only [leftM_len, leftL_len, List.length_append, List.length_cons, List.length_nil]; have q_ := poll_len hp; omega))
    have f134 := Sl.to f132 (show _ = leftL p (now ++ [(hh : Int)]) from leftM_all now _ (by omega))
    have st136 := st133.tl.tl
    refine zV rfl rfl (zab (fs := []) (cs := [.pointer (some ⟨p_b, 0, none⟩), .pointer (some ⟨y_b, 0, none⟩), .pointer (some ⟨m_b, 0, none⟩)]) rfl rfl Tryz.call92 rfl) ((ih_ (n_ - 1) (by omega) (f128.up le131) f134 (p := p) (p_f0.up ((((((((le20.trans le28).trans le34).trans le99).trans le104).trans le113).trans le124).trans le127).trans le131)) (p_f1.up ((((((((le20.trans le28).trans le34).trans le99).trans le104).trans le113).trans le124).trans le127).trans le131)) (p_f2.up ((((((((le20.trans le28).trans le34).trans le99).trans le104).trans le113).trans le124).trans le127).trans le131)) (p_f3.up ((((((((le20.trans le28).trans le34).trans le99).trans le104).trans le113).trans le124).trans le127).trans le131)) (p_f4.up ((((((((le20.trans le28).trans le34).trans le99).trans le104).trans le113).trans le124).trans le127).trans le131)) (p_c.up ((((((((le20.trans le28).trans le34).trans le99).trans le104).trans le113).trans le124).trans le127).trans le131)) (y_c.up ((((((((le20.trans le28).trans le34).trans le99).trans le104).trans le113).trans le124).trans le127).trans le131)) (m_c.up ((((((((le20.trans le28).trans le34).trans le99).trans le104).trans le113).trans le124).trans le127).trans le131)) hJm hJxm (hJm _ _ _ _ hJ (((((((le28.trans le34).trans le99).trans le104).trans le113).trans le124).trans le127).trans le131)) (fun a_ b_ c_ d_ e_ f_ g_ l_ => hY a_ b_ c_ d_ e_ f_ g_ (((((((((le20.trans le28).trans le34).trans le99).trans le104).trans le113).trans le124).trans le127).trans le131).trans l_)) hp (now_snoc hn hq (by omega) (fun v_ hv_ => hwr v_ (by rw [List.take_of_length_le (by omega)]; exact hv_))) (onway_next hw hq (by omega)) (by simp only [List.length_append, List.length_cons, List.length_nil]; omega) rfl st136).mono ?_)
    rintro _ w137 ⟨h138, rest139, b140, rfl, le141, st142, hj143, hx144⟩
    refine ⟨_, rfl, ?_⟩
    refine zx ⟨_, rfl, _, _, ((le127.trans le131).trans le141), st142, ?_⟩
    intro hE146 w147 _ le148 st149 
    refine v_not X X ?_
    refine zx ⟨_, rfl, _, _, Le.refl _, st149, ?_⟩
    intro hE150 w151 _ le152 st153 _ _ _ _ _ _ gv4_0x154 gf4_0x154 _ _
    refine AllDeps.fin X<|U ?_
    refine zk rfl (fun c155 => ?_) (fun c155 => ?_)
    ·
     refine W.sr<|v_asB X X<|Z<|zm<|zl<|za<|za<|zl<|za<|NoGo.ret<|zb Tryz.results92 ?_
     exact ⟨_, _, false, rfl, (((((((((((le20.trans le28).trans le34).trans le99).trans le104).trans le113).trans le124).trans le127).trans le131).trans le141).trans le148).trans le152), st153, fun e_ => (by cases e_), fun _ => (hx144 (by simpa using c155)).elim fun p_ q_ => ⟨p_, hJxm _ _ _ _ q_ (le148.trans le152)⟩⟩
    ·
     refine zq<|zy<|U<|zo<|v_add X X t_om X<|v_mvI X X<|Z ?_
     refine ⟨⟨hh + 1, rest139, hE150⟩, ⟨rfl, trivial⟩, ?_, ⟨(((((((((((le20.trans le28).trans le34).trans le99).trans le104).trans le113).trans le124).trans le127).trans le131).trans le141).trans le148).trans le152), st153, ?_, ?_⟩, ?_⟩
     ·exact zL
     ·first | omega | (simp; omega)
     ·rw [truthsK_succ, ← List.append_assoc]; exact hJm _ _ _ _ (hj143 (by simpa using c155)) (le148.trans le152)
     ·show q.heads.length - ((hh + 1)) < q.heads.length - hh
      omega
  ·
   replace c24 := of_decide_eq_false c24
   refine zM<|zh<|zh<|zF<|U<|W.sr<|v_asB X X<|Z<|zm<|NoGo.ret ?_
   have st156 := st21.over st23
   refine zb Tryz.results92 ?_
   exact ⟨_, _, true, rfl, le20, st156, fun _ => by rw [truthsK_all hq (show q.heads.length = hh by omega)]; exact hJm _ _ _ _ hJ (Le.refl _), fun e_ => (by cases e_)⟩
set_option maxRecDepth 4000 in
theorem c_vote_count_truths_1 {h0 h : Heap} {w0 w : World} {rest : Own} {l : Nat} {p_b : Nat} {p : Poll} {p_v0 : Value} (p_f0 : Sl LChapter h p_v0 p.text.chapters) {p_v1 : Value} (p_f1 : Sl LRule h p_v1 p.lexicon.rules) {p_v2 : Value} (p_f2 : Sl LDecision h p_v2 p.lexicon.decisions) {p_v3 : Value} (p_f3 : Sl LQuestion h p_v3 p.questions) {p_v4 : Value} (p_f4 : Sl LVoter h p_v4 p.voters) (p_c : Cells h p_b 0 [p_v0, p_v1, p_v2, p_v3, p_v4]) {J Jx : List (List Int) → Heap → Own → Prop} (hJm : ∀ xs h1 h2 o, J xs h1 o → Le h1 h2 → J xs h2 o) (hJxm : ∀ xs h1 h2 o, Jx xs h1 o → Le h1 h2 → Jx xs h2 o) (hJ0 : J [] h rest) (hY : ∀ pre x h1 w1 B rest us, Le h h1 → J pre h1 rest → St h0 w0 h1 w1 (B ++ rest) → (∃ u_, us = [u_] ∧ Sl LInt h1 u_ x ∧ (truthsL p)[pre.length]? = some x) → Yields Tryz.prog l us.toArray w1 fun v w2 => ∃ h2 rest2, Le h1 h2 ∧ St h0 w0 h2 w2 (B ++ rest2) ∧ ((v = .bool true ∧ J (pre ++ [x]) h2 rest2) ∨ (v = .bool false ∧ Jx (pre ++ [x]) h2 rest2))) (hp : pollB p = true) (st0 : St h0 w0 h w rest) : Calls Tryz.prog 91 #[.func (.yield l) #[] #[], .pointer (some ⟨p_b, 0, none⟩)] w (fun e_ w' => ∃ h' rest' v_, e_ = .returned v_ ∧ Le h h' ∧ St h0 w0 h' w' rest' ∧ ((∃ xs, xs = truthsL p ∧ J xs h' rest') ∨ (∃ pre, Jx pre h' rest'))) := by
 refine zA (n := 31) (args := [.func (.yield l) #[] #[], .pointer (some ⟨p_b, 0, none⟩)]) Tryz.func91 X X X ?_
 have p_f0_b := p_f0.le
 have p_f1_b := p_f1.le
 have p_f2_b := p_f2.le
 have p_f3_b := p_f3.le
 have p_f4_b := p_f4.le
 have st1 := St.start st0.sub
 have hpl := poll_len hp
 refine W.sr<|zz st1 (v := (.func (.yield l) #[] #[])) (cs := [(.func (.yield l) #[] #[])]) X X X ?_
 intro b2 w3 h4 le5 hc6 st7
 refine Z<|W.sr<|v_field_addr X Tryz.underlying112 X Tryz.sizeOf32 X X<|v_field_addr X Tryz.underlying32 X Tryz.sizeOf30 X X<|v_load_cells1 (j := 4) st7.sub (p_c.up le5) X X X Tryz.isAgg30 X<|v_len (p_f4.up le5) X Tryz.underlying30 X ?_
 refine OpsL.makeInts (m := p.voters.length) st7 rfl Tryz.underlying42 Tryz.info3 rfl rfl rfl rfl (by show 8 * (p.voters.length) ≤ 281474976710656; omega) (by omega) ?_
 intro v8 o9 w10 f11 st12
 refine v_assign (v := v8) X X<|Z<|zj<|W.sr<|v_field_addr X Tryz.underlying112 X Tryz.sizeOf32 X X<|v_field_addr X Tryz.underlying32 X Tryz.sizeOf30 X X<|v_load_cells1 (j := 4) st12.sub (p_c.up le5) X X X Tryz.isAgg30 X<|v_len (p_f4.up le5) X Tryz.underlying30 X<|v_mvI X X<|Z<|zt ?_
 refine zJ [4, 5, 16, 17, 18, 19, 20, 21, 22, 23, 24, 25, 26] (G := Nat × List (Nat × Obj) × Heap) (fun ⟨i, o_3, h13⟩ => [(16, .int .i64 (i : Int))]) (fun ⟨i, o_3, h13⟩ w' => Le h4 h13 ∧ St h w h13 w' [o_3] ∧ (OSl LInt 3 h13 v8 ((startL p i)) o_3) ∧ (i ≤ p.voters.length)) (fun ⟨i, o_3, h13⟩ => p.voters.length - i) ⟨0, o9, h4⟩ ⟨rfl, trivial⟩ ⟨Le.refl _, st12, (OSl.to f11 (by rw [startL_zero])), zO⟩ ?_
 rintro ⟨i, o_3, h13⟩ _ w16 ⟨le14, st15, hO_3, hi⟩
 refine W.sr<|v_lss X X X<|Z<|zj ?_
 refine zk rfl (fun c17 => ?_) (fun c17 => ?_)
 ·
  replace c17 := of_decide_eq_true c17
  refine zq<|U<|zj<|zt<|W.sr<|v_mvI X X ?_
  have hv : ∃ y_, (p.voters)[i]? = some y_ := ⟨_, List.getElem?_eq_getElem (by omega)⟩
  obtain ⟨v, hv⟩ := hv
  obtain ⟨b18, o19, _, he21, hc20, hr_v⟩ := Sl.elem (p_f4.up (le5.trans le14)) hv
  obtain ⟨v22, rfl, f23⟩ := hr_v
  have f23_b := f23.le
  refine v_index_el he21 X X (hk := X) (hu := Tryz.underlying30) (hz := Tryz.sizeOf84) X<|v_load_call st15.sub hc20 X Tryz.isAgg84 Tryz.sizeOf84 X X<|zI st15 Tryz.zeroValue84 X X ?_
  intro b24 w25 st26
  refine v_asI X X<|zC st26 (k := 1) X X X (zn X (zn X (zn f23.one zX))) Tryz.sizeOf84 X X X ?_
  intro w27 st28
  obtain ⟨h29, le30, hb31, st33⟩ := st28.freeze (k := 1) rfl
  have hc32 := Cells.of hb31
  refine Z<|zo<|v_move (v := v8) X X<|v_mvI X X<|v_field_addr X Tryz.underlying84 X Tryz.sizeOf3 X X<|v_load_cells1 (j := 1) st33.sub hc32 X X X Tryz.isAgg3 X ?_
  have hy34 : ∃ y_, ((startL p i))[i]? = some y_ := ⟨_, List.getElem?_eq_getElem (by rw [startL_len (by omega)]; omega)⟩
  obtain ⟨y34, hy34⟩ := hy34
  obtain ⟨b35, o36, cur37, _, e40, he38, hr_y34, hc39⟩ := OSl.elem (hO_3.up le30) hy34
  subst e40
  obtain rfl := hr_y34
  refine v_index_el he38 X X (hk := X) (hu := Tryz.underlying42) (hz := Tryz.sizeOf3) X ?_
  refine OpsL.storeEl1 (k := 0) st33 (hO_3.up le30) rfl (by rw [startL_len (by omega)]; omega) he38 rfl rfl (rfl) Tryz.sizeOf3 ?_
  intro o41 w42 _ e43 f44 st45
  subst e43
  refine zx<|zy<|U<|zo<|v_add X X t_om X<|v_mvI X X<|Z ?_
  refine ⟨⟨i + 1, o41, h29⟩, ⟨rfl, trivial⟩, ?_, ⟨(le14.trans le30), st45.take 1, ?_, ?_⟩, ?_⟩
  ·exact zL
  ·refine OSl.to f44 ?_
   exact startL_set hv
  ·first | omega | (simp; omega)
  ·show p.voters.length - ((i + 1)) < p.voters.length - i
   omega
 ·
  replace c17 := of_decide_eq_false c17
  refine zM<|zh<|zh<|zF<|U<|W.sr<|zI st15 Tryz.zeroValue47 X X ?_
  intro b46 w47 st48
  refine Z<|W.sr<|v_make_func X X X<|OpsL.store1 st48 (k := 1) X X X X Tryz.sizeOf47 X X X ?_
  intro w49 st50
  obtain ⟨h51, le52, hb53, st55⟩ := st50.freeze (k := 1) rfl
  have hc54 := Cells.of hb53
  refine Z<|zo<|v_load_cells1 (j := 0) st55.sub hc54 X X X Tryz.isAgg47 X<|v_move (v := v8) X X ?_
  obtain ⟨h56, le57, f58, st59⟩ := OSl.freeze (k := 0) st55 (hO_3.up le52) rfl (by rw [startL_len (by omega)]; omega)
  have f60 := Sl.to f58 (show _ = leftL p [] from startL_all (by omega))
  have st61 := st0.over st59
  refine zV rfl rfl (zab (fs := []) (cs := [.pointer (some ⟨p_b, 0, none⟩), .pointer (some ⟨b2, 0, none⟩), .pointer (some ⟨b46, 0, none⟩)]) rfl rfl Tryz.call92 rfl) ((c_vote_count_truths_1_1 p.questions.length (Sl.nil _ _) f60 (p := p) (p_f0.up (((le5.trans le14).trans le52).trans le57)) (p_f1.up (((le5.trans le14).trans le52).trans le57)) (p_f2.up (((le5.trans le14).trans le52).trans le57)) (p_f3.up (((le5.trans le14).trans le52).trans le57)) (p_f4.up (((le5.trans le14).trans le52).trans le57)) (p_c.up (((le5.trans le14).trans le52).trans le57)) (hc6.up ((le14.trans le52).trans le57)) (hc54.up le57) hJm hJxm (hJm _ _ _ _ hJ0 (((le5.trans le14).trans le52).trans le57)) (fun a_ b_ c_ d_ e_ f_ g_ l_ => hY a_ b_ c_ d_ e_ f_ g_ ((((le5.trans le14).trans le52).trans le57).trans l_)) hp (now_nil hp) (onway_nil p) (by omega) rfl st61).mono ?_)
  rintro _ w62 ⟨h63, rest64, b65, rfl, le66, st67, hj68, hx69⟩
  refine ⟨_, rfl, ?_⟩
  refine zx<|Post.end0 Tryz.results91 ?_
  refine ⟨_, _, _, rfl, ((((le5.trans le14).trans le52).trans le57).trans le66), st67, ?_⟩
  cases e_ : b65
  ·exact .inr (hx69 e_)
  ·exact .inl ⟨_, rfl, by rw [← truthsFrom_nil]; exact hj68 e_⟩
end Go.Pk
