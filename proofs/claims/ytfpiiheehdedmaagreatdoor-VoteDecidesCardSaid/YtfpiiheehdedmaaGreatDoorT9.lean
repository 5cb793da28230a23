/- A PART OF THE PROOF: contracts of functions, each walked once (much of it printed by a program of the author's own). -/
import Derived.Test.YtfpiiheehdedmaaGreatDoorT8
import Derived.Test.YtfpiiheehdedmaaGreatDoorT2
import Derived.Test.YtfpiiheehdedmaaGreatDoorT3
import Derived.Test.YtfpiiheehdedmaaGreatDoorT7
import Derived.Test.YtfpiiheehdedmaaGreatDoorT5
set_option linter.unusedSimpArgs false
set_option linter.unusedVariables false
set_option maxRecDepth 4000
namespace Go.Pk
open Go Go.RowKit Go.Proofs
theorem c_cmp_isNaN_int {h : Heap} {w : World} (hs : Sub h w) (x : Int) : Calls Tryz.prog 149 #[.int .i64 x] w (Rets h w (fun _ _ res_ => res_ = .bool (false))) := by
 refine zS (n := 6) Tryz.func149 X X X<|have st0:=t_s0 hs;W.sr<|zJ X X<|Y<|W.sr<|zk X X<|zk X X<|zcF X X X<|zJ X X<|Y<|zB<|zc Tryz.results149 ?_
 refine ⟨h, _, rfl, st0.done, ?_⟩
 refine zw ?_
 simp
theorem zeW {h : Heap} {w : World} (hs : Sub h w) (a : Int) (b : Int) : Calls Tryz.prog 106 #[.int .i64 a, .int .i64 b] w (Rets h w (fun _ _ res_ => res_ = .int .i64 (cmpI a b))) := by
 refine zS (n := 20) Tryz.func106 X X X<|have st0:=t_s0 hs;W.sr<|zz X X<|Y<|W.sr<|zk X X<|zn st0 X X X Tryz.call149 X (c_cmp_isNaN_int st0.sub _)<|fun r1 w2 h3 le4 st5 q6=> ?_
 obtain rfl := q6
 refine zJ X X<|Y<|W.sr<|zk X X<|zn st5 X X X Tryz.call149 X (c_cmp_isNaN_int st5.sub _)<|fun r7 w8 h9 le10 st11 q12=> ?_
 obtain rfl := q12
 refine zJ X X<|Y<|zj<|W.sr<|zai X X<|Y ?_
 refine zad rfl (fun c13 => ?_) (fun c13 => ?_)
 ·
  refine zj<|W.sr<|zai X X<|Y ?_
  refine zad rfl (fun c14 => ?_) (fun c14 => ?_)
  ·
   refine W.sr<|zz X X<|Y<|zB<|zd<|zd<|zc zfs ?_
   refine ⟨h9, _, rfl, st11.done, ?_⟩
   refine zar ?_
   all_goals (unfold cmpI; repeat' split)
   all_goals (first | omega | simp_all | rfl)
  refine zC<|O<|W.sr<|zz X X<|Y<|zB<|zd<|zc zfs ?_
  refine ⟨h9, _, rfl, st11.done, ?_⟩
  refine zar ?_
  all_goals (unfold cmpI; repeat' split)
  all_goals (first | omega | simp_all | rfl)
 refine zC<|O<|zj<|W.sr<|zai X X<|Y ?_
 refine zad rfl (fun c15 => ?_) (fun c15 => ?_)
 ·
  refine W.sr<|zz X X<|Y<|zB<|zd<|zc zfs ?_
  refine ⟨h9, _, rfl, st11.done, ?_⟩
  refine zar ?_
  all_goals (unfold cmpI; repeat' split)
  all_goals (first | omega | simp_all | rfl)
 refine zC<|O<|zj<|W.sr<|zk X X<|zk X X<|zaV X X X<|Y ?_
 refine zH rfl (fun c16 => ?_) (fun c16 => ?_)
 ·
  refine W.sr<|zz X X<|Y<|zB<|zd<|zc zfs ?_
  refine ⟨h9, _, rfl, st11.done, ?_⟩
  refine zar ?_
  all_goals (unfold cmpI; repeat' split)
  all_goals (first | omega | simp_all | rfl)
 refine zC<|O<|zj<|W.sr<|zk X X<|zk X X<|zdr X X X<|Y ?_
 refine zH rfl (fun c17 => ?_) (fun c17 => ?_)
 ·
  refine W.sr<|zz X X<|Y<|zB<|zd<|zc zfs ?_
  refine ⟨h9, _, rfl, st11.done, ?_⟩
  refine zar ?_
  all_goals (unfold cmpI; repeat' split)
  all_goals (first | omega | simp_all | rfl)
 refine zC<|O<|W.sr<|zz X X<|Y<|zB<|zc zfs ?_
 refine ⟨h9, _, rfl, st11.done, ?_⟩
 refine zar ?_
 all_goals (unfold cmpI; repeat' split)
 all_goals (first | omega | simp_all | rfl)
theorem zhM {h : Heap} {w : World} (hs : Sub h w) {a_v : Value} {a : (List Int)} (a_f : Sl LInt h a_v a) {b_v : Value} {b : (List Int)} (b_f : Sl LInt h b_v b) : Calls Tryz.prog 66 #[a_v, b_v] w (Rets h w (fun _ _ res_ => res_ = .int .i64 (cmpL a b))) := by
 refine zS (n := 36) Tryz.func66 X X X<|have st0:=t_s0 hs;have a_f_b:=a_f.le;have b_f_b:=b_f.le;W.sr<|zz X X<|Y<|zj<|W.sr<|zaa (v := a_v) X X<|zaJ a_f X zp X<|zk X X<|Y<|zF ?_
 refine zat ([4, 5, 6, 7, 8] ++ t_rg 11 20) (G := Nat × Heap) (fun ⟨k, h1⟩ => [(11, .int .i64 (k : Int))]) (fun ⟨k, h1⟩ w' => Le h h1 ∧ St h w h1 w' [] ∧ (k ≤ a.length) ∧ (k ≤ b.length) ∧ (cmpL a b = cmpL (a.drop k) (b.drop k))) (fun ⟨k, h1⟩ => a.length - k) ⟨0, h⟩ ⟨rfl, trivial⟩ ⟨Le.refl _, st0, zaM, zaM, (by rfl)⟩ ?_
 rintro ⟨k, h1⟩ _ w4 ⟨le2, st3, hk, hkb, he⟩
 refine W.sr<|zaV X X X<|Y<|zj ?_
 refine zH rfl (fun c5 => ?_) (fun c5 => ?_)
 ·
  refine zC<|O<|zj<|zF<|W.sr<|zk X X ?_
  obtain ⟨x, hx⟩ : ∃ y_, (a)[k]? = some y_ := t_ge (by omega)
  obtain ⟨b6, o7, _, he9, hc8, hr_x⟩ := Sl.elem (a_f.up le2) hx
  obtain rfl := hr_x
  refine zV he9 X X (hk := X) (hu := zp) (hz := zr) X<|E (j := 0) st3.sub hc8 X X X zN X<|zz X X<|zz X X<|Y<|zj<|W.sr<|zk X X<|zaa (v := b_v) X X<|zaJ (b_f.up le2) X zp X<|zie X X X<|Y ?_
  refine zH rfl (fun c10 => ?_) (fun c10 => ?_)
  ·
   refine W.sr<|zz X X<|Y<|zB<|zd<|zI<|zd<|zd<|zI<|zd<|zc Tryz.results66 ?_
   refine ⟨h1, _, rfl, st3.done, ?_⟩
   refine zar ?_
   rw [he, cmpL_cons_nil (List.drop_eq_nil_of_le (by omega)) (by intro q; have := List.drop_eq_nil_iff.1 q; omega)]
  refine zC<|O<|W.sr<|zaa (v := b_v) X X<|zk X X ?_
  obtain ⟨y, hy⟩ : ∃ y_, (b)[k]? = some y_ := t_ge (by omega)
  obtain ⟨b11, o12, _, he14, hc13, hr_y⟩ := Sl.elem (b_f.up le2) hy
  obtain rfl := hr_y
  refine zV he14 X X (hk := X) (hu := zp) (hz := zr) X<|E (j := 0) st3.sub hc13 X X X zN X<|zz X X<|Y<|W.sr<|zk X X<|zk X X<|zn st3 X X X Tryz.call106 X (zeW st3.sub _ _)<|fun r15 w16 h17 le18 st19 q20=> ?_
  obtain rfl := q20
  refine zz X X<|Y<|W.sr<|zk X X<|zcF X X X<|Y ?_
  refine zH rfl (fun c21 => ?_) (fun c21 => ?_)
  ·
   refine W.sr<|zk X X<|zz X X<|Y<|zB<|zI<|zd<|zd<|zI<|zd<|zc Tryz.results66 ?_
   refine ⟨h17, _, rfl, st19.done, ?_⟩
   refine zar ?_
   rw [he, cmpL_step hx hy, if_pos (by simpa using c21)]
  refine zC<|zP<|O<|zo<|zaP X X t_om X<|zk X X<|Y ?_
  have l22 := le2.trans le18
  refine ⟨⟨k + 1, h17⟩, ⟨rfl, trivial⟩, ?_, ⟨l22, st19, ?_, ?_, ?_⟩, ?_⟩
  ·exact zav
  ·first | omega | (simp; omega)
  ·have := (List.getElem?_eq_some_iff.1 hy).1; omega
  ·rw [he, cmpL_step hx hy, if_neg (by simpa using c21)]
  show a.length - ((k + 1)) < a.length - k
  omega
 refine zaC<|zh<|zh<|zah<|O<|zj<|W.sr<|zaa (v := a_v) X X<|zaJ (a_f.up le2) X zp X<|zaa (v := b_v) X X<|zaJ (b_f.up le2) X zp X<|zaV X X X<|Y ?_
 refine zH rfl (fun c23 => ?_) (fun c23 => ?_)
 ·
  refine W.sr<|zz X X<|Y<|zB<|zd<|zc Tryz.results66 ?_
  refine ⟨h1, _, rfl, st3.done, ?_⟩
  refine zar ?_
  rw [he, cmpL_nil_cons (List.drop_eq_nil_of_le (by omega)) (by intro q; have := List.drop_eq_nil_iff.1 q; omega)]
 refine zC<|O<|W.sr<|zz X X<|Y<|zB<|zc Tryz.results66 ?_
 refine ⟨h1, _, rfl, st3.done, ?_⟩
 refine zar ?_
 rw [he, List.drop_eq_nil_of_le (by omega), List.drop_eq_nil_of_le (by omega)]; rfl
theorem c_stem_order {h : Heap} {w : World} (hs : Sub h w) {a : Place} {b : Place} : Calls Tryz.prog 227 #[.agg #[.int .i64 a.chapter, .int .i64 a.line, .int .i64 a.word], .agg #[.int .i64 b.chapter, .int .i64 b.line, .int .i64 b.word]] w (Rets h w (fun _ _ res_ => res_ = .int .i64 (ordI a b))) := by
 refine zS (n := 24) Tryz.func227 X X X<|have st0:=t_s0 hs;W.sr<|zG st0 (cs := [.int .i64 (a.chapter), .int .i64 (a.line), .int .i64 (a.word)]) X X X<|fun b1 w2 h3 le4 hc5 st6=>zG st6 (cs := [.int .i64 (b.chapter), .int .i64 (b.line), .int .i64 (b.word)]) X X X<|fun b7 w8 h9 le10 hc11 st12=>zz X X<|Y<|zj<|zbh (er := ([], [], [], [], 0)) (dsts := [7, 8, 9, 10, 11, 12, 13, 14, 15, 16, 17, 18, 19, 20, 5, 6]) st12 Tryz.mixed<|zf 0 [] X t_kr t_kr X X (fun hD wD τD hL hS hO  => (zL X zan X zr X))<|zf 1 [0] X t_kr t_kr X X (fun hD wD τD hL hS hO _ _ => (ze (j := 0) (hL.sub hS) (hc5.up le10) X X X zN))<|zf 2 [] X t_kr t_kr X X (fun hD wD τD hL hS hO  => (zL X zan X zr X))<|zf 3 [0] X t_kr t_kr X X (fun hD wD τD hL hS hO _ _ => (ze (j := 1) (hL.sub hS) (hc5.up le10) X X X zN))<|zf 4 [] X t_kr t_kr X X (fun hD wD τD hL hS hO  => (zL X zan X zr X))<|zf 5 [0] X t_kr t_kr X X (fun hD wD τD hL hS hO _ _ => (ze (j := 2) (hL.sub hS) (hc5.up le10) X X X zN))<|zf 6 [4, 2, 0] X t_kr t_kr X X (fun hD wD τD hL hS hO _ _ _ _ _ _ => (zbW (cs := [.int .i64 (a.chapter), .int .i64 (a.line), .int .i64 (a.word)]) t_kr))<|zf 7 [] X t_kr t_kr X X (fun hD wD τD hL hS hO  => (zL X zan X zr X))<|zf 8 [0] X t_kr t_kr X X (fun hD wD τD hL hS hO _ _ => (ze (j := 0) (hL.sub hS) hc11 X X X zN))<|zf 9 [] X t_kr t_kr X X (fun hD wD τD hL hS hO  => (zL X zan X zr X))<|zf 10 [0] X t_kr t_kr X X (fun hD wD τD hL hS hO _ _ => (ze (j := 1) (hL.sub hS) hc11 X X X zN))<|zf 11 [] X t_kr t_kr X X (fun hD wD τD hL hS hO  => (zL X zan X zr X))<|zf 12 [0] X t_kr t_kr X X (fun hD wD τD hL hS hO _ _ => (ze (j := 2) (hL.sub hS) hc11 X X X zN))<|zf 13 [4, 2, 0] X t_kr t_kr X X (fun hD wD τD hL hS hO _ _ _ _ _ _ => (zbW (cs := [.int .i64 (b.chapter), .int .i64 (b.line), .int .i64 (b.word)]) t_kr))<|zhL Tryz.zeroValue172 X<|zhL Tryz.zeroValue172 X<|zbx ?_
 refine zbx<|zbN X X X X X X ⟨t_kr, X, t_kr, X, t_kr, X, X, t_kr, (zbe X (zbe X zcl))⟩<|fun b13=>fun b14=>fun hE16 w17 _ le18 st19 _ _ _ _ _ _ _ _ _ _ _ _ _ _=>zM st19 (k := 0) X X X (za X (za X (za X zap))) Tryz.sizeOf172 X X X<|fun w20 st21=> ?_
 obtain ⟨h22, le23, hb24, st26⟩ := st21.freeze (k := 0) rfl
 have hc25 := Cells.of hb24
 refine zt ⟨undef, rfl, _, _, le23, st26, ?_⟩
 intro hE28 w29 _ le30 st31 _ _ _ _ _ _ _ _ _ _ _ _ _ _ _ _ _ _ _ _ _ _ _ _ _ _ _ _
 refine zM st31 (k := 1) X X X (za X (za X (za X zap))) Tryz.sizeOf172 X X X<|fun w32 st33=> ?_
 obtain ⟨h34, le35, hb36, st38⟩ := st33.freeze (k := 1) rfl
 have hc37 := Cells.of hb36
 refine zt ⟨undef, rfl, _, _, le35, st38, ?_⟩
 intro hE39 w40 _ le41 st42 _ _ _ _ _ _ _ _ _ _ _ _ _ _ _ _ _ _ _ _ _ _ _ _ _ _ _ _
 refine AllDeps.fin X<|O<|zj<|zbj Tryz.mixed t_kr (Cls hE39 _) (Cls.drew st42) ?_
 have fa45 := Sl.ofCells (L := LInt) (xs := [(a.chapter), (a.line), (a.word)]) hc25 (Enc.cons (L := LInt) (vs := [.int .i64 (a.chapter)]) (x := (a.chapter)) (h := h22) (rfl) (Enc.cons (L := LInt) (vs := [.int .i64 (a.line)]) (x := (a.line)) (h := h22) (rfl) (Enc.cons (L := LInt) (vs := [.int .i64 (a.word)]) (x := (a.word)) (h := h22) (rfl) Enc.nil))) (by simp [big])
 refine zl X X (fun _ _ => (r_slice_arr X Tryz.underlying172 zr)) ?_
 have fa47 := Sl.ofCells (L := LInt) (xs := [(b.chapter), (b.line), (b.word)]) hc37 (Enc.cons (L := LInt) (vs := [.int .i64 (b.chapter)]) (x := (b.chapter)) (h := h34) (rfl) (Enc.cons (L := LInt) (vs := [.int .i64 (b.line)]) (x := (b.line)) (h := h34) (rfl) (Enc.cons (L := LInt) (vs := [.int .i64 (b.word)]) (x := (b.word)) (h := h34) (rfl) Enc.nil))) (by simp [big])
 refine zl X X (fun _ _ => (r_slice_arr X Tryz.underlying172 zr))<|zbU X X (fun _ => zbc X Tryz.call66 X) (fun _ hC => Rets.quiet hC (zhM hC.sub (fa45.up ((le30.trans le35).trans le41)) (fa47.up le41)))<|u_asI X X<|zaN ?_
 rintro w48 ⟨h49, s50⟩
 have st51 := st42.call0 s50
 refine O<|zB<|zc Tryz.results227 ?_
 refine ⟨h49, _, rfl, st51.done, ?_⟩
 refine zar ?_
 rfl
theorem c_stem_first {h : Heap} {w : World} (hs : Sub h w) {a : Decision} (a_l2 : 0 ≤ a.kind ∧ a.kind ≤ 255) (a_l3 : a.form.length ≤ 281474976710656) (a_l7 : a.to.stem.length ≤ 281474976710656) (a_l8 : 0 ≤ a.to.mark ∧ a.to.mark ≤ 255) {b : Decision} (b_l2 : 0 ≤ b.kind ∧ b.kind ≤ 255) (b_l3 : b.form.length ≤ 281474976710656) (b_l7 : b.to.stem.length ≤ 281474976710656) (b_l8 : 0 ≤ b.to.mark ∧ b.to.mark ≤ 255) (ha : 0 ≤ a.number ∧ a.number ≤ 999) (hb : 0 ≤ b.number ∧ b.number ≤ 999) : Calls Tryz.prog 194 #[.agg #[.int .i64 a.number, .int .u8 a.kind, strV a.form, .int .i64 a.at_.chapter, .int .i64 a.at_.line, .int .i64 a.at_.word, strV a.to.stem, .int .u8 a.to.mark, .int .i64 a.of_], .agg #[.int .i64 b.number, .int .u8 b.kind, strV b.form, .int .i64 b.at_.chapter, .int .i64 b.at_.line, .int .i64 b.at_.word, strV b.to.stem, .int .u8 b.to.mark, .int .i64 b.of_]] w (Rets h w (fun _ _ res_ => res_ = .int .i64 (zia a b))) := by
 refine zS (n := 39) Tryz.func194 X X X<|have st0:=t_s0 hs;W.sr<|zG st0 (cs := [.int .i64 (a.number), .int .u8 (a.kind), strV (a.form), .int .i64 (a.at_.chapter), .int .i64 (a.at_.line), .int .i64 (a.at_.word), strV (a.to.stem), .int .u8 (a.to.mark), .int .i64 (a.of_)]) X X X<|fun b1 w2 h3 le4 hc5 st6=>zG st6 (cs := [.int .i64 (b.number), .int .u8 (b.kind), strV (b.form), .int .i64 (b.at_.chapter), .int .i64 (b.at_.line), .int .i64 (b.at_.word), strV (b.to.stem), .int .u8 (b.to.mark), .int .i64 (b.of_)]) X X X<|fun b7 w8 h9 le10 hc11 st12=>zz X X<|Y<|zj<|zF<|W.sr<|U X zi X zbn X X<|E (j := 1) st12.sub (hc5.up le10) X X X zbG X<|U X zi X zbn X X<|E (j := 1) st12.sub hc11 X X X zbG X<|zcF X X X<|zJ X X<|Y ?_
 refine zH rfl (fun c13 => ?_) (fun c13 => ?_)
 ·
  refine W.sr<|U X zi X zbn X X<|E (j := 1) st12.sub (hc5.up le10) X X X zbG X ?_
  refine zq rfl rfl (zhv rfl rfl zcE (IntWalk.i64_in _ (by omega))) ?_
  refine U X zi X zbn X X<|E (j := 1) st12.sub hc11 X X X zbG X ?_
  refine zq rfl rfl (zhv rfl rfl zcE (IntWalk.i64_in _ (by omega))) ?_
  refine zfu X X t_om X<|zz X X<|Y<|zB<|zI<|zd<|zc Tryz.results194 ?_
  refine ⟨h9, _, rfl, st12.done, ?_⟩
  refine zar ?_
  simp_all [zia]
 refine W.sr<|U X zi X zbn X X<|E (j := 1) st12.sub (hc5.up le10) X X X zbG X<|zee X X X<|zai X X ?_
 refine zaB (d := 22) rfl (fun g14 => ?_) (fun g14 => ?_)
 ·
  refine M X X X<|U X zi X zO X X<|M X X X<|zab (j := 3) st12.sub (hc5.up le10) (us := [.int .i64 (a.at_.chapter), .int .i64 (a.at_.line), .int .i64 (a.at_.word)]) X X zaD zO X X X<|M X X X<|U X zi X zO X X<|M X X X<|zab (j := 3) st12.sub hc11 (us := [.int .i64 (b.at_.chapter), .int .i64 (b.at_.line), .int .i64 (b.at_.word)]) X X zaD zO X X X<|M X X X<|zq X X (ziz X X zeb (Tryz.eq_Place a.at_ b.at_))<|zaf (v := (.bool _)) X X X<|zJ X X<|Y ?_
  refine zH rfl (fun c15 => ?_) (fun c15 => ?_)
  ·
   refine W.sr<|U X zi X zO X X<|zab (j := 3) st12.sub (hc5.up le10) (us := [.int .i64 (a.at_.chapter), .int .i64 (a.at_.line), .int .i64 (a.at_.word)]) X X zaD zO X X X<|U X zi X zO X X<|zab (j := 3) st12.sub hc11 (us := [.int .i64 (b.at_.chapter), .int .i64 (b.at_.line), .int .i64 (b.at_.word)]) X X zaD zO X X X<|zn st12 X X X Tryz.call227 X (c_stem_order st12.sub (a := a.at_) (b := b.at_))<|fun r16 w17 h18 le19 st20 q21=> ?_
   obtain rfl := q21
   refine zz X X<|Y<|zB<|zI<|zd<|zc Tryz.results194 ?_
   refine ⟨h18, _, rfl, st20.done, ?_⟩
   refine zar ?_
   simp_all [zia]
  refine zC<|zP<|O<|W.sr<|U X zi X zr X X<|E (j := 0) st12.sub (hc5.up le10) X X X zN X<|U X zi X zr X X<|E (j := 0) st12.sub hc11 X X X zN X<|zfu X X t_om X<|zz X X<|Y<|zB<|zc Tryz.results194 ?_
  refine ⟨h9, _, rfl, st12.done, ?_⟩
  refine zar ?_
  simp_all [zia]
 refine Z X X X X X<|Z X X X X X<|Z X X X X X<|Z X X X X X<|Z X X X X X<|zX (v := (.bool _)) X X X<|zJ X X<|Y ?_
 refine zad rfl (fun c22 => ?_) (fun c22 => ?_)
 ·
  cases c22
 refine zC<|zP<|O<|W.sr<|U X zi X zr X X<|E (j := 0) st12.sub (hc5.up le10) X X X zN X<|U X zi X zr X X<|E (j := 0) st12.sub hc11 X X X zN X<|zfu X X t_om X<|zz X X<|Y<|zB<|zc Tryz.results194 ?_
 refine ⟨h9, _, rfl, st12.done, ?_⟩
 refine zar ?_
 simp_all [zia]
theorem c_stem_kinds_1 {h : Heap} {w : World} (hs : Sub h w) {d : Decision} (d_l2 : 0 ≤ d.kind ∧ d.kind ≤ 255) (d_l3 : d.form.length ≤ 281474976710656) (d_l7 : d.to.stem.length ≤ 281474976710656) (d_l8 : 0 ≤ d.to.mark ∧ d.to.mark ≤ 255) {p : Place} (wd : Str) (wd_le : wd.length ≤ 281474976710656) : Calls Tryz.prog 269 #[.agg #[.int .i64 d.number, .int .u8 d.kind, strV d.form, .int .i64 d.at_.chapter, .int .i64 d.at_.line, .int .i64 d.at_.word, strV d.to.stem, .int .u8 d.to.mark, .int .i64 d.of_], .agg #[.int .i64 p.chapter, .int .i64 p.line, .int .i64 p.word], strV wd] w (Rets h w (fun _ _ res_ => res_ = .bool (decide (d.form = wd)))) := by
 refine zS (n := 11) Tryz.func269 X X X<|have st0:=t_s0 hs;W.sr<|zG st0 (cs := [.int .i64 (d.number), .int .u8 (d.kind), strV (d.form), .int .i64 (d.at_.chapter), .int .i64 (d.at_.line), .int .i64 (d.at_.word), strV (d.to.stem), .int .u8 (d.to.mark), .int .i64 (d.of_)]) X X X<|fun b1 w2 h3 le4 hc5 st6=>zG st6 (cs := [.int .i64 (p.chapter), .int .i64 (p.line), .int .i64 (p.word)]) X X X<|fun b7 w8 h9 le10 hc11 st12=>zJ X X<|Y<|W.sr<|U X zi X zW X X<|E (j := 2) st12.sub (hc5.up le10) X X X zaw X<|zbX X X<|zhq X X X<|zJ X X<|Y<|zB<|zc Tryz.results269 ?_
 refine ⟨h9, _, rfl, st12.done, ?_⟩
 refine zw ?_
 rfl
theorem c_stem_kinds_2 {h : Heap} {w : World} (hs : Sub h w) {d : Decision} (d_l2 : 0 ≤ d.kind ∧ d.kind ≤ 255) (d_l3 : d.form.length ≤ 281474976710656) (d_l7 : d.to.stem.length ≤ 281474976710656) (d_l8 : 0 ≤ d.to.mark ∧ d.to.mark ≤ 255) {p : Place} (wd : Str) (wd_le : wd.length ≤ 281474976710656) : Calls Tryz.prog 270 #[.agg #[.int .i64 d.number, .int .u8 d.kind, strV d.form, .int .i64 d.at_.chapter, .int .i64 d.at_.line, .int .i64 d.at_.word, strV d.to.stem, .int .u8 d.to.mark, .int .i64 d.of_], .agg #[.int .i64 p.chapter, .int .i64 p.line, .int .i64 p.word], strV wd] w (Rets h w (fun _ _ res_ => res_ = .bool ((decide (d.form = wd) && decide (ordI d.at_ p ≤ 0))))) := by
 refine zS (n := 18) Tryz.func270 X X X<|have st0:=t_s0 hs;W.sr<|zG st0 (cs := [.int .i64 (d.number), .int .u8 (d.kind), strV (d.form), .int .i64 (d.at_.chapter), .int .i64 (d.at_.line), .int .i64 (d.at_.word), strV (d.to.stem), .int .u8 (d.to.mark), .int .i64 (d.of_)]) X X X<|fun b1 w2 h3 le4 hc5 st6=>zG st6 (cs := [.int .i64 (p.chapter), .int .i64 (p.line), .int .i64 (p.word)]) X X X<|fun b7 w8 h9 le10 hc11 st12=>zJ X X<|Y<|W.sr<|U X zi X zW X X<|E (j := 2) st12.sub (hc5.up le10) X X X zaw X<|zbX X X<|zhq X X X<|zai X X ?_
 refine zaB (d := 11) rfl (fun g13 => ?_) (fun g13 => ?_)
 ·
  refine M X X X<|U X zi X zO X X<|M X X X<|zab (j := 3) st12.sub (hc5.up le10) (us := [.int .i64 (d.at_.chapter), .int .i64 (d.at_.line), .int .i64 (d.at_.word)]) X X zaD zO X X X<|M X X X<|zy st12.sub hc11 X zaD zO X X<|M X X X<|zn st12 X X X Tryz.call227 X (c_stem_order st12.sub (a := d.at_) (b := p))<|fun r14 w15 h16 le17 st18 q19=> ?_
  obtain rfl := q19
  refine M X X X<|zq X X (r_leq X X)<|zaf (v := (.bool _)) X X X<|zJ X X<|Y<|zB<|zc Tryz.results270 ?_
  refine ⟨h16, _, rfl, st18.done, ?_⟩
  refine zw ?_
  simp_all
 refine Z X X X X X<|Z X X X X X<|Z X X X X X<|Z X X X X X<|Z X X X X X<|zX (v := (.bool _)) X X X<|zJ X X<|Y<|zB<|zc Tryz.results270 ?_
 refine ⟨h9, _, rfl, st12.done, ?_⟩
 refine zw ?_
 simp_all
theorem c_stem_kinds_3 {h : Heap} {w : World} (hs : Sub h w) {d : Decision} (d_l2 : 0 ≤ d.kind ∧ d.kind ≤ 255) (d_l3 : d.form.length ≤ 281474976710656) (d_l7 : d.to.stem.length ≤ 281474976710656) (d_l8 : 0 ≤ d.to.mark ∧ d.to.mark ≤ 255) {p : Place} (wd : Str) (wd_le : wd.length ≤ 281474976710656) : Calls Tryz.prog 271 #[.agg #[.int .i64 d.number, .int .u8 d.kind, strV d.form, .int .i64 d.at_.chapter, .int .i64 d.at_.line, .int .i64 d.at_.word, strV d.to.stem, .int .u8 d.to.mark, .int .i64 d.of_], .agg #[.int .i64 p.chapter, .int .i64 p.line, .int .i64 p.word], strV wd] w (Rets h w (fun _ _ res_ => res_ = .bool (decide (d.at_ = p)))) := by
 refine zS (n := 11) Tryz.func271 X X X<|have st0:=t_s0 hs;W.sr<|zG st0 (cs := [.int .i64 (d.number), .int .u8 (d.kind), strV (d.form), .int .i64 (d.at_.chapter), .int .i64 (d.at_.line), .int .i64 (d.at_.word), strV (d.to.stem), .int .u8 (d.to.mark), .int .i64 (d.of_)]) X X X<|fun b1 w2 h3 le4 hc5 st6=>zG st6 (cs := [.int .i64 (p.chapter), .int .i64 (p.line), .int .i64 (p.word)]) X X X<|fun b7 w8 h9 le10 hc11 st12=>zJ X X<|Y<|W.sr<|U X zi X zO X X<|zab (j := 3) st12.sub (hc5.up le10) (us := [.int .i64 (d.at_.chapter), .int .i64 (d.at_.line), .int .i64 (d.at_.word)]) X X zaD zO X X X<|zy st12.sub hc11 X zaD zO X X<|zq X X (zge X X zeb (Tryz.eq_Place d.at_ p))<|zJ X X<|Y<|zB<|zc Tryz.results271 ?_
 refine ⟨h9, _, rfl, st12.done, ?_⟩
 refine zw ?_
 rfl
theorem c_stem_kinds_4 {h : Heap} {w : World} (hs : Sub h w) {d : Decision} (d_l2 : 0 ≤ d.kind ∧ d.kind ≤ 255) (d_l3 : d.form.length ≤ 281474976710656) (d_l7 : d.to.stem.length ≤ 281474976710656) (d_l8 : 0 ≤ d.to.mark ∧ d.to.mark ≤ 255) {p : Place} (wd : Str) (wd_le : wd.length ≤ 281474976710656) : Calls Tryz.prog 272 #[.agg #[.int .i64 d.number, .int .u8 d.kind, strV d.form, .int .i64 d.at_.chapter, .int .i64 d.at_.line, .int .i64 d.at_.word, strV d.to.stem, .int .u8 d.to.mark, .int .i64 d.of_], .agg #[.int .i64 p.chapter, .int .i64 p.line, .int .i64 p.word], strV wd] w (Rets h w (fun _ _ res_ => res_ = .bool (false))) := by
 refine zS (n := 7) Tryz.func272 X X X<|have st0:=t_s0 hs;W.sr<|zG st0 (cs := [.int .i64 (d.number), .int .u8 (d.kind), strV (d.form), .int .i64 (d.at_.chapter), .int .i64 (d.at_.line), .int .i64 (d.at_.word), strV (d.to.stem), .int .u8 (d.to.mark), .int .i64 (d.of_)]) X X X<|fun b1 w2 h3 le4 hc5 st6=>zG st6 (cs := [.int .i64 (p.chapter), .int .i64 (p.line), .int .i64 (p.word)]) X X X<|fun b7 w8 h9 le10 hc11 st12=>zJ X X<|Y<|W.sr<|zJ X X<|Y<|zB<|zc Tryz.results272 ?_
 refine ⟨h9, _, rfl, st12.done, ?_⟩
 refine zw ?_
 rfl
theorem c_stem_Add_1 {h : Heap} {w : World} (hs : Sub h w) {a : Decision} (a_l2 : 0 ≤ a.kind ∧ a.kind ≤ 255) (a_l3 : a.form.length ≤ 281474976710656) (a_l7 : a.to.stem.length ≤ 281474976710656) (a_l8 : 0 ≤ a.to.mark ∧ a.to.mark ≤ 255) {b : Decision} (b_l2 : 0 ≤ b.kind ∧ b.kind ≤ 255) (b_l3 : b.form.length ≤ 281474976710656) (b_l7 : b.to.stem.length ≤ 281474976710656) (b_l8 : 0 ≤ b.to.mark ∧ b.to.mark ≤ 255) (ha : 1 ≤ a.number ∧ a.number ≤ 999) (hb : 1 ≤ b.number ∧ b.number ≤ 999) : Calls Tryz.prog 112 #[.agg #[.int .i64 a.number, .int .u8 a.kind, strV a.form, .int .i64 a.at_.chapter, .int .i64 a.at_.line, .int .i64 a.at_.word, strV a.to.stem, .int .u8 a.to.mark, .int .i64 a.of_], .agg #[.int .i64 b.number, .int .u8 b.kind, strV b.form, .int .i64 b.at_.chapter, .int .i64 b.at_.line, .int .i64 b.at_.word, strV b.to.stem, .int .u8 b.to.mark, .int .i64 b.of_]] w (Rets h w (fun _ _ res_ => res_ = .int .i64 (a.number - b.number))) := by
 refine zS (n := 10) Tryz.func112 X X X<|have st0:=t_s0 hs;W.sr<|zG st0 (cs := [.int .i64 (a.number), .int .u8 (a.kind), strV (a.form), .int .i64 (a.at_.chapter), .int .i64 (a.at_.line), .int .i64 (a.at_.word), strV (a.to.stem), .int .u8 (a.to.mark), .int .i64 (a.of_)]) X X X<|fun b1 w2 h3 le4 hc5 st6=>zG st6 (cs := [.int .i64 (b.number), .int .u8 (b.kind), strV (b.form), .int .i64 (b.at_.chapter), .int .i64 (b.at_.line), .int .i64 (b.at_.word), strV (b.to.stem), .int .u8 (b.to.mark), .int .i64 (b.of_)]) X X X<|fun b7 w8 h9 le10 hc11 st12=>zz X X<|Y<|W.sr<|U X zi X zr X X<|E (j := 0) st12.sub (hc5.up le10) X X X zN X<|U X zi X zr X X<|E (j := 0) st12.sub hc11 X X X zN X<|zfu X X t_om X<|zz X X<|Y<|zB<|zc Tryz.results112 ?_
 refine ⟨h9, _, rfl, st12.done, ?_⟩
 refine zar ?_
 rfl
end Go.Pk

namespace Go.Pk
open Go Go.RowKit Go.Proofs
theorem ziM {h : Heap} {w : World} (hs : Sub h w) {d : Decision} (d_l2 : 0 ≤ d.kind ∧ d.kind ≤ 255) (d_l3 : d.form.length ≤ 281474976710656) (d_l7 : d.to.stem.length ≤ 281474976710656) (d_l8 : 0 ≤ d.to.mark ∧ d.to.mark ≤ 255) {p : Place} (wd : Str) (wd_le : wd.length ≤ 281474976710656) : Calls Tryz.prog 155 #[.agg #[.int .i64 d.number, .int .u8 d.kind, strV d.form, .int .i64 d.at_.chapter, .int .i64 d.at_.line, .int .i64 d.at_.word, strV d.to.stem, .int .u8 d.to.mark, .int .i64 d.of_], .agg #[.int .i64 p.chapter, .int .i64 p.line, .int .i64 p.word], strV wd] w (Rets h w (fun _ _ res_ => res_ = .bool (zds d p wd))) := by
 refine zS (n := 34) Tryz.func155 X X X<|have st0:=t_s0 hs;W.sr<|zG st0 (cs := [.int .i64 (d.number), .int .u8 (d.kind), strV (d.form), .int .i64 (d.at_.chapter), .int .i64 (d.at_.line), .int .i64 (d.at_.word), strV (d.to.stem), .int .u8 (d.to.mark), .int .i64 (d.of_)]) X X X<|fun b1 w2 h3 le4 hc5 st6=>zG st6 (cs := [.int .i64 (p.chapter), .int .i64 (p.line), .int .i64 (p.word)]) X X X<|fun b7 w8 h9 le10 hc11 st12=>zJ X X<|Y<|zj<|W.sr<|U X zi X zbn X X<|E (j := 1) st12.sub (hc5.up le10) X X X zbG X<|Y<|zF<|W.sr<|zee X X X<|zJ X X<|Y ?_
 refine zH rfl (fun c13 => ?_) (fun c13 => ?_)
 ·
  refine W.sr<|U X zi X zW X X<|E (j := 2) st12.sub (hc5.up le10) X X X zaw X<|zbX X X<|zhq X X X<|zJ X X<|Y<|zB<|zI<|zd<|zc Tryz.results155 ?_
  refine ⟨h9, _, rfl, st12.done, ?_⟩
  refine zw ?_
  simp_all [zds]
 refine W.sr<|zee X X X<|zJ X X<|Y ?_
 refine zH rfl (fun c14 => ?_) (fun c14 => ?_)
 ·
  refine W.sr<|U X zi X zW X X<|E (j := 2) st12.sub (hc5.up le10) X X X zaw X<|zbX X X<|zhq X X X<|zai X X ?_
  refine zaB (d := 21) rfl (fun g15 => ?_) (fun g15 => ?_)
  ·
   refine M X X X<|zy st12.sub hc11 X zaD zO X X<|M X X X<|U X zi X zO X X<|M X X X<|zab (j := 3) st12.sub (hc5.up le10) (us := [.int .i64 (d.at_.chapter), .int .i64 (d.at_.line), .int .i64 (d.at_.word)]) X X zaD zO X X X<|M X X X<|zn st12 X X X Tryz.call146 X (zff st12.sub (a := p) (b := d.at_))<|fun r16 w17 h18 le19 st20 q21=> ?_
   obtain rfl := q21
   refine M X X X<|zbQ X X<|zaf (v := (.bool _)) X X X<|zJ X X<|Y<|zB<|zI<|zd<|zc Tryz.results155 ?_
   refine ⟨h18, _, rfl, st20.done, ?_⟩
   refine zw ?_
   simp_all [zds]
  refine Z X X X X X<|Z X X X X X<|Z X X X X X<|Z X X X X X<|Z X X X X X<|zX (v := (.bool _)) X X X<|zJ X X<|Y<|zB<|zI<|zd<|zc Tryz.results155 ?_
  refine ⟨h9, _, rfl, st12.done, ?_⟩
  refine zw ?_
  simp_all [zds]
 refine W.sr<|zee X X X<|zJ X X<|Y ?_
 refine zH rfl (fun c22 => ?_) (fun c22 => ?_)
 ·
  refine W.sr<|U X zi X zO X X<|zab (j := 3) st12.sub (hc5.up le10) (us := [.int .i64 (d.at_.chapter), .int .i64 (d.at_.line), .int .i64 (d.at_.word)]) X X zaD zO X X X<|zy st12.sub hc11 X zaD zO X X<|zq X X (zge X X zeb (Tryz.eq_Place d.at_ p))<|zJ X X<|Y<|zB<|zI<|zd<|zc Tryz.results155 ?_
  refine ⟨h9, _, rfl, st12.done, ?_⟩
  refine zw ?_
  simp_all [zds]
 refine zC<|zP<|O<|W.sr<|zJ X X<|Y<|zB<|zc Tryz.results155 ?_
 refine ⟨h9, _, rfl, st12.done, ?_⟩
 refine zw ?_
 simp_all [zds]
theorem c_postilref04_better {h : Heap} {w : World} (hs : Sub h w) {d : Decision} (d_l2 : 0 ≤ d.kind ∧ d.kind ≤ 255) (d_l3 : d.form.length ≤ 281474976710656) (d_l7 : d.to.stem.length ≤ 281474976710656) (d_l8 : 0 ≤ d.to.mark ∧ d.to.mark ≤ 255) {e : Decision} (e_l2 : 0 ≤ e.kind ∧ e.kind ≤ 255) (e_l3 : e.form.length ≤ 281474976710656) (e_l7 : e.to.stem.length ≤ 281474976710656) (e_l8 : 0 ≤ e.to.mark ∧ e.to.mark ≤ 255) : Calls Tryz.prog 156 #[.agg #[.int .i64 d.number, .int .u8 d.kind, strV d.form, .int .i64 d.at_.chapter, .int .i64 d.at_.line, .int .i64 d.at_.word, strV d.to.stem, .int .u8 d.to.mark, .int .i64 d.of_], .agg #[.int .i64 e.number, .int .u8 e.kind, strV e.form, .int .i64 e.at_.chapter, .int .i64 e.at_.line, .int .i64 e.at_.word, strV e.to.stem, .int .u8 e.to.mark, .int .i64 e.of_]] w (Rets h w (fun _ _ res_ => res_ = .bool (zgQ d e))) := by
 refine zS (n := 26) Tryz.func156 X X X<|have st0:=t_s0 hs;W.sr<|zG st0 (cs := [.int .i64 (d.number), .int .u8 (d.kind), strV (d.form), .int .i64 (d.at_.chapter), .int .i64 (d.at_.line), .int .i64 (d.at_.word), strV (d.to.stem), .int .u8 (d.to.mark), .int .i64 (d.of_)]) X X X<|fun b1 w2 h3 le4 hc5 st6=>zG st6 (cs := [.int .i64 (e.number), .int .u8 (e.kind), strV (e.form), .int .i64 (e.at_.chapter), .int .i64 (e.at_.line), .int .i64 (e.at_.word), strV (e.to.stem), .int .u8 (e.to.mark), .int .i64 (e.of_)]) X X X<|fun b7 w8 h9 le10 hc11 st12=>zJ X X<|Y<|zj<|W.sr<|U X zi X zbn X X<|E (j := 1) st12.sub (hc5.up le10) X X X zbG X<|U X zi X zbn X X<|E (j := 1) st12.sub hc11 X X X zbG X<|zcF X X X<|Y ?_
 refine zH rfl (fun c13 => ?_) (fun c13 => ?_)
 ·
  refine W.sr<|U X zi X zbn X X<|E (j := 1) st12.sub (hc5.up le10) X X X zbG X<|U X zi X zbn X X<|E (j := 1) st12.sub hc11 X X X zbG X<|zdr X X X<|zJ X X<|Y<|zB<|zd<|zc Tryz.results156 ?_
  refine ⟨h9, _, rfl, st12.done, ?_⟩
  refine zw ?_
  simp_all [zgQ]
 refine zC<|O<|W.sr<|U X zi X zbn X X<|E (j := 1) st12.sub (hc5.up le10) X X X zbG X<|zcF X X X<|zai X X ?_
 refine zaB (d := 18) rfl (fun g14 => ?_) (fun g14 => ?_)
 ·
  refine Z X X X X X<|Z X X X X X<|Z X X X X X<|Z X X X X X<|Z X X X X X<|Z X X X X X<|zaf (v := (.bool _)) X X X<|zJ X X<|Y<|zB<|zc Tryz.results156 ?_
  refine ⟨h9, _, rfl, st12.done, ?_⟩
  refine zw ?_
  simp_all [zgQ]
 refine M X X X<|U X zi X zO X X<|M X X X<|zab (j := 3) st12.sub (hc5.up le10) (us := [.int .i64 (d.at_.chapter), .int .i64 (d.at_.line), .int .i64 (d.at_.word)]) X X zaD zO X X X<|M X X X<|U X zi X zO X X<|M X X X<|zab (j := 3) st12.sub hc11 (us := [.int .i64 (e.at_.chapter), .int .i64 (e.at_.line), .int .i64 (e.at_.word)]) X X zaD zO X X X<|M X X X<|zn st12 X X X Tryz.call146 X (zff st12.sub (a := d.at_) (b := e.at_))<|fun r15 w16 h17 le18 st19 q20=> ?_
 obtain rfl := q20
 refine M X X X<|zbQ X X<|zX (v := (.bool _)) X X X<|zJ X X<|Y<|zB<|zc Tryz.results156 ?_
 refine ⟨h17, _, rfl, st19.done, ?_⟩
 refine zw ?_
 simp_all [zgQ]
theorem c_postilref04_Less {h : Heap} {w : World} (hs : Sub h w) {a : Head} (a_l1 : a.stem.length ≤ 281474976710656) (a_l2 : 0 ≤ a.mark ∧ a.mark ≤ 255) {b : Head} (b_l1 : b.stem.length ≤ 281474976710656) (b_l2 : 0 ≤ b.mark ∧ b.mark ≤ 255) : Calls Tryz.prog 148 #[.agg #[strV a.stem, .int .u8 a.mark], .agg #[strV b.stem, .int .u8 b.mark]] w (Rets h w (fun _ _ res_ => res_ = .bool (headLt a b))) := by
 refine zS (n := 24) Tryz.func148 X X X<|have st0:=t_s0 hs;W.sr<|zG st0 (cs := [strV (a.stem), .int .u8 (a.mark)]) X X X<|fun b1 w2 h3 le4 hc5 st6=>zG st6 (cs := [strV (b.stem), .int .u8 (b.mark)]) X X X<|fun b7 w8 h9 le10 hc11 st12=>zJ X X<|Y<|W.sr<|U X zbw X zW X X<|E (j := 0) st12.sub (hc5.up le10) X X X zaw X<|U X zbw X zW X X<|E (j := 0) st12.sub hc11 X X X zaw X<|zq X X (r_slss X X)<|zai X X ?_
 refine zaY (d := 10) rfl (fun g13 => ?_) (fun g13 => ?_)
 ·
  refine Z X X X X X<|Z X X X X X<|Z X X X X X<|Z X X X X X<|Z X X X X X<|Z X X X X X<|zm X X X X<|zm X X X X<|zm X X X X<|zm X X X X<|zm X X X X<|Z X X X X X<|zaf (v := (.bool _)) X X X<|zJ X X<|Y<|zB<|zc Tryz.results148 ?_
  refine ⟨h9, _, rfl, st12.done, ?_⟩
  refine zw ?_
  simp_all [headLt, sLt]
 refine M X X X<|U X zbw X zW X X<|M X X X<|E (j := 0) st12.sub (hc5.up le10) X X X zaw X<|M X X X<|U X zbw X zW X X<|M X X X<|E (j := 0) st12.sub hc11 X X X zaw X<|M X X X<|zhq X X X<|M X X X<|zai X X ?_
 refine zaB (d := 16) rfl (fun g14 => ?_) (fun g14 => ?_)
 ·
  refine M X X X<|U X zbw X zbn X X<|M X X X<|E (j := 1) st12.sub (hc5.up le10) X X X zbG X<|M X X X<|U X zbw X zbn X X<|M X X X<|E (j := 1) st12.sub hc11 X X X zbG X<|M X X X<|zaV X X X<|M X X X<|zaf (v := (.bool _)) X X X<|zX (v := (.bool _)) X X X<|zJ X X<|Y<|zB<|zc Tryz.results148 ?_
  refine ⟨h9, _, rfl, st12.done, ?_⟩
  refine zw ?_
  simp_all [headLt, sLt]
 refine Z X X X X X<|Z X X X X X<|Z X X X X X<|Z X X X X X<|Z X X X X X<|M X X X<|zX (v := (.bool _)) X X X<|zX (v := (.bool _)) X X X<|zJ X X<|Y<|zB<|zc Tryz.results148 ?_
 refine ⟨h9, _, rfl, st12.done, ?_⟩
 refine zw ?_
 simp_all [headLt, sLt]
theorem zis {h : Heap} {w : World} (hs : Sub h w) {a_v : Value} {a : (List Head)} (a_f : Sl LHead h a_v a) {b_v : Value} {b : (List Head)} (b_f : Sl LHead h b_v b) : Calls Tryz.prog 75 #[a_v, b_v] w (Rets h w (fun _ _ res_ => res_ = .bool (decide (a = b)))) := by
 refine zS (n := 26) Tryz.func75 X X X<|have st0:=t_s0 hs;have a_f_b:=a_f.le;have b_f_b:=b_f.le;W.sr<|zJ X X<|Y<|zj<|W.sr<|zaa (v := a_v) X X<|zaJ a_f X zaE X<|zaa (v := b_v) X X<|zaJ b_f X zaE X<|zcF X X X<|Y ?_
 refine zH rfl (fun c1 => ?_) (fun c1 => ?_)
 ·
  refine W.sr<|zJ X X<|Y<|zB<|zd<|zc Tryz.results75 ?_
  refine ⟨h, _, rfl, st0.done, ?_⟩
  refine zw ?_
  have q : a ≠ b := by
   rintro rfl
   simp_all
  simp [q]
 refine zC<|O<|zj<|W.sr<|zz X X<|Y<|zF ?_
 refine zat ([4, 5] ++ t_rg 11 15) (G := Nat × Heap) (fun ⟨k, h2⟩ => [(5, .int .i64 (k : Int))]) (fun ⟨k, h2⟩ w' => Le h h2 ∧ St h w h2 w' [] ∧ (k ≤ a.length) ∧ (a.take k = b.take k)) (fun ⟨k, h2⟩ => a.length - k) ⟨0, h⟩ ⟨rfl, trivial⟩ ⟨Le.refl _, st0, zaM, zaM⟩ ?_
 rintro ⟨k, h2⟩ _ w5 ⟨le3, st4, hk, he⟩
 refine zj<|W.sr<|zk X X<|zaa (v := a_v) X X<|zaJ (a_f.up le3) X zaE X<|zaV X X X<|Y ?_
 refine zH rfl (fun c6 => ?_) (fun c6 => ?_)
 ·
  refine zC<|O<|zj<|zF<|zj<|zbj Tryz.mixed t_kr (Cls h2 _) (Cls.drew st4)<|zdn (v := a_v) X X<|zbJ X X ?_
  obtain ⟨x, hx⟩ : ∃ y_, (a)[k]? = some y_ := t_ge (by omega)
  obtain ⟨b7, o8, _, he10, hc9, hr_x⟩ := Sl.elem (a_f.up le3) hx
  obtain ⟨rfl, ls11, lu12⟩ := hr_x
  simp only [big] at ls11
  refine zaG he10 X X (hk := X) (hu := zaE) (hz := zT) X<|zl X X (fun _ hC => (zZ hC.sub hc9 X zbl zT X))<|zdn (v := b_v) X X<|zbJ X X ?_
  obtain ⟨y, hy⟩ : ∃ y_, (b)[k]? = some y_ := t_ge (by omega)
  obtain ⟨b13, o14, _, he16, hc15, hr_y⟩ := Sl.elem (b_f.up le3) hy
  obtain ⟨rfl, ls17, lu18⟩ := hr_y
  simp only [big] at ls17
  refine zaG he16 X X (hk := X) (hu := zaE) (hz := zT) X<|zl X X (fun _ hC => (zZ hC.sub hc15 X zbl zT X))<|zl X X (fun _ _ => (ziz X X zea (Tryz.eq_Head x y)))<|zaN ?_
  rintro w19 ⟨h20, s21⟩
  have st22 := st4.call0 s21
  refine O ?_
  refine zH rfl (fun c23 => ?_) (fun c23 => ?_)
  ·
   refine W.sr<|zJ X X<|Y<|zB<|zI<|zd<|zd<|zI<|zd<|zc Tryz.results75 ?_
   refine ⟨h20, _, rfl, st22.done, ?_⟩
   refine zw ?_
   have q := zdz hx hy (by simpa using c23)
   simp [q]
  refine zC<|zP<|O<|zo<|zk X X<|zaP X X t_om X<|zz X X<|Y ?_
  have l24 := le3.trans s21.le
  refine ⟨⟨k + 1, h20⟩, ⟨rfl, trivial⟩, ?_, ⟨l24, st22, ?_, ?_⟩, ?_⟩
  ·exact zav
  ·first | omega | (simp; omega)
  ·exact zdI he hx hy (by simpa using c23)
  show a.length - ((k + 1)) < a.length - k
  omega
 refine zaC<|zh<|zh<|zah<|O<|W.sr<|zJ X X<|Y<|zB<|zc Tryz.results75 ?_
 refine ⟨h2, _, rfl, st4.done, ?_⟩
 refine zw ?_
 have q := zeH he (by omega) (by omega)
 simp [q]
end Go.Pk

namespace Go.Pk
open Go Go.RowKit Go.Proofs
theorem zhB {h0 h : Heap} {w0 w : World} {rest : Own} {l : Nat} {o_b : Nat} {o : Office} {o_v0 : Value} (o_f0 : Sl LRule h o_v0 o.lex.rules) {o_v1 : Value} (o_f1 : Sl LDecision h o_v1 o.lex.decisions) {o_v2 : Value} (o_f2 : Sl LChapter h o_v2 o.text.chapters) {o_v3 : Value} (o_f3 : FML (fun n : Int => .int .i64 n) (fun x : Decision => [.int .i64 x.number, .int .u8 x.kind, strV x.form, .int .i64 x.at_.chapter, .int .i64 x.at_.line, .int .i64 x.at_.word, strV x.to.stem, .int .u8 x.to.mark, .int .i64 x.of_]) LDecision h o.stands o_v3) (o_c : Cells h o_b 0 [o_v0, o_v1, o_v2, o_v3]) {o_bb : Nat} (o_cc : Cells h o_bb 0 [.pointer (some ⟨o_b, 0, none⟩)]) {p_b : Nat} {p : Place} (p_c : Cells h p_b 0 [.int .i64 (p.chapter), .int .i64 (p.line), .int .i64 (p.word)]) {word_b : Nat} {word : Str} (word_le : word.length ≤ 281474976710656) (word_c : Cells h word_b 0 [strV word]) {J Jx : List Decision → Heap → Own → Prop} (hJm : ∀ xs h1 h2 o, J xs h1 o → Le h1 h2 → J xs h2 o) (hJxm : ∀ xs h1 h2 o, Jx xs h1 o → Le h1 h2 → Jx xs h2 o) (hJ0 : J [] h rest) (hY : ∀ (pre : List Decision) (x : Decision) h1 w1 B rest u, Le h h1 → J pre h1 rest → St h0 w0 h1 w1 (B ++ rest) → (∃ vs, u = .agg vs.toArray ∧ LDecision.R h1 vs x) ∧ x ∈ o.stands.map (·.2) → Yields Tryz.prog l #[u] w1 fun v w2 => ∃ h2 rest2, Le h1 h2 ∧ St h0 w0 h2 w2 (B ++ rest2) ∧ ((v = .bool true ∧ J (pre ++ [x]) h2 rest2) ∨ (v = .bool false ∧ Jx (pre ++ [x]) h2 rest2))) (K1 : Cells h 1 0 Tryz.glob1) (hk4 : ∀ q ∈ o.stands, 1 ≤ q.2.kind ∧ q.2.kind ≤ 4) (st0 : St h0 w0 h w rest) : Calls Tryz.prog 226 #[.func (.yield l) #[] #[], .pointer (some ⟨o_bb, 0, none⟩), .pointer (some ⟨p_b, 0, none⟩), .pointer (some ⟨word_b, 0, none⟩)] w (fun e_ w' => ∃ h' rest' v_, e_ = .returned v_ ∧ Le h h' ∧ St h0 w0 h' w' rest' ∧ ((∃ xs, (∃ dn : List (Int × Decision), dn.Perm o.stands ∧ xs = (dn.map (·.2)).filter fun d => zds d p word) ∧ J xs h' rest') ∨ (∃ pre, Jx pre h' rest'))) := by
 refine zS (n := 31) Tryz.func226 X X X<|have o_f0_b:=o_f0.le;have o_f1_b:=o_f1.le;have o_f2_b:=o_f2.le;W.sr<|E (j := 0) st0.sub o_cc X X X Tryz.isAgg183 X<|zq X X (zdv X)<|U X zdE X Tryz.sizeOf233 X X<|E (j := 3) st0.sub o_c X X X Tryz.isAgg233 X<|OpsL.rangeM st0 o_f3.1 X Tryz.underlying233 X<|fun o1 vi2 w3 hI4 st5=> ?_
 have st6 := st5.perm (own' := o1 :: rest) List.perm_append_comm
 refine Y<|zF ?_
 refine zat ([6] ++ t_rg 12 19) (G := List (Int × Decision) × List (Int × Decision) × Own × List (Nat × Obj) × Heap) (fun ⟨dn, rm, rest, o_11, h7⟩ => []) (fun ⟨dn, rm, rest, o_11, h7⟩ w' => Le h h7 ∧ St h0 w0 h7 w' (o_11 :: rest) ∧ (MI (fun n : Int => .int .i64 n) (fun x => .agg ((fun x : Decision => [.int .i64 x.number, .int .u8 x.kind, strV x.form, .int .i64 x.at_.chapter, .int .i64 x.at_.line, .int .i64 x.at_.word, strV x.to.stem, .int .u8 x.to.mark, .int .i64 x.of_]) x).toArray) h7 o_v3 o_11 vi2 rm) ∧ ((dn ++ rm).Perm o.stands) ∧ (J ((dn.map (·.2)).filter fun d => zds d p word) h7 rest)) (fun ⟨dn, rm, rest, o_11, h7⟩ => rm.length) ⟨[], o.stands, rest, o1, h⟩ trivial ⟨Le.refl _, st6, hI4, (by exact List.Perm.refl _), (by exact hJm _ _ _ _ hJ0 (Le.refl _))⟩ ?_
 rintro ⟨dn, rm, rest, o_11, h7⟩ _ w10 ⟨le8, st9, hI_11, hpd, hJ⟩
 refine W.sr ?_
 refine OpsL.nextM (i := 0) st9 hI_11 rfl rfl rfl (fun e11 w12 st13 => ?_) (fun p14 rm15 o16 w21 _ e22 hp19 hI17 hC18 st20 => ?_)
 ·
  refine zak (v := (.bool _)) X X X<|Y<|zj ?_
  refine zad rfl (fun c23 => ?_) (fun c23 => ?_)
  ·
   cases c23
  refine zaC<|zh<|zh<|zah<|Post.end0 Tryz.results226 ?_
  exact ⟨_, _, _, rfl, le8, (st13).tl, .inl ⟨_, ⟨dn, by rw [e11, List.append_nil] at hpd; exact hpd, rfl⟩, hJm _ _ _ _ hJ (Le.refl _)⟩⟩
 subst e22
 refine zak (v := (.bool _)) X X X<|Y<|zj ?_
 refine zad rfl (fun c24 => ?_) (fun c24 => ?_)
 ·
  refine zC<|O<|zF<|zj ?_
  have hpm : p14 ∈ o.stands := hpd.mem_iff.1 (List.mem_append_right _ (hp19.mem_iff.2 (List.mem_cons_self ..)))
  have hpk := hk4 _ hpm
  obtain ⟨_, hp1, hp2, hp3, hp4⟩ := o_f3.2 p14 hpm
  simp only [big] at hp2 hp3
  refine zo<|zq X X (r_entry st20.sub hC18 (st20.ent (k := 0) X) X)<|zak (v := (.agg (List.toArray _))) X X X<|ziP st20 zbD X X X (us := [.int .i64 (p14.2.number), .int .u8 (p14.2.kind), strV (p14.2.form), .int .i64 (p14.2.at_.chapter), .int .i64 (p14.2.at_.line), .int .i64 (p14.2.at_.word), strV (p14.2.to.stem), .int .u8 (p14.2.to.mark), .int .i64 (p14.2.of_)]) (fun _ => X) (za X (za X (za X (za X (za X (za X (za X (za X (za X zap))))))))) zK X<|fun b25 w26 h27 le28 hc29 st30=>Y<|zj ?_
  rcases (show p14.2.kind = 1 ∨ p14.2.kind = 2 ∨ p14.2.kind = 3 ∨ p14.2.kind = 4 by omega) with hk31 | hk31 | hk31 | hk31
  ·
   have l32 := le8.trans le28
   rcases Bool.eq_false_or_eq_true ((decide ((p14.2).form = (word)))) with g33 | g33
   ·
    have g33_r := g33
    have l34 := le8.trans le28
    refine zbh (er := ([], [], [], [], 0)) (dsts := [16, 17, 18, 19, 20, 21, 22, 23, 24, 25, 26, 27, 28, 29, 30]) st30 Tryz.mixed<|zf 0 [] X t_kr t_kr X X (fun hD wD τD hL hS hO  => (zL X zi X zbn X))<|zf 1 [0] X t_kr t_kr X X (fun hD wD τD hL hS hO _ _ => (ze (j := 1) (hL.sub hS) hc29 X X X zbG)) ?_
    refine zf 2 [0] rfl t_kr t_kr rfl rfl (fun hD wD τD hL hS hO _ _ => (zdm rfl rfl (show _ = ((1 : Nat) : Int) by rw [hk31]; rfl) rfl zci zce)) ?_
    refine zf 3 [0] X t_kr t_kr X X (fun hD wD τD hL hS hO _ _ => (zL X zag X zeB X))<|zf 4 [0] X t_kr t_kr X X (fun hD wD τD hL hS hO _ _ => (ze (j := 9) (hL.sub hS) (K1.up l34) X X X zfi))<|zf 5 [] X t_kr t_kr X X (fun hD wD τD hL hS hO  => (zZ (hL.sub hS) hc29 X zaI zK X))<|zf 6 [] X t_kr t_kr X X (fun hD wD τD hL hS hO  => (zZ (hL.sub hS) (p_c.up l34) X zaD zO X))<|zf 7 [] X t_kr t_kr X X (fun hD wD τD hL hS hO  => (ze (j := 0) (hL.sub hS) (word_c.up l34) X X X zaw)) ?_
    refine zax 8 (.det (.bool true)) [3, 2, 1, 0] rfl t_kr t_kr ?_ ?_
    ·
     intro hD wD τD hL hS hO _ _ _ _ _ _ _ _
     have st35 := St.start hS
     refine zdg (fs := []) (cs := []) st35 X X X X Tryz.call269 X (c_stem_kinds_1 st35.sub (d := p14.2) t_u8 zba zba t_u8 (p := p) _ zba)<|fun r36 w37 h38 le39 st40 q41=> ?_
     obtain rfl := q41
     exact zt ⟨_, _, rfl, st40, (), congrArg Value.bool g33_r, trivial⟩
    refine zf 9 [0] X t_kr t_kr X X (fun hD wD τD hL hS hO _ _ => (zfv X))<|zbk 10 [0] X t_kr t_kr X X X (fun hD wD τD hL hS hO _ _ => ⟨rfl, (zdp X)⟩)<|zbk 11 [1] X t_kr t_kr X X X (fun hD wD τD hL hS hO _ _ => ⟨rfl, (zZ (hL.sub hS) hc29 X zaI zK X)⟩)<|zbx<|zbx<|zbx<|zbN X X X X X X ⟨t_kr, X, t_kr, X, t_kr, X, X, t_kr, (zbe X (zbe X (zbe X zcl)))⟩<|fun hE43 w44 _ le45 st46 _ _ _ _ _ _=>M X X X ?_
    have hcb : zds p14.2 p word = true := by simp only [zds, hk31]; first | exact g33 | (have q := g33; rw [zhg] at q; exact q)
    have hJc := hJm _ _ _ _ hJ (le28.trans le45)
    have l55 := l34.trans le45
    have hAc : (∃ vs, _ = Value.agg vs.toArray ∧ LDecision.R hE43 vs p14.2) ∧ p14.2 ∈ o.stands.map (·.2) := ⟨⟨_, rfl, LDecision.up (o_f3.2 p14 hpm) l55⟩, List.mem_map_of_mem hpm⟩
    refine zgp rfl rfl rfl rfl rfl (hY _ _ _ _ [o16] rest _ l55 hJc st46 hAc) ?_
    intro yb47 w48 h49 rest50 le51 st52 hj53 hx54
    refine zt ⟨_, rfl, _, _, le51, st52, ?_⟩
    intro hE57 w58 _ le59 st60 _ _
    refine M X X X<|zbQ X X ?_
    refine zt ⟨_, rfl, _, _, Le.refl _, st60, ?_⟩
    intro hE62 w63 _ le64 st65 _ _
    refine zaf (v := (.bool _)) X X X ?_
    refine zt ⟨_, rfl, _, _, Le.refl _, st65, ?_⟩
    intro hE66 w67 _ le68 st69 _ _ _ _ _ _ _ _ _ _ _ _ _ _ _ _ _ _ _ _ _ _ _ _
    refine AllDeps.fin X<|O ?_
    refine zad rfl (fun c71 => ?_) (fun c71 => ?_)
    ·
     refine zB<|zI<|zd<|zI<|ziu Tryz.results226 ?_
     exact ⟨_, _, _, rfl, ((((l55.trans le51).trans le59).trans le64).trans le68), (st69).tl, .inr ⟨_, hJxm _ _ _ _ (hx54 (by simpa using c71)) ((le59.trans le64).trans le68)⟩⟩
    refine zC<|zP<|O ?_
    have l72 := (((l55.trans le51).trans le59).trans le64).trans le68
    refine ⟨⟨dn ++ [p14], rm15, rest50, o16, hE66⟩, trivial, ?_, ⟨l72, st69, ?_, ?_, ?_⟩, ?_⟩
    ·exact zav
    ·exact (hI17.up (((((le28.trans le45).trans le51).trans le59).trans le64).trans le68))
    ·exact zfS hpd hp19
    ·rw [List.map_append, List.filter_append]; simp only [List.map_cons, List.map_nil, List.filter_cons, List.filter_nil]
     rw [if_pos hcb]; exact hJm _ _ _ _ (hj53 (by simpa using c71)) ((le59.trans le64).trans le68)
    show ((rm15)).length < rm.length
    have q := hp19.length_eq; simp only [List.length_cons] at q; omega
   have g33_r := g33
   have l73 := le8.trans le28
   refine zbh (er := ([], [], [], [], 0)) (dsts := [16, 17, 18, 19, 20, 21, 22, 23, 24, 25, 26, 27, 28, 29, 30]) st30 Tryz.mixed<|zf 0 [] X t_kr t_kr X X (fun hD wD τD hL hS hO  => (zL X zi X zbn X))<|zf 1 [0] X t_kr t_kr X X (fun hD wD τD hL hS hO _ _ => (ze (j := 1) (hL.sub hS) hc29 X X X zbG)) ?_
   refine zf 2 [0] rfl t_kr t_kr rfl rfl (fun hD wD τD hL hS hO _ _ => (zdm rfl rfl (show _ = ((1 : Nat) : Int) by rw [hk31]; rfl) rfl zci zce)) ?_
   refine zf 3 [0] X t_kr t_kr X X (fun hD wD τD hL hS hO _ _ => (zL X zag X zeB X))<|zf 4 [0] X t_kr t_kr X X (fun hD wD τD hL hS hO _ _ => (ze (j := 9) (hL.sub hS) (K1.up l73) X X X zfi))<|zf 5 [] X t_kr t_kr X X (fun hD wD τD hL hS hO  => (zZ (hL.sub hS) hc29 X zaI zK X))<|zf 6 [] X t_kr t_kr X X (fun hD wD τD hL hS hO  => (zZ (hL.sub hS) (p_c.up l73) X zaD zO X))<|zf 7 [] X t_kr t_kr X X (fun hD wD τD hL hS hO  => (ze (j := 0) (hL.sub hS) (word_c.up l73) X X X zaw)) ?_
   refine zax 8 (.det (.bool false)) [3, 2, 1, 0] rfl t_kr t_kr ?_ ?_
   ·
    intro hD wD τD hL hS hO _ _ _ _ _ _ _ _
    have st74 := St.start hS
    refine zdg (fs := []) (cs := []) st74 X X X X Tryz.call269 X (c_stem_kinds_1 st74.sub (d := p14.2) t_u8 zba zba t_u8 (p := p) _ zba)<|fun r75 w76 h77 le78 st79 q80=> ?_
    obtain rfl := q80
    exact zt ⟨_, _, rfl, st79, (), congrArg Value.bool g33_r, trivial⟩
   refine zf 9 [0] X t_kr t_kr X X (fun hD wD τD hL hS hO _ _ => (zfv X))<|zaZ 10 [0] X t_kr t_kr X X X X (fun hD wD τD hL hS hO _ _ => X)<|zaZ 11 [1] X t_kr t_kr X X X X (fun hD wD τD hL hS hO _ _ => X)<|zaZ 12 [1, 0, 2] X t_kr t_kr X X X X (fun hD wD τD hL hS hO _ _ _ _ _ _ => X)<|zaZ 13 [0, 3] X t_kr t_kr X X X X (fun hD wD τD hL hS hO _ _ _ _ => X)<|zf 14 [4, 0] X t_kr t_kr X X (fun hD wD τD hL hS hO _ _ _ _ => (zgf (v := (.bool _)) X X))<|zbN X X X X X X ⟨t_kr, X, t_kr, X, t_kr, X, X, t_kr, zcl⟩<|fun hE81 w82 _ le83 st84 _ _ _ _ _ _ _ _ _ _ _ _ _ _ _ _ _ _ _ _ _ _ _ _ _ _ _ _ _ _=>AllDeps.fin X<|O ?_
   refine zad rfl (fun c86 => ?_) (fun c86 => ?_)
   ·
    cases c86
   refine zC<|zP<|O ?_
   have l87 := l73.trans le83
   refine ⟨⟨dn ++ [p14], rm15, rest, o16, hE81⟩, trivial, ?_, ⟨l87, st84, ?_, ?_, ?_⟩, ?_⟩
   ·exact zav
   ·exact (hI17.up (le28.trans le83))
   ·exact zfS hpd hp19
   ·rw [List.map_append, List.filter_append]; simp only [List.map_cons, List.map_nil, List.filter_cons, List.filter_nil]
    rw [if_neg (by simp only [zds, hk31]; first | (simp; done) | (have q := g33; rw [zhg] at q; simpa using q) | (have q := g33; simpa using q))]; rw [List.append_nil]; exact hJm _ _ _ _ hJ (le28.trans le83)
   show ((rm15)).length < rm.length
   have q := hp19.length_eq; simp only [List.length_cons] at q; omega
  ·
   have l88 := le8.trans le28
   rcases Bool.eq_false_or_eq_true (((decide ((p14.2).form = (word)) && decide (ordI (p14.2).at_ (p) ≤ 0)))) with g89 | g89
   ·
    have g89_r := g89
    have l90 := le8.trans le28
    refine zbh (er := ([], [], [], [], 0)) (dsts := [16, 17, 18, 19, 20, 21, 22, 23, 24, 25, 26, 27, 28, 29, 30]) st30 Tryz.mixed<|zf 0 [] X t_kr t_kr X X (fun hD wD τD hL hS hO  => (zL X zi X zbn X))<|zf 1 [0] X t_kr t_kr X X (fun hD wD τD hL hS hO _ _ => (ze (j := 1) (hL.sub hS) hc29 X X X zbG)) ?_
    refine zf 2 [0] rfl t_kr t_kr rfl rfl (fun hD wD τD hL hS hO _ _ => (zdm rfl rfl (show _ = ((2 : Nat) : Int) by rw [hk31]; rfl) rfl zci zce)) ?_
    refine zf 3 [0] X t_kr t_kr X X (fun hD wD τD hL hS hO _ _ => (zL X zag X zeB X))<|zf 4 [0] X t_kr t_kr X X (fun hD wD τD hL hS hO _ _ => (ze (j := 14) (hL.sub hS) (K1.up l90) X X X zfi))<|zf 5 [] X t_kr t_kr X X (fun hD wD τD hL hS hO  => (zZ (hL.sub hS) hc29 X zaI zK X))<|zf 6 [] X t_kr t_kr X X (fun hD wD τD hL hS hO  => (zZ (hL.sub hS) (p_c.up l90) X zaD zO X))<|zf 7 [] X t_kr t_kr X X (fun hD wD τD hL hS hO  => (ze (j := 0) (hL.sub hS) (word_c.up l90) X X X zaw)) ?_
    refine zax 8 (.det (.bool true)) [3, 2, 1, 0] rfl t_kr t_kr ?_ ?_
    ·
     intro hD wD τD hL hS hO _ _ _ _ _ _ _ _
     have st91 := St.start hS
     refine zdg (fs := []) (cs := []) st91 X X X X Tryz.call270 X (c_stem_kinds_2 st91.sub (d := p14.2) t_u8 zba zba t_u8 (p := p) _ zba)<|fun r92 w93 h94 le95 st96 q97=> ?_
     obtain rfl := q97
     exact zt ⟨_, _, rfl, st96, (), congrArg Value.bool g89_r, trivial⟩
    refine zf 9 [0] X t_kr t_kr X X (fun hD wD τD hL hS hO _ _ => (zfv X))<|zbk 10 [0] X t_kr t_kr X X X (fun hD wD τD hL hS hO _ _ => ⟨rfl, (zdp X)⟩)<|zbk 11 [1] X t_kr t_kr X X X (fun hD wD τD hL hS hO _ _ => ⟨rfl, (zZ (hL.sub hS) hc29 X zaI zK X)⟩)<|zbx<|zbx<|zbx<|zbN X X X X X X ⟨t_kr, X, t_kr, X, t_kr, X, X, t_kr, (zbe X (zbe X (zbe X zcl)))⟩<|fun hE99 w100 _ le101 st102 _ _ _ _ _ _=>M X X X ?_
    have hcb : zds p14.2 p word = true := by simp only [zds, hk31]; first | exact g89 | (have q := g89; rw [zhg] at q; exact q)
    have hJc := hJm _ _ _ _ hJ (le28.trans le101)
    have l111 := l90.trans le101
    have hAc : (∃ vs, _ = Value.agg vs.toArray ∧ LDecision.R hE99 vs p14.2) ∧ p14.2 ∈ o.stands.map (·.2) := ⟨⟨_, rfl, LDecision.up (o_f3.2 p14 hpm) l111⟩, List.mem_map_of_mem hpm⟩
    refine zgp rfl rfl rfl rfl rfl (hY _ _ _ _ [o16] rest _ l111 hJc st102 hAc) ?_
    intro yb103 w104 h105 rest106 le107 st108 hj109 hx110
    refine zt ⟨_, rfl, _, _, le107, st108, ?_⟩
    intro hE113 w114 _ le115 st116 _ _
    refine M X X X<|zbQ X X ?_
    refine zt ⟨_, rfl, _, _, Le.refl _, st116, ?_⟩
    intro hE118 w119 _ le120 st121 _ _
    refine zaf (v := (.bool _)) X X X ?_
    refine zt ⟨_, rfl, _, _, Le.refl _, st121, ?_⟩
    intro hE122 w123 _ le124 st125 _ _ _ _ _ _ _ _ _ _ _ _ _ _ _ _ _ _ _ _ _ _ _ _
    refine AllDeps.fin X<|O ?_
    refine zad rfl (fun c127 => ?_) (fun c127 => ?_)
    ·
     refine zB<|zI<|zd<|zI<|ziu Tryz.results226 ?_
     exact ⟨_, _, _, rfl, ((((l111.trans le107).trans le115).trans le120).trans le124), (st125).tl, .inr ⟨_, hJxm _ _ _ _ (hx110 (by simpa using c127)) ((le115.trans le120).trans le124)⟩⟩
    refine zC<|zP<|O ?_
    have l128 := (((l111.trans le107).trans le115).trans le120).trans le124
    refine ⟨⟨dn ++ [p14], rm15, rest106, o16, hE122⟩, trivial, ?_, ⟨l128, st125, ?_, ?_, ?_⟩, ?_⟩
    ·exact zav
    ·exact (hI17.up (((((le28.trans le101).trans le107).trans le115).trans le120).trans le124))
    ·exact zfS hpd hp19
    ·rw [List.map_append, List.filter_append]; simp only [List.map_cons, List.map_nil, List.filter_cons, List.filter_nil]
     rw [if_pos hcb]; exact hJm _ _ _ _ (hj109 (by simpa using c127)) ((le115.trans le120).trans le124)
    show ((rm15)).length < rm.length
    have q := hp19.length_eq; simp only [List.length_cons] at q; omega
   have g89_r := g89
   have l129 := le8.trans le28
   refine zbh (er := ([], [], [], [], 0)) (dsts := [16, 17, 18, 19, 20, 21, 22, 23, 24, 25, 26, 27, 28, 29, 30]) st30 Tryz.mixed<|zf 0 [] X t_kr t_kr X X (fun hD wD τD hL hS hO  => (zL X zi X zbn X))<|zf 1 [0] X t_kr t_kr X X (fun hD wD τD hL hS hO _ _ => (ze (j := 1) (hL.sub hS) hc29 X X X zbG)) ?_
   refine zf 2 [0] rfl t_kr t_kr rfl rfl (fun hD wD τD hL hS hO _ _ => (zdm rfl rfl (show _ = ((2 : Nat) : Int) by rw [hk31]; rfl) rfl zci zce)) ?_
   refine zf 3 [0] X t_kr t_kr X X (fun hD wD τD hL hS hO _ _ => (zL X zag X zeB X))<|zf 4 [0] X t_kr t_kr X X (fun hD wD τD hL hS hO _ _ => (ze (j := 14) (hL.sub hS) (K1.up l129) X X X zfi))<|zf 5 [] X t_kr t_kr X X (fun hD wD τD hL hS hO  => (zZ (hL.sub hS) hc29 X zaI zK X))<|zf 6 [] X t_kr t_kr X X (fun hD wD τD hL hS hO  => (zZ (hL.sub hS) (p_c.up l129) X zaD zO X))<|zf 7 [] X t_kr t_kr X X (fun hD wD τD hL hS hO  => (ze (j := 0) (hL.sub hS) (word_c.up l129) X X X zaw)) ?_
   refine zax 8 (.det (.bool false)) [3, 2, 1, 0] rfl t_kr t_kr ?_ ?_
   ·
    intro hD wD τD hL hS hO _ _ _ _ _ _ _ _
    have st130 := St.start hS
    refine zdg (fs := []) (cs := []) st130 X X X X Tryz.call270 X (c_stem_kinds_2 st130.sub (d := p14.2) t_u8 zba zba t_u8 (p := p) _ zba)<|fun r131 w132 h133 le134 st135 q136=> ?_
    obtain rfl := q136
    exact zt ⟨_, _, rfl, st135, (), congrArg Value.bool g89_r, trivial⟩
   refine zf 9 [0] X t_kr t_kr X X (fun hD wD τD hL hS hO _ _ => (zfv X))<|zaZ 10 [0] X t_kr t_kr X X X X (fun hD wD τD hL hS hO _ _ => X)<|zaZ 11 [1] X t_kr t_kr X X X X (fun hD wD τD hL hS hO _ _ => X)<|zaZ 12 [1, 0, 2] X t_kr t_kr X X X X (fun hD wD τD hL hS hO _ _ _ _ _ _ => X)<|zaZ 13 [0, 3] X t_kr t_kr X X X X (fun hD wD τD hL hS hO _ _ _ _ => X)<|zf 14 [4, 0] X t_kr t_kr X X (fun hD wD τD hL hS hO _ _ _ _ => (zgf (v := (.bool _)) X X))<|zbN X X X X X X ⟨t_kr, X, t_kr, X, t_kr, X, X, t_kr, zcl⟩<|fun hE137 w138 _ le139 st140 _ _ _ _ _ _ _ _ _ _ _ _ _ _ _ _ _ _ _ _ _ _ _ _ _ _ _ _ _ _=>AllDeps.fin X<|O ?_
   refine zad rfl (fun c142 => ?_) (fun c142 => ?_)
   ·
    cases c142
   refine zC<|zP<|O ?_
   have l143 := l129.trans le139
   refine ⟨⟨dn ++ [p14], rm15, rest, o16, hE137⟩, trivial, ?_, ⟨l143, st140, ?_, ?_, ?_⟩, ?_⟩
   ·exact zav
   ·exact (hI17.up (le28.trans le139))
   ·exact zfS hpd hp19
   ·rw [List.map_append, List.filter_append]; simp only [List.map_cons, List.map_nil, List.filter_cons, List.filter_nil]
    rw [if_neg (by simp only [zds, hk31]; first | (simp; done) | (have q := g89; rw [zhg] at q; simpa using q) | (have q := g89; simpa using q))]; rw [List.append_nil]; exact hJm _ _ _ _ hJ (le28.trans le139)
   show ((rm15)).length < rm.length
   have q := hp19.length_eq; simp only [List.length_cons] at q; omega
  ·
   have l144 := le8.trans le28
   rcases Bool.eq_false_or_eq_true ((decide ((p14.2).at_ = (p)))) with g145 | g145
   ·
    have g145_r := g145
    have l146 := le8.trans le28
    refine zbh (er := ([], [], [], [], 0)) (dsts := [16, 17, 18, 19, 20, 21, 22, 23, 24, 25, 26, 27, 28, 29, 30]) st30 Tryz.mixed<|zf 0 [] X t_kr t_kr X X (fun hD wD τD hL hS hO  => (zL X zi X zbn X))<|zf 1 [0] X t_kr t_kr X X (fun hD wD τD hL hS hO _ _ => (ze (j := 1) (hL.sub hS) hc29 X X X zbG)) ?_
    refine zf 2 [0] rfl t_kr t_kr rfl rfl (fun hD wD τD hL hS hO _ _ => (zdm rfl rfl (show _ = ((3 : Nat) : Int) by rw [hk31]; rfl) rfl zci zce)) ?_
    refine zf 3 [0] X t_kr t_kr X X (fun hD wD τD hL hS hO _ _ => (zL X zag X zeB X))<|zf 4 [0] X t_kr t_kr X X (fun hD wD τD hL hS hO _ _ => (ze (j := 19) (hL.sub hS) (K1.up l146) X X X zfi))<|zf 5 [] X t_kr t_kr X X (fun hD wD τD hL hS hO  => (zZ (hL.sub hS) hc29 X zaI zK X))<|zf 6 [] X t_kr t_kr X X (fun hD wD τD hL hS hO  => (zZ (hL.sub hS) (p_c.up l146) X zaD zO X))<|zf 7 [] X t_kr t_kr X X (fun hD wD τD hL hS hO  => (ze (j := 0) (hL.sub hS) (word_c.up l146) X X X zaw)) ?_
    refine zax 8 (.det (.bool true)) [3, 2, 1, 0] rfl t_kr t_kr ?_ ?_
    ·
     intro hD wD τD hL hS hO _ _ _ _ _ _ _ _
     have st147 := St.start hS
     refine zdg (fs := []) (cs := []) st147 X X X X Tryz.call271 X (c_stem_kinds_3 st147.sub (d := p14.2) t_u8 zba zba t_u8 (p := p) _ zba)<|fun r148 w149 h150 le151 st152 q153=> ?_
     obtain rfl := q153
     exact zt ⟨_, _, rfl, st152, (), congrArg Value.bool g145_r, trivial⟩
    refine zf 9 [0] X t_kr t_kr X X (fun hD wD τD hL hS hO _ _ => (zfv X))<|zbk 10 [0] X t_kr t_kr X X X (fun hD wD τD hL hS hO _ _ => ⟨rfl, (zdp X)⟩)<|zbk 11 [1] X t_kr t_kr X X X (fun hD wD τD hL hS hO _ _ => ⟨rfl, (zZ (hL.sub hS) hc29 X zaI zK X)⟩)<|zbx<|zbx<|zbx<|zbN X X X X X X ⟨t_kr, X, t_kr, X, t_kr, X, X, t_kr, (zbe X (zbe X (zbe X zcl)))⟩<|fun hE155 w156 _ le157 st158 _ _ _ _ _ _=>M X X X ?_
    have hcb : zds p14.2 p word = true := by simp only [zds, hk31]; first | exact g145 | (have q := g145; rw [zhg] at q; exact q)
    have hJc := hJm _ _ _ _ hJ (le28.trans le157)
    have l167 := l146.trans le157
    have hAc : (∃ vs, _ = Value.agg vs.toArray ∧ LDecision.R hE155 vs p14.2) ∧ p14.2 ∈ o.stands.map (·.2) := ⟨⟨_, rfl, LDecision.up (o_f3.2 p14 hpm) l167⟩, List.mem_map_of_mem hpm⟩
    refine zgp rfl rfl rfl rfl rfl (hY _ _ _ _ [o16] rest _ l167 hJc st158 hAc) ?_
    intro yb159 w160 h161 rest162 le163 st164 hj165 hx166
    refine zt ⟨_, rfl, _, _, le163, st164, ?_⟩
    intro hE169 w170 _ le171 st172 _ _
    refine M X X X<|zbQ X X ?_
    refine zt ⟨_, rfl, _, _, Le.refl _, st172, ?_⟩
    intro hE174 w175 _ le176 st177 _ _
    refine zaf (v := (.bool _)) X X X ?_
    refine zt ⟨_, rfl, _, _, Le.refl _, st177, ?_⟩
    intro hE178 w179 _ le180 st181 _ _ _ _ _ _ _ _ _ _ _ _ _ _ _ _ _ _ _ _ _ _ _ _
    refine AllDeps.fin X<|O ?_
    refine zad rfl (fun c183 => ?_) (fun c183 => ?_)
    ·
     refine zB<|zI<|zd<|zI<|ziu Tryz.results226 ?_
     exact ⟨_, _, _, rfl, ((((l167.trans le163).trans le171).trans le176).trans le180), (st181).tl, .inr ⟨_, hJxm _ _ _ _ (hx166 (by simpa using c183)) ((le171.trans le176).trans le180)⟩⟩
    refine zC<|zP<|O ?_
    have l184 := (((l167.trans le163).trans le171).trans le176).trans le180
    refine ⟨⟨dn ++ [p14], rm15, rest162, o16, hE178⟩, trivial, ?_, ⟨l184, st181, ?_, ?_, ?_⟩, ?_⟩
    ·exact zav
    ·exact (hI17.up (((((le28.trans le157).trans le163).trans le171).trans le176).trans le180))
    ·exact zfS hpd hp19
    ·rw [List.map_append, List.filter_append]; simp only [List.map_cons, List.map_nil, List.filter_cons, List.filter_nil]
     rw [if_pos hcb]; exact hJm _ _ _ _ (hj165 (by simpa using c183)) ((le171.trans le176).trans le180)
    show ((rm15)).length < rm.length
    have q := hp19.length_eq; simp only [List.length_cons] at q; omega
   have g145_r := g145
   have l185 := le8.trans le28
   refine zbh (er := ([], [], [], [], 0)) (dsts := [16, 17, 18, 19, 20, 21, 22, 23, 24, 25, 26, 27, 28, 29, 30]) st30 Tryz.mixed<|zf 0 [] X t_kr t_kr X X (fun hD wD τD hL hS hO  => (zL X zi X zbn X))<|zf 1 [0] X t_kr t_kr X X (fun hD wD τD hL hS hO _ _ => (ze (j := 1) (hL.sub hS) hc29 X X X zbG)) ?_
   refine zf 2 [0] rfl t_kr t_kr rfl rfl (fun hD wD τD hL hS hO _ _ => (zdm rfl rfl (show _ = ((3 : Nat) : Int) by rw [hk31]; rfl) rfl zci zce)) ?_
   refine zf 3 [0] X t_kr t_kr X X (fun hD wD τD hL hS hO _ _ => (zL X zag X zeB X))<|zf 4 [0] X t_kr t_kr X X (fun hD wD τD hL hS hO _ _ => (ze (j := 19) (hL.sub hS) (K1.up l185) X X X zfi))<|zf 5 [] X t_kr t_kr X X (fun hD wD τD hL hS hO  => (zZ (hL.sub hS) hc29 X zaI zK X))<|zf 6 [] X t_kr t_kr X X (fun hD wD τD hL hS hO  => (zZ (hL.sub hS) (p_c.up l185) X zaD zO X))<|zf 7 [] X t_kr t_kr X X (fun hD wD τD hL hS hO  => (ze (j := 0) (hL.sub hS) (word_c.up l185) X X X zaw)) ?_
   refine zax 8 (.det (.bool false)) [3, 2, 1, 0] rfl t_kr t_kr ?_ ?_
   ·
    intro hD wD τD hL hS hO _ _ _ _ _ _ _ _
    have st186 := St.start hS
    refine zdg (fs := []) (cs := []) st186 X X X X Tryz.call271 X (c_stem_kinds_3 st186.sub (d := p14.2) t_u8 zba zba t_u8 (p := p) _ zba)<|fun r187 w188 h189 le190 st191 q192=> ?_
    obtain rfl := q192
    exact zt ⟨_, _, rfl, st191, (), congrArg Value.bool g145_r, trivial⟩
   refine zf 9 [0] X t_kr t_kr X X (fun hD wD τD hL hS hO _ _ => (zfv X))<|zaZ 10 [0] X t_kr t_kr X X X X (fun hD wD τD hL hS hO _ _ => X)<|zaZ 11 [1] X t_kr t_kr X X X X (fun hD wD τD hL hS hO _ _ => X)<|zaZ 12 [1, 0, 2] X t_kr t_kr X X X X (fun hD wD τD hL hS hO _ _ _ _ _ _ => X)<|zaZ 13 [0, 3] X t_kr t_kr X X X X (fun hD wD τD hL hS hO _ _ _ _ => X)<|zf 14 [4, 0] X t_kr t_kr X X (fun hD wD τD hL hS hO _ _ _ _ => (zgf (v := (.bool _)) X X))<|zbN X X X X X X ⟨t_kr, X, t_kr, X, t_kr, X, X, t_kr, zcl⟩<|fun hE193 w194 _ le195 st196 _ _ _ _ _ _ _ _ _ _ _ _ _ _ _ _ _ _ _ _ _ _ _ _ _ _ _ _ _ _=>AllDeps.fin X<|O ?_
   refine zad rfl (fun c198 => ?_) (fun c198 => ?_)
   ·
    cases c198
   refine zC<|zP<|O ?_
   have l199 := l185.trans le195
   refine ⟨⟨dn ++ [p14], rm15, rest, o16, hE193⟩, trivial, ?_, ⟨l199, st196, ?_, ?_, ?_⟩, ?_⟩
   ·exact zav
   ·exact (hI17.up (le28.trans le195))
   ·exact zfS hpd hp19
   ·rw [List.map_append, List.filter_append]; simp only [List.map_cons, List.map_nil, List.filter_cons, List.filter_nil]
    rw [if_neg (by simp only [zds, hk31]; first | (simp; done) | (have q := g145; rw [zhg] at q; simpa using q) | (have q := g145; simpa using q))]; rw [List.append_nil]; exact hJm _ _ _ _ hJ (le28.trans le195)
   show ((rm15)).length < rm.length
   have q := hp19.length_eq; simp only [List.length_cons] at q; omega
  have l200 := le8.trans le28
  rcases Bool.eq_false_or_eq_true ((false)) with g201 | g201
  ·
   have g201_r := g201
   have l202 := le8.trans le28
   refine zbh (er := ([], [], [], [], 0)) (dsts := [16, 17, 18, 19, 20, 21, 22, 23, 24, 25, 26, 27, 28, 29, 30]) st30 Tryz.mixed<|zf 0 [] X t_kr t_kr X X (fun hD wD τD hL hS hO  => (zL X zi X zbn X))<|zf 1 [0] X t_kr t_kr X X (fun hD wD τD hL hS hO _ _ => (ze (j := 1) (hL.sub hS) hc29 X X X zbG)) ?_
   refine zf 2 [0] rfl t_kr t_kr rfl rfl (fun hD wD τD hL hS hO _ _ => (zdm rfl rfl (show _ = ((4 : Nat) : Int) by rw [hk31]; rfl) rfl zci zce)) ?_
   refine zf 3 [0] X t_kr t_kr X X (fun hD wD τD hL hS hO _ _ => (zL X zag X zeB X))<|zf 4 [0] X t_kr t_kr X X (fun hD wD τD hL hS hO _ _ => (ze (j := 24) (hL.sub hS) (K1.up l202) X X X zfi))<|zf 5 [] X t_kr t_kr X X (fun hD wD τD hL hS hO  => (zZ (hL.sub hS) hc29 X zaI zK X))<|zf 6 [] X t_kr t_kr X X (fun hD wD τD hL hS hO  => (zZ (hL.sub hS) (p_c.up l202) X zaD zO X))<|zf 7 [] X t_kr t_kr X X (fun hD wD τD hL hS hO  => (ze (j := 0) (hL.sub hS) (word_c.up l202) X X X zaw)) ?_
   refine zax 8 (.det (.bool true)) [3, 2, 1, 0] rfl t_kr t_kr ?_ ?_
   ·
    intro hD wD τD hL hS hO _ _ _ _ _ _ _ _
    have st203 := St.start hS
    refine zdg (fs := []) (cs := []) st203 X X X X Tryz.call272 X (c_stem_kinds_4 st203.sub (d := p14.2) t_u8 zba zba t_u8 (p := p) _ zba)<|fun r204 w205 h206 le207 st208 q209=> ?_
    obtain rfl := q209
    exact zt ⟨_, _, rfl, st208, (), congrArg Value.bool g201_r, trivial⟩
   refine zf 9 [0] X t_kr t_kr X X (fun hD wD τD hL hS hO _ _ => (zfv X))<|zbk 10 [0] X t_kr t_kr X X X (fun hD wD τD hL hS hO _ _ => ⟨rfl, (zdp X)⟩)<|zbk 11 [1] X t_kr t_kr X X X (fun hD wD τD hL hS hO _ _ => ⟨rfl, (zZ (hL.sub hS) hc29 X zaI zK X)⟩)<|zbx<|zbx<|zbx<|zbN X X X X X X ⟨t_kr, X, t_kr, X, t_kr, X, X, t_kr, (zbe X (zbe X (zbe X zcl)))⟩<|fun hE211 w212 _ le213 st214 _ _ _ _ _ _=>M X X X ?_
   have hcb : zds p14.2 p word = true := by simp only [zds, hk31]; first | exact g201 | (have q := g201; rw [zhg] at q; exact q)
   have hJc := hJm _ _ _ _ hJ (le28.trans le213)
   have l223 := l202.trans le213
   have hAc : (∃ vs, _ = Value.agg vs.toArray ∧ LDecision.R hE211 vs p14.2) ∧ p14.2 ∈ o.stands.map (·.2) := ⟨⟨_, rfl, LDecision.up (o_f3.2 p14 hpm) l223⟩, List.mem_map_of_mem hpm⟩
   refine zgp rfl rfl rfl rfl rfl (hY _ _ _ _ [o16] rest _ l223 hJc st214 hAc) ?_
   intro yb215 w216 h217 rest218 le219 st220 hj221 hx222
   refine zt ⟨_, rfl, _, _, le219, st220, ?_⟩
   intro hE225 w226 _ le227 st228 _ _
   refine M X X X<|zbQ X X ?_
   refine zt ⟨_, rfl, _, _, Le.refl _, st228, ?_⟩
   intro hE230 w231 _ le232 st233 _ _
   refine zaf (v := (.bool _)) X X X ?_
   refine zt ⟨_, rfl, _, _, Le.refl _, st233, ?_⟩
   intro hE234 w235 _ le236 st237 _ _ _ _ _ _ _ _ _ _ _ _ _ _ _ _ _ _ _ _ _ _ _ _
   refine AllDeps.fin X<|O ?_
   refine zad rfl (fun c239 => ?_) (fun c239 => ?_)
   ·
    refine zB<|zI<|zd<|zI<|ziu Tryz.results226 ?_
    exact ⟨_, _, _, rfl, ((((l223.trans le219).trans le227).trans le232).trans le236), (st237).tl, .inr ⟨_, hJxm _ _ _ _ (hx222 (by simpa using c239)) ((le227.trans le232).trans le236)⟩⟩
   refine zC<|zP<|O ?_
   have l240 := (((l223.trans le219).trans le227).trans le232).trans le236
   refine ⟨⟨dn ++ [p14], rm15, rest218, o16, hE234⟩, trivial, ?_, ⟨l240, st237, ?_, ?_, ?_⟩, ?_⟩
   ·exact zav
   ·exact (hI17.up (((((le28.trans le213).trans le219).trans le227).trans le232).trans le236))
   ·exact zfS hpd hp19
   ·rw [List.map_append, List.filter_append]; simp only [List.map_cons, List.map_nil, List.filter_cons, List.filter_nil]
    rw [if_pos hcb]; exact hJm _ _ _ _ (hj221 (by simpa using c239)) ((le227.trans le232).trans le236)
   show ((rm15)).length < rm.length
   have q := hp19.length_eq; simp only [List.length_cons] at q; omega
  have g201_r := g201
  have l241 := le8.trans le28
  refine zbh (er := ([], [], [], [], 0)) (dsts := [16, 17, 18, 19, 20, 21, 22, 23, 24, 25, 26, 27, 28, 29, 30]) st30 Tryz.mixed<|zf 0 [] X t_kr t_kr X X (fun hD wD τD hL hS hO  => (zL X zi X zbn X))<|zf 1 [0] X t_kr t_kr X X (fun hD wD τD hL hS hO _ _ => (ze (j := 1) (hL.sub hS) hc29 X X X zbG)) ?_
  refine zf 2 [0] rfl t_kr t_kr rfl rfl (fun hD wD τD hL hS hO _ _ => (zdm rfl rfl (show _ = ((4 : Nat) : Int) by rw [hk31]; rfl) rfl zci zce)) ?_
  refine zf 3 [0] X t_kr t_kr X X (fun hD wD τD hL hS hO _ _ => (zL X zag X zeB X))<|zf 4 [0] X t_kr t_kr X X (fun hD wD τD hL hS hO _ _ => (ze (j := 24) (hL.sub hS) (K1.up l241) X X X zfi))<|zf 5 [] X t_kr t_kr X X (fun hD wD τD hL hS hO  => (zZ (hL.sub hS) hc29 X zaI zK X))<|zf 6 [] X t_kr t_kr X X (fun hD wD τD hL hS hO  => (zZ (hL.sub hS) (p_c.up l241) X zaD zO X))<|zf 7 [] X t_kr t_kr X X (fun hD wD τD hL hS hO  => (ze (j := 0) (hL.sub hS) (word_c.up l241) X X X zaw)) ?_
  refine zax 8 (.det (.bool false)) [3, 2, 1, 0] rfl t_kr t_kr ?_ ?_
  ·
   intro hD wD τD hL hS hO _ _ _ _ _ _ _ _
   have st242 := St.start hS
   refine zdg (fs := []) (cs := []) st242 X X X X Tryz.call272 X (c_stem_kinds_4 st242.sub (d := p14.2) t_u8 zba zba t_u8 (p := p) _ zba)<|fun r243 w244 h245 le246 st247 q248=> ?_
   obtain rfl := q248
   exact zt ⟨_, _, rfl, st247, (), congrArg Value.bool g201_r, trivial⟩
  refine zf 9 [0] X t_kr t_kr X X (fun hD wD τD hL hS hO _ _ => (zfv X))<|zaZ 10 [0] X t_kr t_kr X X X X (fun hD wD τD hL hS hO _ _ => X)<|zaZ 11 [1] X t_kr t_kr X X X X (fun hD wD τD hL hS hO _ _ => X)<|zaZ 12 [1, 0, 2] X t_kr t_kr X X X X (fun hD wD τD hL hS hO _ _ _ _ _ _ => X)<|zaZ 13 [0, 3] X t_kr t_kr X X X X (fun hD wD τD hL hS hO _ _ _ _ => X)<|zf 14 [4, 0] X t_kr t_kr X X (fun hD wD τD hL hS hO _ _ _ _ => (zgf (v := (.bool _)) X X))<|zbN X X X X X X ⟨t_kr, X, t_kr, X, t_kr, X, X, t_kr, zcl⟩<|fun hE249 w250 _ le251 st252 _ _ _ _ _ _ _ _ _ _ _ _ _ _ _ _ _ _ _ _ _ _ _ _ _ _ _ _ _ _=>AllDeps.fin X<|O ?_
  refine zad rfl (fun c254 => ?_) (fun c254 => ?_)
  ·
   cases c254
  refine zC<|zP<|O ?_
  have l255 := l241.trans le251
  refine ⟨⟨dn ++ [p14], rm15, rest, o16, hE249⟩, trivial, ?_, ⟨l255, st252, ?_, ?_, ?_⟩, ?_⟩
  ·exact zav
  ·exact (hI17.up (le28.trans le251))
  ·exact zfS hpd hp19
  ·rw [List.map_append, List.filter_append]; simp only [List.map_cons, List.map_nil, List.filter_cons, List.filter_nil]
   rw [if_neg (by simp only [zds, hk31]; first | (simp; done) | (have q := g201; rw [zhg] at q; simpa using q) | (have q := g201; simpa using q))]; rw [List.append_nil]; exact hJm _ _ _ _ hJ (le28.trans le251)
  show ((rm15)).length < rm.length
  have q := hp19.length_eq; simp only [List.length_cons] at q; omega
 cases c24
end Go.Pk

namespace Go.Pk
open Go Go.RowKit Go.Proofs
theorem zib {h : Heap} {w : World} (hs : Sub h w) {o_b : Nat} {o : Office} {o_v0 : Value} (o_f0 : Sl LRule h o_v0 o.lex.rules) {o_v1 : Value} (o_f1 : Sl LDecision h o_v1 o.lex.decisions) {o_v2 : Value} (o_f2 : Sl LChapter h o_v2 o.text.chapters) {o_v3 : Value} (o_f3 : FML (fun n : Int => .int .i64 n) (fun x : Decision => [.int .i64 x.number, .int .u8 x.kind, strV x.form, .int .i64 x.at_.chapter, .int .i64 x.at_.line, .int .i64 x.at_.word, strV x.to.stem, .int .u8 x.to.mark, .int .i64 x.of_]) LDecision h o.stands o_v3) (o_c : Cells h o_b 0 [o_v0, o_v1, o_v2, o_v3]) {p : Place} (word : Str) (word_le : word.length ≤ 281474976710656) : Calls Tryz.prog 193 #[.pointer (some ⟨o_b, 0, none⟩), .agg #[.int .i64 p.chapter, .int .i64 p.line, .int .i64 p.word], strV word] w (fun e_ w' => ∃ h' bo bp bw, e_ = .returned (.func (.func 226) #[] #[.pointer (some ⟨bo, 0, none⟩), .pointer (some ⟨bp, 0, none⟩), .pointer (some ⟨bw, 0, none⟩)]) ∧ Le h h' ∧ St h w h' w' [] ∧ Cells h' bo 0 [.pointer (some ⟨o_b, 0, none⟩)] ∧ Cells h' bp 0 [.int .i64 p.chapter, .int .i64 p.line, .int .i64 p.word] ∧ Cells h' bw 0 [strV word]) := by
 refine zS (n := 8) Tryz.func193 X X X<|have st0:=t_s0 hs;have o_f0_b:=o_f0.le;have o_f1_b:=o_f1.le;have o_f2_b:=o_f2.le;W.sr<|zG st0 (cs := [.pointer (some ⟨o_b, 0, none⟩)]) X X X<|fun b1 w2 h3 le4 hc5 st6=>zG st6 (cs := [.int .i64 (p.chapter), .int .i64 (p.line), .int .i64 (p.word)]) X X X<|fun b7 w8 h9 le10 hc11 st12=>zG st12 (cs := [strV word]) X X X<|fun b13 w14 h15 le16 hc17 st18=>zaj X X<|Y<|W.sr<|zdl X X X<|zq X X (r_asF X)<|Y<|zB<|zc Tryz.results193 ?_
 exact ⟨h15, _, _, _, rfl, ((le4.trans le10).trans le16), st18, (hc5.up (le10.trans le16)), (hc11.up le16), hc17⟩
theorem zhA {h : Heap} {w : World} (hs : Sub h w) {o_b : Nat} {o : Office} {o_v0 : Value} (o_f0 : Sl LRule h o_v0 o.lex.rules) {o_v1 : Value} (o_f1 : Sl LDecision h o_v1 o.lex.decisions) {o_v2 : Value} (o_f2 : Sl LChapter h o_v2 o.text.chapters) {o_v3 : Value} (o_f3 : FML (fun n : Int => .int .i64 n) (fun x : Decision => [.int .i64 x.number, .int .u8 x.kind, strV x.form, .int .i64 x.at_.chapter, .int .i64 x.at_.line, .int .i64 x.at_.word, strV x.to.stem, .int .u8 x.to.mark, .int .i64 x.of_]) LDecision h o.stands o_v3) (o_c : Cells h o_b 0 [o_v0, o_v1, o_v2, o_v3]) {p : Place} (K1 : Cells h 1 0 Tryz.glob1) (ho : OkO o) (hp : zbB o.text p = true) : Calls Tryz.prog 150 #[.pointer (some ⟨o_b, 0, none⟩), .agg #[.int .i64 p.chapter, .int .i64 p.line, .int .i64 p.word]] w (Rets h w (fun _ _ res_ => res_ = .agg #[.int .i64 ((winD o.lex p (zbC o.text p))).number, .int .u8 ((winD o.lex p (zbC o.text p))).kind, strV ((winD o.lex p (zbC o.text p))).form, .int .i64 ((winD o.lex p (zbC o.text p))).at_.chapter, .int .i64 ((winD o.lex p (zbC o.text p))).at_.line, .int .i64 ((winD o.lex p (zbC o.text p))).at_.word, strV ((winD o.lex p (zbC o.text p))).to.stem, .int .u8 ((winD o.lex p (zbC o.text p))).to.mark, .int .i64 ((winD o.lex p (zbC o.text p))).of_])) := by
 refine V.calls (n := 57) Tryz.func150 X X X ?_
 have st0 := t_s0 hs
 have o_f0_b := o_f0.le
 have o_f1_b := o_f1.le
 have o_f2_b := o_f2.le
 obtain ⟨c, ln, wd, hpc, hc, hpl, hln, hpw, hwd, hwe⟩ := place_at hp
 have hw12 := wordD_len (zcx ho.1) hp
 rw [hwe] at hw12
 have hk4 : ∀ q ∈ o.stands, 1 ≤ q.2.kind ∧ q.2.kind ≤ 4 := fun q hq => (standM_ok ho.1 (ho.2 ▸ hq)).2.2.2
 have hDO : ∀ d ∈ o.stands.map (·.2), (0 ≤ d.number ∧ d.number ≤ 999) ∧ (0 ≤ d.kind ∧ d.kind ≤ 255) ∧ d.form.length ≤ 281474976710656 ∧ d.to.stem.length ≤ 281474976710656 ∧ (0 ≤ d.to.mark ∧ d.to.mark ≤ 255) := by
  intro d hd
  obtain ⟨q, hq, rfl⟩ := List.mem_map.1 hd
  have q1 := standM_ok ho.1 (ho.2 ▸ hq)
  obtain ⟨_, q2, q3, q4, q5⟩ := o_f3.2 q hq
  exact ⟨⟨by omega, by omega⟩, q2, q3, q4, q5⟩
 refine zhJ<|zdx X<|zG st0 (cs := [.int .i64 (p.chapter), .int .i64 (p.line), .int .i64 (p.word)]) X X X<|fun b1 w2 h3 le4 hc5 st6=>zae st6 zbD X X<|fun b7 w8 st9=>zt<|zcO<|zhJ<|V.ofW<|zbj Tryz.mixed t_kr (Cls h3 _) (Cls.drew st9)<|u_mvP X X<|zl X X (fun _ _ => (zdv X))<|zD X zdE X zac X X<|zD X zaF X zbi X X<|zl X X (fun _ hC => (ze (j := 2) hC.sub (o_c.up le4) X X X zby))<|zD X zan X zr X X<|zl X X (fun _ hC => (ze (j := 0) hC.sub hc5 X X X zN)) ?_
 obtain ⟨b10, o11, _, he13, hc12, hr_c⟩ := Sl.elem (o_f2.up le4) hc
 obtain ⟨v14, rfl, f15⟩ := hr_c
 have f15_b := f15.le
 refine zl rfl rfl (fun _ _ => (zao he13 rfl rfl (hk := (show _ = ((p.chapter.toNat : Nat) : Int) by omega)) (hu := zay) (hz := zbg))) ?_
 refine zD X zal X zbq X X<|zl X X (fun _ hC => (ze (j := 1) hC.sub hc12 X X X zbH))<|zD X zan X zr X X<|zl X X (fun _ hC => (ze (j := 1) hC.sub hc5 X X X zN)) ?_
 obtain ⟨b16, o17, _, he19, hc18, hr_ln⟩ := Sl.elem f15 hln
 obtain ⟨v20, rfl, f21⟩ := hr_ln
 have f21_b := f21.le
 refine zl rfl rfl (fun _ _ => (zao he19 rfl rfl (hk := (show _ = ((p.line.toNat : Nat) : Int) by omega)) (hu := zaH) (hz := zcV))) ?_
 refine zl X X (fun _ hC => (ze (j := 0) hC.sub hc18 X X X zdk))<|zD X zan X zr X X<|zl X X (fun _ hC => (ze (j := 2) hC.sub hc5 X X X zN)) ?_
 obtain ⟨b22, o23, _, he25, hc24, hr_wd⟩ := Sl.elem f21 hwd
 obtain ⟨rfl, ls26⟩ := hr_wd
 simp only [big] at ls26
 refine zl rfl rfl (fun _ _ => (zao he25 rfl rfl (hk := (show _ = ((p.word.toNat : Nat) : Int) by omega)) (hu := zA) (hz := zW))) ?_
 refine zl X X (fun _ hC => (ze (j := 0) hC.sub hc24 X X X zaw))<|u_asS X X<|zaN ?_
 rintro w27 ⟨h28, s29⟩
 have st30 := st9.call0 s29
 refine zcO<|zhJ<|zdx X<|zae st30 zbD X X<|fun b31 w32 st33=>zt<|zcO<|zhJ<|zhJ<|zdx X<|v_mvP X X<|zy st33.sub (hc5.up s29.le) X zaD zO X X<|zbX X X ?_
 refine zaT rfl rfl (zbc rfl Tryz.call193 rfl) ((zib st33.sub (o := o) (o_f0.up (le4.trans s29.le)) (o_f1.up (le4.trans s29.le)) (o_f2.up (le4.trans s29.le)) (o_f3.up (le4.trans s29.le)) (o_c.up (le4.trans s29.le)) (p := p) _ zba).mono ?_)
 rintro _ w34 ⟨h35, bo36, bp37, bw38, rfl, le39, s40, hc41, hc42, hc43⟩
 refine ⟨_, rfl, ?_⟩
 have st44 := st33.call s40
 have st45 : St h w h35 w34 [[(b7, .cells (List.toArray [.int .i64 0, .int .u8 0, strV [], .int .i64 0, .int .i64 0, .int .i64 0, strV [], .int .u8 0, .int .i64 0]) 74)], [(b31, .cells (List.toArray [.int .i64 0, .int .u8 0, strV [], .int .i64 0, .int .i64 0, .int .i64 0, strV [], .int .u8 0, .int .i64 0]) 74)]] := by rw [List.append_nil] at st44; exact st44
 refine zt<|zcO<|V.block ?_
 have l46 := (le4.trans s29.le).trans le39
 have seq47 : Gives Tryz.prog 226 [.pointer (some ⟨bo36, 0, none⟩), .pointer (some ⟨bp37, 0, none⟩), .pointer (some ⟨bw38, 0, none⟩)] (fun h_ u_ x_ => (∃ vs, u_ = .agg vs.toArray ∧ LDecision.R h_ vs x_) ∧ x_ ∈ o.stands.map (·.2)) (fun xs_ => ∃ dn : List (Int × Decision), dn.Perm o.stands ∧ xs_ = (dn.map (·.2)).filter fun d => zds d p wd) h w h35 := by
  intro l_ J_ Jx_ hm_ hxm_ hY_ h1_ w1_ rest_ le_ hJ_ st_
  exact zhB (o := o) ((o_f0.up l46).up le_) ((o_f1.up l46).up le_) ((o_f2.up l46).up le_) ((o_f3.up l46).up le_) ((o_c.up l46).up le_) (hc41.up le_) (p := p) (hc42.up le_) (word := wd) (by assumption) (hc43.up le_) hm_ hxm_ hJ_ (fun _ _ _ _ _ _ _ l2_ a_ b_ c_ => hY_ _ _ _ _ _ _ _ (le_.trans l2_) a_ b_ c_) ((K1.up l46).up le_) (by exact hk4) st_
 refine V.rangeFunc (I := fun xs _ own_ => own_ = [[(b7, .cells (List.toArray [.int .i64 0, .int .u8 0, strV [], .int .i64 0, .int .i64 0, .int .i64 0, strV [], .int .u8 0, .int .i64 0]) 74)], [(b31, .cells (List.toArray [.int .i64 ((zaW xs).number), .int .u8 ((zaW xs).kind), strV ((zaW xs).form), .int .i64 ((zaW xs).at_.chapter), .int .i64 ((zaW xs).at_.line), .int .i64 ((zaW xs).at_.word), strV ((zaW xs).to.stem), .int .u8 ((zaW xs).to.mark), .int .i64 ((zaW xs).of_)]) 74)]] ∧ ∀ y ∈ xs, y ∈ o.stands.map (·.2)) (Ix := fun _ _ _ _ => False) st45 rfl Tryz.call226 rfl seq47 (by rintro _ _ _ _ h_ _; exact h_) (by intro _ _ _ _ _ h_ _; exact h_) ⟨rfl, by simp⟩ ?_ ?_ ?_
 ·rintro l_ pre x h48 w49 _ tail u50 le51 ⟨rfl, hi53⟩ st52 hA54
  obtain ⟨⟨_, rfl, hR_⟩, hxm⟩ := hA54
  obtain ⟨rfl, lu55, ls56, ls57, lu58⟩ := hR_
  simp only [big] at ls56
  simp only [big] at ls57
  have hDx := hDO _ hxm
  have hDb : (0 ≤ (zaW pre).number ∧ (zaW pre).number ≤ 999) ∧ (0 ≤ (zaW pre).kind ∧ (zaW pre).kind ≤ 255) ∧ (zaW pre).form.length ≤ 281474976710656 ∧ (zaW pre).to.stem.length ≤ 281474976710656 ∧ (0 ≤ (zaW pre).to.mark ∧ (zaW pre).to.mark ≤ 255) := best_ok (p := fun d => (0 ≤ d.number ∧ d.number ≤ 999) ∧ (0 ≤ d.kind ∧ d.kind ≤ 255) ∧ d.form.length ≤ 281474976710656 ∧ d.to.stem.length ≤ 281474976710656 ∧ (0 ≤ d.to.mark ∧ d.to.mark ≤ 255)) (by decide) (fun y hy => hDO y (hi53 y hy))
  obtain ⟨hDb1, hDb2, hDb3, hDb4, hDb5⟩ := id hDb
  refine zdx X<|ziP st52 zbD X X X (us := [.int .i64 (x.number), .int .u8 (x.kind), strV (x.form), .int .i64 (x.at_.chapter), .int .i64 (x.at_.line), .int .i64 (x.at_.word), strV (x.to.stem), .int .u8 (x.to.mark), .int .i64 (x.of_)]) (fun _ => X) (za X (za X (za X (za X (za X (za X (za X (za X (za X zap))))))))) zK X<|fun b59 w60 h61 le62 hc63 st64=>zt ?_
  refine APost.mk (own2 := [[(b7, .cells (List.toArray [.int .i64 0, .int .u8 0, strV [], .int .i64 0, .int .i64 0, .int .i64 0, strV [], .int .u8 0, .int .i64 0]) 74)], [(b31, .cells (List.toArray [.int .i64 ((zaW pre).number), .int .u8 ((zaW pre).kind), strV ((zaW pre).form), .int .i64 ((zaW pre).at_.chapter), .int .i64 ((zaW pre).at_.line), .int .i64 ((zaW pre).at_.word), strV ((zaW pre).to.stem), .int .u8 ((zaW pre).to.mark), .int .i64 ((zaW pre).of_)]) 74)]]) le62 st64 ?_
  intro tail67 w66 st65
  refine V.block<|zhJ<|zdx X<|U X zi X zr X X<|zcp (st65.get (k := 1) X) X X zN X<|zee X X X<|zai X X ?_
  refine zaB (d := 35) rfl (fun g68 => ?_) (fun g68 => ?_)
  ·
   refine Z X X X X X<|Z X X X X X<|Z X X X X X<|Z X X X X X<|zaf (v := (.bool _)) X X X<|zt<|zcO ?_
   refine V.cond rfl (fun c69 => ?_) (fun c69 => ?_)
   ·
    refine zdx X<|zy st65.sub hc63 X zaI zK X X<|zM st65 (k := 1) X X X (za X (za X (za X (za X (za X (za X (za X (za X (za X zap))))))))) zK X X X<|fun w70 st71=>zt<|zhn ?_
    refine ziO (own3 := [[(b7, .cells (List.toArray [.int .i64 0, .int .u8 0, strV [], .int .i64 0, .int .i64 0, .int .i64 0, strV [], .int .u8 0, .int .i64 0]) 74)], [(b31, .cells (List.toArray [.int .i64 (x.number), .int .u8 (x.kind), strV (x.form), .int .i64 (x.at_.chapter), .int .i64 (x.at_.line), .int .i64 (x.at_.word), strV (x.to.stem), .int .u8 (x.to.mark), .int .i64 (x.of_)]) 74)]]) (Le.refl _) st71 ⟨?_, ?_⟩
    ·rw [zfg, zgn, if_pos (.inl g68)]
    ·intro y hy; rcases List.mem_append.1 hy with q | q; exact hi53 y q; (simp at q; rw [q]; exact hxm)
   ·
    cases c69
  ·
   refine M X X X<|zy st65.sub hc63 X zaI zK X X<|M X X X<|zcd (st65.get (k := 1) X) X zaI zK X X<|M X X X ?_
   refine zn st65 rfl rfl rfl Tryz.call194 rfl (c_stem_first st65.sub (a := x) t_u8 zba zba t_u8 (b := (zaW pre)) t_u8 zba zba t_u8 (by exact hDx.1) (by exact hDb.1)) ?_
   intro r72 w73 h74 le75 st76 q77
   obtain rfl := q77
   refine M X X X<|zdr X X X<|zX (v := (.bool _)) X X X<|zt<|zcO ?_
   refine V.cond rfl (fun c78 => ?_) (fun c78 => ?_)
   ·
    replace c78 := t_ot c78
    refine zdx X<|zy st76.sub (hc63.up le75) X zaI zK X X<|zM st76 (k := 1) X X X (za X (za X (za X (za X (za X (za X (za X (za X (za X zap))))))))) zK X X X<|fun w79 st80=>zt<|zhn ?_
    refine ziO (own3 := [[(b7, .cells (List.toArray [.int .i64 0, .int .u8 0, strV [], .int .i64 0, .int .i64 0, .int .i64 0, strV [], .int .u8 0, .int .i64 0]) 74)], [(b31, .cells (List.toArray [.int .i64 (x.number), .int .u8 (x.kind), strV (x.form), .int .i64 (x.at_.chapter), .int .i64 (x.at_.line), .int .i64 (x.at_.word), strV (x.to.stem), .int .u8 (x.to.mark), .int .i64 (x.of_)]) 74)]]) le75 st80 ⟨?_, ?_⟩
    ·rw [zfg, zgn, if_pos (.inr c78)]
    ·intro y hy; rcases List.mem_append.1 hy with q | q; exact hi53 y q; (simp at q; rw [q]; exact hxm)
   ·
    replace c78 := t_of c78
    refine V.skip<|zhn ?_
    refine ziO (own3 := [[(b7, .cells (List.toArray [.int .i64 0, .int .u8 0, strV [], .int .i64 0, .int .i64 0, .int .i64 0, strV [], .int .u8 0, .int .i64 0]) 74)], [(b31, .cells (List.toArray [.int .i64 ((zaW pre).number), .int .u8 ((zaW pre).kind), strV ((zaW pre).form), .int .i64 ((zaW pre).at_.chapter), .int .i64 ((zaW pre).at_.line), .int .i64 ((zaW pre).at_.word), strV ((zaW pre).to.stem), .int .u8 ((zaW pre).to.mark), .int .i64 ((zaW pre).of_)]) 74)]]) le75 st76 ⟨?_, ?_⟩
    ·rw [zfg, zgn, if_neg (by intro q; rcases q with q | q; exact g68 q; exact c78 q)]
    ·intro y hy; rcases List.mem_append.1 hy with q | q; exact hi53 y q; (simp at q; rw [q]; exact hxm)
 ·rintro D81 xs h82 w83 _ le84 hS85 ⟨rfl, hi86⟩ st87
  have hbe : zaW xs = zaW (conD o.lex p wd) := by
   obtain ⟨dn, q1, q2⟩ := hS85
   rw [q2]; exact conD_perm (okO_d ho) (ho.2 ▸ q1)
  have hDb := best_ok (p := fun d => (0 ≤ d.number ∧ d.number ≤ 999) ∧ (0 ≤ d.kind ∧ d.kind ≤ 255) ∧ d.form.length ≤ 281474976710656 ∧ d.to.stem.length ≤ 281474976710656 ∧ (0 ≤ d.to.mark ∧ d.to.mark ≤ 255)) (by decide) (fun y hy => hDO y (hi86 y hy))
  obtain ⟨hDb1, hDb2, hDb3, hDb4, hDb5⟩ := hDb
  have hzz : (zaW xs).number = 0 → zaW xs = zbf := bestOf_zero (fun y hy => by have := hi86 y hy; obtain ⟨q, hq, rfl⟩ := List.mem_map.1 this; exact (standM_ok ho.1 (ho.2 ▸ hq)).2.1)
  refine zhn<|zcO<|zhJ<|zhJ<|zdx X<|U X zi X zr X X<|zcp (st87.get (k := 1) X) X X zN X<|zee X X X<|zt<|zcO ?_
  refine V.cond rfl (fun c88 => ?_) (fun c88 => ?_)
  ·
   replace c88 := t_ot c88
   refine zhJ<|zdx X<|v_mvP X X<|zbX X X ?_
   have l89 := l46.trans le84
   refine zn st87 rfl rfl rfl Tryz.call195 rfl (c_stem_office_steps st87.sub (o := o) (o_f0.up l89) (o_f1.up l89) (o_f2.up l89) (o_f3.up l89) (o_c.up l89) _ zba (by exact hw12)) ?_
   intro r90 w91 h92 le93 st94 q95
   obtain ⟨v96, e98, f97⟩ := q95
   rw [← e98] at f97
   have f97_b := f97.le
   refine zaj (v := r90) X X<|zt<|zcO<|zdx X<|zaa (v := r90) X X<|zaa (v := r90) X X<|zaJ f97 X zA X ?_
   refine zq rfl rfl (r_sub rfl rfl (by have := List.length_pos_iff.2 (zhj o.lex.rules 4 wd); omega)) ?_
   obtain ⟨lst, hlst⟩ : ∃ y_, (zcZ (o).lex.rules 4 (wd))[(zcZ o.lex.rules 4 wd).length - 1]? = some y_ := t_ge (by have := List.length_pos_iff.2 (zhj o.lex.rules 4 wd); omega)
   obtain ⟨b99, o100, _, he102, hc101, hr_lst⟩ := Sl.elem f97 hlst
   obtain ⟨rfl, ls103⟩ := hr_lst
   simp only [big] at ls103
   refine zq rfl rfl (zao he102 rfl rfl (hk := (show _ = (((zcZ o.lex.rules 4 wd).length - 1 : Nat) : Int) by have := List.length_pos_iff.2 (zhj o.lex.rules 4 wd); omega)) (hu := zA) (hz := zW)) ?_
   refine E (j := 0) st94.sub hc101 X X X zaw X<|U X zi X zT X X<|U X zbw X zW X X<|zbR st94 (k := 1) X X X X zW X X X<|fun w104 st105=>zt<|zcO<|zhJ<|zdx X<|zcd (st105.get (k := 1) X) X zaI zK X X<|zM st105 (k := 0) X X X (za X (za X (za X (za X (za X (za X (za X (za X (za X zap))))))))) zK X X X<|fun w106 st107=> ?_
   obtain ⟨h108, le109, hb110, st112⟩ := st107.freeze (k := 0) rfl
   have hc111 := Cells.of hb110
   refine zt<|zcO<|V.ret<|PostV.one (own := [[], [(b31, .cells (List.toArray [.int .i64 ((zaW xs).number), .int .u8 ((zaW xs).kind), strV ((zaW xs).form), .int .i64 ((zaW xs).at_.chapter), .int .i64 ((zaW xs).at_.line), .int .i64 ((zaW xs).at_.word), strV lst, .int .u8 ((zaW xs).to.mark), .int .i64 ((zaW xs).of_)]) 74)]]) st112<|fun w114 st113=>zeT Tryz.results150 X zaI zK X st113.sub hc111 ?_
   refine ⟨h108, _, rfl, st113.done, ?_⟩
   refine ?_
   rw [hwe, winD, ← hbe]
   (rw [if_pos (by simpa using c88), hzz (by simpa using c88), List.getLast?_eq_getElem?, hlst] <;> rfl)
  ·
   replace c88 := t_of c88
   refine V.skip<|zcO<|zhJ<|zdx X<|zcd (st87.get (k := 1) X) X zaI zK X X<|zM st87 (k := 0) X X X (za X (za X (za X (za X (za X (za X (za X (za X (za X zap))))))))) zK X X X<|fun w115 st116=> ?_
   obtain ⟨h117, le118, hb119, st121⟩ := st116.freeze (k := 0) rfl
   have hc120 := Cells.of hb119
   refine zt<|zcO<|V.ret<|PostV.one (own := [[], [(b31, .cells (List.toArray [.int .i64 ((zaW xs).number), .int .u8 ((zaW xs).kind), strV ((zaW xs).form), .int .i64 ((zaW xs).at_.chapter), .int .i64 ((zaW xs).at_.line), .int .i64 ((zaW xs).at_.word), strV ((zaW xs).to.stem), .int .u8 ((zaW xs).to.mark), .int .i64 ((zaW xs).of_)]) 74)]]) st121<|fun w123 st122=>zeT Tryz.results150 X zaI zK X st122.sub hc120 ?_
   refine ⟨h117, _, rfl, st122.done, ?_⟩
   refine ?_
   rw [hwe, winD, ← hbe]
   (rw [if_neg (by simpa using c88)] <;> rfl)
 intro _ _ _ _ _ _ _ hf_; exact hf_.elim
end Go.Pk

namespace Go.Pk
open Go Go.RowKit Go.Proofs
theorem zhU {h : Heap} {w : World} (hs : Sub h w) {t : Text} {t_v0 : Value} (t_f0 : Sl LChapter h t_v0 t.chapters) (ht : zbu t = true) : Calls Tryz.prog 124 #[.agg #[t_v0]] w (Rets h w (fun h' _ res_ => ∃ u0, res_ = u0 ∧ Sl LPlace h' u0 ((zcj t)))) := by
 refine zS (n := 47) Tryz.func124 X X X<|have st0:=t_s0 hs;have t_f0_b:=t_f0.le;W.sr<|zG st0 (cs := [t_v0]) X X X<|fun b1 w2 h3 le4 hc5 st6=>zcz X X<|Y<|W.sr<|zcz X X<|Y<|zj<|W.sr<|zz X X<|Y<|zF ?_
 have st10 := st6.snoc
 have f11 := OSl.nil LPlace 70 h3
 refine zat (t_rg 3 43) (G := Nat × Value × List (Nat × Obj) × Heap) (fun ⟨i, v_3, o_3, h7⟩ => [(3, v_3), (4, .int .i64 (i : Int))]) (fun ⟨i, v_3, o_3, h7⟩ w' => Le h3 h7 ∧ St h w h7 w' [o_3] ∧ (OSl LPlace 70 h7 v_3 ((List.range i).flatMap (chapP t)) o_3) ∧ (i ≤ t.chapters.length)) (fun ⟨i, v_3, o_3, h7⟩ => t.chapters.length - i) ⟨0, (.slice none 0 0), [], h3⟩ ⟨rfl, rfl, trivial⟩ ⟨Le.refl _, st10, (OSl.to f11 (by rfl)), zaM⟩ ?_
 rintro ⟨i, v_3, o_3, h7⟩ _ w12 ⟨le8, st9, hO_3, hi⟩
 refine zj<|W.sr<|zk X X<|U X zaF X zbi X X<|E (j := 0) st9.sub (hc5.up le8) X X X zby X<|have l13:=le4.trans le8;zaJ (t_f0.up l13) X zay X<|zaV X X X<|Y ?_
 refine zH rfl (fun c14 => ?_) (fun c14 => ?_)
 ·
  refine zC<|O<|zj<|zF<|zj ?_
  obtain ⟨c, hc⟩ : ∃ y, (t.chapters)[i]? = some y := ⟨_, List.getElem?_eq_getElem (by omega)⟩
  refine zo<|zz X X<|Y<|zF ?_
  refine zat ([3, 5, 6] ++ t_rg 14 32) (G := Nat × Value × List (Nat × Obj) × Heap) (fun ⟨n, v_3, o_3, h15⟩ => [(3, v_3), (5, .int .i64 (n : Int))]) (fun ⟨n, v_3, o_3, h15⟩ w' => Le h7 h15 ∧ St h w h15 w' [o_3] ∧ (OSl LPlace 70 h15 v_3 ((List.range i).flatMap (chapP t) ++ (List.range n).flatMap (lineP t i)) o_3) ∧ (n ≤ c.lines.length)) (fun ⟨n, v_3, o_3, h15⟩ => c.lines.length - n) ⟨0, v_3, o_3, h7⟩ ⟨rfl, rfl, trivial⟩ ⟨Le.refl _, st9, (OSl.to hO_3 (by simp)), zaM⟩ ?_
  rintro ⟨n, v_3, o_3, h15⟩ _ w18 ⟨le16, st17, hO_3, hn⟩
  refine zj<|W.sr<|zk X X<|U X zaF X zbi X X<|E (j := 0) st17.sub (hc5.up (le8.trans le16)) X X X zby X<|zk X X ?_
  have l23 := l13.trans le16
  obtain ⟨b19, o20, _, he22, hc21, hr_c⟩ := Sl.elem (t_f0.up l23) hc
  obtain ⟨v24, rfl, f25⟩ := hr_c
  have f25_b := f25.le
  refine zV he22 X X (hk := X) (hu := zay) (hz := zbg) X<|U X zal X zbq X X<|E (j := 1) st17.sub hc21 X X X zbH X<|zaJ f25 X zaH X<|zaV X X X<|Y ?_
  refine zH rfl (fun c26 => ?_) (fun c26 => ?_)
  ·
   refine zC<|O<|zj<|zF<|zj ?_
   obtain ⟨ln, hln⟩ : ∃ y, (c.lines)[n]? = some y := ⟨_, List.getElem?_eq_getElem (by omega)⟩
   refine zo<|zz X X<|Y<|zF ?_
   refine zat ([3, 6] ++ t_rg 25 21) (G := Nat × Value × List (Nat × Obj) × Heap) (fun ⟨m, v_3, o_3, h27⟩ => [(3, v_3), (6, .int .i64 (m : Int))]) (fun ⟨m, v_3, o_3, h27⟩ w' => Le h15 h27 ∧ St h w h27 w' [o_3] ∧ (OSl LPlace 70 h27 v_3 ((List.range i).flatMap (chapP t) ++ (List.range n).flatMap (lineP t i) ++ (List.range m).map (mkP i n)) o_3) ∧ (m ≤ ln.length)) (fun ⟨m, v_3, o_3, h27⟩ => ln.length - m) ⟨0, v_3, o_3, h15⟩ ⟨rfl, rfl, trivial⟩ ⟨Le.refl _, st17, (OSl.to hO_3 (by simp)), zaM⟩ ?_
   rintro ⟨m, v_3, o_3, h27⟩ _ w30 ⟨le28, st29, hO_3, hm⟩
   refine zj<|W.sr<|zk X X<|U X zaF X zbi X X<|E (j := 0) st29.sub (hc5.up ((le8.trans le16).trans le28)) X X X zby X<|zk X X<|zV he22 X X (hk := X) (hu := zay) (hz := zbg) X<|U X zal X zbq X X<|E (j := 1) st29.sub (hc21.up le28) X X X zbH X<|zk X X ?_
   obtain ⟨b31, o32, _, he34, hc33, hr_ln⟩ := Sl.elem (f25.up le28) hln
   obtain ⟨v35, rfl, f36⟩ := hr_ln
   have f36_b := f36.le
   refine zV he34 X X (hk := X) (hu := zaH) (hz := zcV) X<|E (j := 0) st29.sub hc33 X X X zdk X<|zaJ f36 X zA X<|zaV X X X<|Y ?_
   refine zH rfl (fun c37 => ?_) (fun c37 => ?_)
   ·
    refine zC<|O<|zj<|zF<|zo<|zaa (v := v_3) X X<|zk X X<|zk X X<|zk X X<|zq X X (zbW (cs := [.int .i64 (i : Int), .int .i64 (n : Int), .int .i64 (m : Int)]) t_kr)<|zaL (L := LPlace) (xs := [(Place.mk ((i : Int)) ((n : Int)) ((m : Int)))]) (cs := [.int .i64 (i : Int), .int .i64 (n : Int), .int .i64 (m : Int)]) st29 (Enc.cons (L := LPlace) (vs := [.int .i64 (i : Int), .int .i64 (n : Int), .int .i64 (m : Int)]) (x := (Place.mk ((i : Int)) ((n : Int)) ((m : Int)))) (h := h27) (X) Enc.nil) X X X zdY Tryz.info70 X X X t_kr<|fun v38 w39 h42 le43 f40 st41=> ?_
    refine zaR (k := 0) (nb := 24) st41 (hO_3.up le43) rfl f40 rfl rfl rfl zdY Tryz.info70 rfl rfl rfl (by decide) rfl (by have q1 := zcW (zgH ht) i; have q2 := zcW (zil ht i) n; have q3 := zej ht; have q4 := zfO ht i n; have q5 := zfT ht i; rw [zei hc] at q5; rw [zeD hc hln] at q4; simp only [List.length_append, List.length_map, List.length_range, List.length_cons, List.length_nil]; omega) (by have q1 := zcW (zgH ht) i; have q2 := zcW (zil ht i) n; have q3 := zej ht; have q4 := zfO ht i n; have q5 := zfT ht i; rw [zei hc] at q5; rw [zeD hc hln] at q4; simp only [List.length_append, List.length_map, List.length_range, List.length_cons, List.length_nil]; omega) ?_
    intro v44 o45 w46 _ e47 f48 st49
    subst e47
    refine zaj (v := v44) X X<|zt<|zP<|O<|zo<|zk X X<|zaP X X t_om X<|zz X X<|Y ?_
    refine ⟨⟨m + 1, v44, o45, h42⟩, ⟨rfl, rfl, trivial⟩, ?_, ⟨(le28.trans le43), st49, ?_, ?_⟩, ?_⟩
    ·exact zav
    ·refine OSl.to f48 ?_
     rw [List.range_succ, List.map_append, List.append_assoc]; rfl
    ·first | omega | (simp; omega)
    show ln.length - ((m + 1)) < ln.length - m
    omega
   refine zaC<|zh<|zh<|zah<|zP<|O<|zo<|zk X X<|zaP X X t_om X<|zz X X<|Y ?_
   refine ⟨⟨n + 1, v_3, o_3, h27⟩, ⟨rfl, rfl, trivial⟩, ?_, ⟨(le16.trans le28), st29, ?_, ?_⟩, ?_⟩
   ·exact zav
   ·refine OSl.to hO_3 ?_
    rw [zcA, ← lineP_snoc hc hln (w := m) (by omega), List.append_assoc]
   ·first | omega | (simp; omega)
   show c.lines.length - ((n + 1)) < c.lines.length - n
   omega
  refine zaC<|zh<|zh<|zah<|zP<|O<|zo<|zk X X<|zaP X X t_om X<|zz X X<|Y ?_
  refine ⟨⟨i + 1, v_3, o_3, h15⟩, ⟨rfl, rfl, trivial⟩, ?_, ⟨(le8.trans le16), st17, ?_, ?_⟩, ?_⟩
  ·exact zav
  ·refine OSl.to hO_3 ?_
   rw [zcA, ← chapP_snoc hc (n := n) (by omega)]
  ·first | omega | (simp; omega)
  show t.chapters.length - ((i + 1)) < t.chapters.length - i
  omega
 refine zaC<|zh<|zh<|zah<|O<|W.sr<|zaa (v := v_3) X X<|zaj (v := v_3) X X<|Y<|zB<|zc Tryz.results124 ?_
 obtain ⟨h50, le51, f52, st53⟩ := OSl.freeze (k := 0) st9 hO_3 rfl (by have q1 := zcW (zgH ht) i; have q3 := zej ht; omega)
 refine ⟨h50, _, rfl, st53.done, ?_⟩
 refine ⟨_, rfl, Sl.to f52 ?_⟩
 rw [show i = t.chapters.length by omega]; rfl
end Go.Pk

namespace Go.Pk
open Go Go.RowKit Go.Proofs
theorem zel {h : Heap} {w : World} (hs : Sub h w) {t : Text} {t_v0 : Value} (t_f0 : Sl LChapter h t_v0 t.chapters) {p : Place} (hp : zbB t p = true) : Calls Tryz.prog 89 #[.agg #[t_v0], .agg #[.int .i64 p.chapter, .int .i64 p.line, .int .i64 p.word]] w (Rets h w (fun _ _ res_ => res_ = strV (zbC t p))) := by
 refine zS (n := 20) Tryz.func89 X X X ?_
 have st0 := t_s0 hs
 have t_f0_b := t_f0.le
 obtain ⟨c, ln, wd, hpc, hc, hpl, hln, hpw, hwd, hwe⟩ := place_at hp
 refine W.sr<|zG st0 (cs := [t_v0]) X X X<|fun b1 w2 h3 le4 hc5 st6=>zG st6 (cs := [.int .i64 (p.chapter), .int .i64 (p.line), .int .i64 (p.word)]) X X X<|fun b7 w8 h9 le10 hc11 st12=>zdR X X<|Y<|zj<|zbj Tryz.mixed t_kr (Cls h9 _) (Cls.drew st12)<|zD X zaF X zbi X X<|zl X X (fun _ hC => (ze (j := 0) hC.sub (hc5.up le10) X X X zby))<|zD X zan X zr X X<|zl X X (fun _ hC => (ze (j := 0) hC.sub hc11 X X X zN)) ?_
 have l17 := le4.trans le10
 obtain ⟨b13, o14, _, he16, hc15, hr_c⟩ := Sl.elem (t_f0.up l17) hc
 obtain ⟨v18, rfl, f19⟩ := hr_c
 have f19_b := f19.le
 refine zl rfl rfl (fun _ _ => (zao he16 rfl rfl (hk := (show _ = ((p.chapter.toNat : Nat) : Int) by omega)) (hu := zay) (hz := zbg))) ?_
 refine zD X zal X zbq X X<|zl X X (fun _ hC => (ze (j := 1) hC.sub hc15 X X X zbH))<|zD X zan X zr X X<|zl X X (fun _ hC => (ze (j := 1) hC.sub hc11 X X X zN)) ?_
 obtain ⟨b20, o21, _, he23, hc22, hr_ln⟩ := Sl.elem f19 hln
 obtain ⟨v24, rfl, f25⟩ := hr_ln
 have f25_b := f25.le
 refine zl rfl rfl (fun _ _ => (zao he23 rfl rfl (hk := (show _ = ((p.line.toNat : Nat) : Int) by omega)) (hu := zaH) (hz := zcV))) ?_
 refine zl X X (fun _ hC => (ze (j := 0) hC.sub hc22 X X X zdk))<|zD X zan X zr X X<|zl X X (fun _ hC => (ze (j := 2) hC.sub hc11 X X X zN)) ?_
 obtain ⟨b26, o27, _, he29, hc28, hr_wd⟩ := Sl.elem f25 hwd
 obtain ⟨rfl, ls30⟩ := hr_wd
 simp only [big] at ls30
 refine zl rfl rfl (fun _ _ => (zao he29 rfl rfl (hk := (show _ = ((p.word.toNat : Nat) : Int) by omega)) (hu := zA) (hz := zW))) ?_
 refine zl X X (fun _ hC => (ze (j := 0) hC.sub hc28 X X X zaw))<|u_asS X X<|zaN ?_
 rintro w31 ⟨h32, s33⟩
 have st34 := st12.call0 s33
 refine O<|zB<|zc Tryz.results89 ?_
 refine ⟨h32, _, rfl, st34.done, ?_⟩
 refine zgB ?_
 rw [hwe]
theorem zhE {h : Heap} {w : World} (hs : Sub h w) {t : Text} {t_v0 : Value} (t_f0 : Sl LChapter h t_v0 t.chapters) {x : Lexicon} {x_v0 : Value} (x_f0 : Sl LRule h x_v0 x.rules) {x_v1 : Value} (x_f1 : Sl LDecision h x_v1 x.decisions) {l_v : Value} {l : (List Decision)} (l_f : Sl LDecision h l_v l) {p : Place} (hx : zaQ t x = 0) (hp : zbB t p = true) : Calls Tryz.prog 114 #[.agg #[t_v0], .agg #[x_v0, x_v1], l_v, .agg #[.int .i64 p.chapter, .int .i64 p.line, .int .i64 p.word]] w (Rets h w (fun _ _ res_ => res_ = .tuple #[.agg #[strV ((zgV x l p (zbC t p)).to).stem, .int .u8 ((zgV x l p (zbC t p)).to).mark], .int .i64 ((zgV x l p (zbC t p)).number)])) := by
 refine zS (n := 62) Tryz.func114 X X X<|have st0:=t_s0 hs;have t_f0_b:=t_f0.le;have x_f0_b:=x_f0.le;have x_f1_b:=x_f1.le;have l_f_b:=l_f.le;have hw12:=wordD_len (zcx hx) hp;W.sr<|zG st0 (cs := [t_v0]) X X X<|fun b1 w2 h3 le4 hc5 st6=>zG st6 (cs := [x_v0, x_v1]) X X X<|fun b7 w8 h9 le10 hc11 st12=>zG st12 (cs := [.int .i64 (p.chapter), .int .i64 (p.line), .int .i64 (p.word)]) X X X<|fun b13 w14 h15 le16 hc17 st18=>zae st18 zdb X X<|fun b19 w20 st21=>zz X X<|Y<|W.sr<|zy st21.sub (hc5.up (le10.trans le16)) X zaO zac X X<|zy st21.sub hc17 X zaD zO X X ?_
 have l22 := (le4.trans le10).trans le16
 refine zn st21 rfl rfl rfl Tryz.call89 rfl (zel st21.sub (t := t) (t_f0.up l22) (p := p) (by exact hp)) ?_
 intro r23 w24 h25 le26 st27 q28
 obtain rfl := q28
 refine zdR X X<|Y<|W.sr<|zy st27.sub (hc11.up (le16.trans le26)) X zaK zR X X<|zbX X X ?_
 have l29 := l22.trans le26
 refine zn st27 rfl rfl rfl Tryz.call154 rfl (c_postilref04_steps st27.sub (x := x) (x_f0.up l29) (x_f1.up l29) _ zba (by exact lexicon_rules hx) (by exact hw12)) ?_
 intro r30 w31 h32 le33 st34 q35
 obtain ⟨v36, e38, f37⟩ := q35
 rw [← e38] at f37
 have f37_b := f37.le
 refine zaj (v := r30) X X<|Y<|W.sr<|zaa (v := r30) X X<|zaa (v := r30) X X<|zaJ f37 X zA X ?_
 refine zq rfl rfl (r_sub rfl rfl (by have := List.length_pos_iff.2 (zhj x.rules 4 (zbC t p)); omega)) ?_
 obtain ⟨lst, hlst⟩ : ∃ y_, (zcZ (x).rules 4 ((zbC (t) (p))))[(zcZ x.rules 4 (zbC t p)).length - 1]? = some y_ := t_ge (by have := List.length_pos_iff.2 (zhj x.rules 4 (zbC t p)); omega)
 obtain ⟨b39, o40, _, he42, hc41, hr_lst⟩ := Sl.elem f37 hlst
 obtain ⟨rfl, ls43⟩ := hr_lst
 simp only [big] at ls43
 refine zq rfl rfl (zao he42 rfl rfl (hk := (show _ = (((zcZ x.rules 4 (zbC t p)).length - 1 : Nat) : Int) by have := List.length_pos_iff.2 (zhj x.rules 4 (zbC t p)); omega)) (hu := zA) (hz := zW)) ?_
 refine E (j := 0) st34.sub hc41 X X X zaw X<|zq X X (zbW (cs := [strV lst, .int .u8 0]) t_kr)<|zq X X (zbW (cs := [.int .i64 0, .int .u8 0, strV [], .int .i64 0, .int .i64 0, .int .i64 0, strV lst, .int .u8 0, .int .i64 0]) t_kr)<|zae st34 zbD X X<|fun b44 w45 st46=>zM st46 (k := 1) X X X (za X (za X (za X (za X (za X (za X (za X (za X (za X zap))))))))) zK X X X<|fun w47 st48=>Y<|zj<|zj ?_
 have hls : lst = ((zcZ x.rules 4 (zbC t p)).getLast?).getD [] := by rw [List.getLast?_eq_getElem?, hlst]; rfl
 refine zo<|zz X X<|Y<|zF ?_
 refine zat ([13] ++ t_rg 28 30) (G := Nat × Decision × Heap) (fun ⟨k, b, h49⟩ => [(13, .int .i64 (k : Int))]) (fun ⟨k, b, h49⟩ w' => Le h32 h49 ∧ St h w h49 w' [[(b19, .cells (List.toArray [strV [], .int .u8 0]) 72)], [(b44, .cells (List.toArray [.int .i64 (b.number), .int .u8 (b.kind), strV (b.form), .int .i64 (b.at_.chapter), .int .i64 (b.at_.line), .int .i64 (b.at_.word), strV (b.to.stem), .int .u8 (b.to.mark), .int .i64 (b.of_)]) 74)]] ∧ (k ≤ l.length) ∧ (b = (l.take k).foldl (stepR p (zbC t p)) (headR0 x (zbC t p))) ∧ ((0 ≤ b.kind ∧ b.kind ≤ 255) ∧ b.form.length ≤ 281474976710656 ∧ b.to.stem.length ≤ 281474976710656 ∧ (0 ≤ b.to.mark ∧ b.to.mark ≤ 255))) (fun ⟨k, b, h49⟩ => l.length - k) ⟨0, { zbf with to := ⟨lst, 0⟩ }, h32⟩ ⟨rfl, trivial⟩ ⟨Le.refl _, st48, zaM, (by rw [headR0, ← hls]; rfl), (by refine ⟨?_, ?_, ?_, ?_⟩ <;> first | assumption | (simp [zbf]; done))⟩ ?_
 rintro ⟨k, b, h49⟩ _ w52 ⟨le50, st51, hk, hf, hb⟩
 obtain ⟨hb1, hb2, hb3, hb4⟩ := hb
 refine zj<|W.sr<|zk X X<|zaa (v := l_v) X X<|have l53:=(l29.trans le33).trans le50;zaJ (l_f.up l53) X zU X<|zaV X X X<|Y ?_
 refine zH rfl (fun c54 => ?_) (fun c54 => ?_)
 ·
  refine zC<|O<|zj<|zF<|zj<|zbj Tryz.mixed t_kr (Cls h49 _) (Cls.drew st51)<|zdn (v := l_v) X X<|zbJ X X ?_
  obtain ⟨d, hd⟩ : ∃ y_, (l)[k]? = some y_ := t_ge (by omega)
  obtain ⟨b55, o56, _, he58, hc57, hr_d⟩ := Sl.elem (l_f.up l53) hd
  obtain ⟨rfl, lu59, ls60, ls61, lu62⟩ := hr_d
  simp only [big] at ls60
  simp only [big] at ls61
  refine zaG he58 X X (hk := X) (hu := zU) (hz := zK) X<|zl X X (fun _ hC => (zZ hC.sub hc57 X zaI zK X))<|zl X X (fun _ hC => (zZ hC.sub (hc17.up ((le26.trans le33).trans le50)) X zaD zO X))<|u_mvS X X<|zbU X X (fun _ => zbc X Tryz.call155 X) (fun _ hC => Rets.quiet hC (ziM hC.sub (d := d) t_u8 zba zba t_u8 (p := p) _ zba))<|zdS X X ?_
  refine zeO (d := 41) rfl (fun g63 => ?_) (fun g63 => ?_)
  ·
   refine zg X X X<|zD X zi X zr X X<|zg X X X<|zl X X (fun _ hC => (zfk (hC.block (st51.get (k := 1) X)) X X zN))<|zg X X X<|u_eql X X X<|zg X X X<|zdS X X ?_
   refine zcP (d := 45) rfl (fun g64 => ?_) (fun g64 => ?_)
   ·
    refine zb X X X X X<|zb X X X X X<|zb X X X X X<|zb X X X X X<|zb X X X X X<|zb X X X X X<|zg X X X<|zcK (v := (.bool _)) X X X<|zcK (v := (.bool _)) X X X<|zaN ?_
    rintro w65 ⟨h66, s67⟩
    have st68 := st51.call0 s67
    refine O ?_
    refine zad rfl (fun c69 => ?_) (fun c69 => ?_)
    ·
     refine zo<|zaa (v := l_v) X X<|zk X X<|zV he58 X X (hk := X) (hu := zU) (hz := zK) X<|zy st68.sub (hc57.up s67.le) X zaI zK X X<|zM st68 (k := 1) X X X (za X (za X (za X (za X (za X (za X (za X (za X (za X zap))))))))) zK X X X<|fun w70 st71=>zt<|zP<|O<|zo<|zk X X<|zaP X X t_om X<|zz X X<|Y ?_
     refine ⟨⟨k + 1, d, h66⟩, ⟨rfl, trivial⟩, ?_, ⟨(le50.trans s67.le), st71, ?_, ?_, ?_⟩, ?_⟩
     ·exact zav
     ·first | omega | (simp; omega)
     ·rw [zbb hd, List.foldl_append, ← hf]; simp only [List.foldl_cons, List.foldl_nil, stepR]
      rw [if_pos ⟨by simpa using g63, .inl (by simpa using g64)⟩]
     ·exact ⟨by assumption, by assumption, by assumption, by assumption⟩
     show l.length - ((k + 1)) < l.length - k
     omega
    cases c69
   refine zg X X X<|zdn (v := l_v) X X<|zg X X X<|zbJ X X<|zg X X X<|zaG he58 X X (hk := X) (hu := zU) (hz := zK) X<|zg X X X<|zl X X (fun _ hC => (zZ hC.sub hc57 X zaI zK X))<|zg X X X<|zl X X (fun _ hC => (r_load_ball (hC.block (st51.get (k := 1) X)) X zaI zK X))<|zg X X X<|zbU X X (fun _ => zbc X Tryz.call156 X) (fun _ hC => Rets.quiet hC (c_postilref04_better hC.sub (d := d) t_u8 zba zba t_u8 (e := b) t_u8 zba zba t_u8))<|zg X X X<|zcL (v := (.bool _)) X X X<|zcK (v := (.bool _)) X X X<|zaN ?_
   rintro w72 ⟨h73, s74⟩
   have st75 := st51.call0 s74
   refine O ?_
   refine zad rfl (fun c76 => ?_) (fun c76 => ?_)
   ·
    refine zo<|zaa (v := l_v) X X<|zk X X<|zV he58 X X (hk := X) (hu := zU) (hz := zK) X<|zy st75.sub (hc57.up s74.le) X zaI zK X X<|zM st75 (k := 1) X X X (za X (za X (za X (za X (za X (za X (za X (za X (za X zap))))))))) zK X X X<|fun w77 st78=>zt<|zP<|O<|zo<|zk X X<|zaP X X t_om X<|zz X X<|Y ?_
    refine ⟨⟨k + 1, d, h73⟩, ⟨rfl, trivial⟩, ?_, ⟨(le50.trans s74.le), st78, ?_, ?_, ?_⟩, ?_⟩
    ·exact zav
    ·first | omega | (simp; omega)
    ·rw [zbb hd, List.foldl_append, ← hf]; simp only [List.foldl_cons, List.foldl_nil, stepR]
     rw [if_pos ⟨by simpa using g63, .inr (by simpa using c76)⟩]
    ·exact ⟨by assumption, by assumption, by assumption, by assumption⟩
    show l.length - ((k + 1)) < l.length - k
    omega
   refine zC<|zP<|O<|zo<|zk X X<|zaP X X t_om X<|zz X X<|Y ?_
   refine ⟨⟨k + 1, b, h73⟩, ⟨rfl, trivial⟩, ?_, ⟨(le50.trans s74.le), st75, ?_, ?_, ?_⟩, ?_⟩
   ·exact zav
   ·first | omega | (simp; omega)
   ·rw [zbb hd, List.foldl_append, ← hf]; simp only [List.foldl_cons, List.foldl_nil, stepR]
    rw [if_neg]
    rintro ⟨q1, q2⟩
    simp_all
   ·exact ⟨by assumption, by assumption, by assumption, by assumption⟩
   show l.length - ((k + 1)) < l.length - k
   omega
  refine zb X X X X X<|zb X X X X X<|zb X X X X X<|zb X X X X X<|zY X X X X<|zY X X X X<|zY X X X X<|zY X X X X<|zY X X X X<|zY X X X X<|zb X X X X X<|zcL (v := (.bool _)) X X X<|zaN ?_
  rintro w79 ⟨h80, s81⟩
  have st82 := st51.call0 s81
  refine O ?_
  refine zad rfl (fun c83 => ?_) (fun c83 => ?_)
  ·
   cases c83
  refine zC<|zP<|O<|zo<|zk X X<|zaP X X t_om X<|zz X X<|Y ?_
  refine ⟨⟨k + 1, b, h80⟩, ⟨rfl, trivial⟩, ?_, ⟨(le50.trans s81.le), st82, ?_, ?_, ?_⟩, ?_⟩
  ·exact zav
  ·first | omega | (simp; omega)
  ·rw [zbb hd, List.foldl_append, ← hf]; simp only [List.foldl_cons, List.foldl_nil, stepR]
   rw [if_neg]
   rintro ⟨q1, q2⟩
   simp_all
  ·exact ⟨by assumption, by assumption, by assumption, by assumption⟩
  show l.length - ((k + 1)) < l.length - k
  omega
 refine zaC<|zh<|zh<|zah<|O<|zj ?_
 obtain ⟨h84, le85, hb86, st88⟩ := st51.freeze (k := 1) rfl
 have hc87 := Cells.of hb86
 refine zbh (er := ([], [], [], [], 0)) (dsts := [58, 59, 60, 61, 9]) st88 Tryz.mixed<|zf 0 [] X t_kr t_kr X X (fun hD wD τD hL hS hO  => (zL X zi X zT X))<|zf 1 [0] X t_kr t_kr X X (fun hD wD τD hL hS hO _ _ => (zbL (j := 6) (hL.sub hS) hc87 (us := [strV (b.to.stem), .int .u8 (b.to.mark)]) X X zbl zT X X))<|zf 2 [] X t_kr t_kr X X (fun hD wD τD hL hS hO  => (zL X zi X zr X))<|zf 3 [0] X t_kr t_kr X X (fun hD wD τD hL hS hO _ _ => (ze (j := 0) (hL.sub hS) hc87 X X X zN))<|zbx<|zf 5 [4, 3, 2, 1, 0] X t_kr t_kr X X (fun hD wD τD hL hS hO _ _ _ _ _ _ _ _ => (r_asI X))<|zbN X X X X X X ⟨t_kr, X, t_kr, X, t_kr, X, X, t_kr, (zbe X zcl)⟩<|fun hE90 w91 _ le92 st93 _ _ _ _=>zM st93 (k := 0) X X X (za X (za X zap)) zT X X X<|fun w94 st95=> ?_
 obtain ⟨h96, le97, hb98, st100⟩ := st95.freeze (k := 0) rfl
 have hc99 := Cells.of hb98
 refine zt ⟨undef, rfl, _, _, le97, st100, ?_⟩
 intro hE101 w102 _ le103 st104 _ _ _ _ _ _ _ _ _ _
 refine AllDeps.fin X<|O<|zB<|zhK Tryz.results114 X zbl zT X st104.sub (hc99.up le103) ?_
 refine ⟨hE101, _, rfl, st104.done, ?_⟩
 refine tup2 ?_ (zar ?_)
 all_goals (rw [hf, List.take_of_length_le (by omega)]; rfl)
end Go.Pk

namespace Go.Pk
open Go Go.RowKit Go.Proofs
theorem c_postilref04_HeadOf {h : Heap} {w : World} (hs : Sub h w) {t : Text} {t_v0 : Value} (t_f0 : Sl LChapter h t_v0 t.chapters) {x : Lexicon} {x_v0 : Value} (x_f0 : Sl LRule h x_v0 x.rules) {x_v1 : Value} (x_f1 : Sl LDecision h x_v1 x.decisions) {p : Place} : Calls Tryz.prog 82 #[.agg #[t_v0], .agg #[x_v0, x_v1], .agg #[.int .i64 p.chapter, .int .i64 p.line, .int .i64 p.word]] w (Rets h w (fun _ _ res_ => res_ = .tuple #[.agg #[strV ((askR t x p).to).stem, .int .u8 ((askR t x p).to).mark], .int .i64 (askE t x p)])) := by
 refine zS (n := 33) Tryz.func82 X X X<|have st0:=t_s0 hs;have t_f0_b:=t_f0.le;have x_f0_b:=x_f0.le;have x_f1_b:=x_f1.le;W.sr<|zG st0 (cs := [t_v0]) X X X<|fun b1 w2 h3 le4 hc5 st6=>zG st6 (cs := [x_v0, x_v1]) X X X<|fun b7 w8 h9 le10 hc11 st12=>zG st12 (cs := [.int .i64 (p.chapter), .int .i64 (p.line), .int .i64 (p.word)]) X X X<|fun b13 w14 h15 le16 hc17 st18=>zae st18 zdb X X<|fun b19 w20 st21=>zz X X<|Y<|zj<|W.sr<|zy st21.sub (hc5.up (le10.trans le16)) X zaO zac X X<|zy st21.sub (hc11.up le16) X zaK zR X X<|have l22:=(le4.trans le10).trans le16;zn st21 X X X Tryz.call104 X (zet st21.sub (t := t) (t_f0.up l22) (x := x) (x_f0.up l22) (x_f1.up l22))<|fun r23 w24 h25 le26 st27 q28=> ?_
 obtain rfl := q28
 refine zz X X<|Y<|W.sr<|zk X X<|zcF X X X<|Y ?_
 refine zH rfl (fun c29 => ?_) (fun c29 => ?_)
 ·
  refine W.sr<|zq X X (zbW (cs := [strV [], .int .u8 0]) t_kr)<|zk X X<|zM st27 (k := 0) X X X (za X (za X zap)) zT X X X<|fun w30 st31=>zz X X<|Y<|zB<|zd<|zbF Tryz.results82 X zbl zT X (st31.get (k := 0) X) ?_
  refine ⟨h25, _, rfl, st31.done, ?_⟩
  refine tup2 ?_ (zar ?_)
  ·rw [show askR t x p = zbf from by simp_all [askR]]; rfl
  simp_all [askE]
 refine zC<|O<|zj<|W.sr<|zy st27.sub (hc5.up ((le10.trans le16).trans le26)) X zaO zac X X<|zy st27.sub (hc17.up le26) X zaD zO X X<|have l32:=l22.trans le26;zn st27 X X X Tryz.call113 X (zfA st27.sub (t := t) (t_f0.up l32) (p := p))<|fun r33 w34 h35 le36 st37 q38=> ?_
 obtain rfl := q38
 refine zbQ X X<|Y ?_
 refine zad rfl (fun c39 => ?_) (fun c39 => ?_)
 ·
  refine W.sr<|zq X X (zbW (cs := [strV [], .int .u8 0]) t_kr)<|zM st37 (k := 0) X X X (za X (za X zap)) zT X X X<|fun w40 st41=>zz X X<|Y<|zB<|zd<|zbF Tryz.results82 X zbl zT X (st41.get (k := 0) X) ?_
  refine ⟨h35, _, rfl, st41.done, ?_⟩
  refine tup2 ?_ (zar ?_)
  ·rw [show askR t x p = zbf from by simp_all [askR]]; rfl
  simp_all [askE]
 refine zC<|O<|zj ?_
 have hx0 : zaQ t x = 0 := by simpa using c29
 have hp0 : zbB t p = true := by simpa using c39
 have l42 := ((le10.trans le16).trans le26).trans le36
 refine zbh (er := ([], [], [], [], 0)) (dsts := [24, 25, 26, 27, 28, 29, 23, 30, 31, 9, 10]) st37 Tryz.mixed<|zf 0 [] X t_kr t_kr X X (fun hD wD τD hL hS hO  => (zZ (hL.sub hS) (hc5.up l42) X zaO zac X))<|zf 1 [] X t_kr t_kr X X (fun hD wD τD hL hS hO  => (zZ (hL.sub hS) (hc11.up ((le16.trans le26).trans le36)) X zaK zR X))<|zf 2 [] X t_kr t_kr X X (fun hD wD τD hL hS hO  => (zZ (hL.sub hS) (hc11.up ((le16.trans le26).trans le36)) X zaK zR X)) ?_
 refine zax 3 (.res (fun h' res_ => Sl LDecision h' res_ (zch (x))) (fun _ _ _ hl f => f.up hl)) [0] rfl t_kr t_kr ?_ ?_
 ·
  intro hD wD τD hL hS hO _ _
  have st43 := St.start hS
  refine zn st43 rfl rfl rfl Tryz.call115 rfl (zgk st43.sub (x := x) (x_f0.up ((l32.trans le36).trans hL)) (x_f1.up ((l32.trans le36).trans hL)) (by exact lexicon_v hx0) (by exact lexicon_v1 hx0) (by exact zeF hx0)) ?_
  intro r44 w45 h46 le47 st48 q49
  obtain ⟨v50, e52, f51⟩ := q49
  rw [← e52] at f51
  have f51_b := f51.le
  exact zt ⟨_, _, rfl, st48, _, rfl, f51⟩
 refine zf 4 [] X t_kr t_kr X X (fun hD wD τD hL hS hO  => (zZ (hL.sub hS) (hc17.up (le26.trans le36)) X zaD zO X)) ?_
 refine zax 5 (.det (.tuple #[.agg (List.toArray [strV ((zgV (x) ((zch (x))) (p) (zbC (t) (p))).to.stem), .int .u8 ((zgV (x) ((zch (x))) (p) (zbC (t) (p))).to.mark)]), .int .i64 ((zgV (x) ((zch (x))) (p) (zbC (t) (p))).number)])) [4, 3, 0, 1] rfl t_kr t_kr ?_ ?_
 ·
  intro hD wD τD hL hS hO _ _ _ _ _ _ gv3_0 gf3_0
  have st53 := St.start hS
  refine zn st53 rfl rfl rfl Tryz.call114 rfl (zhE st53.sub (t := t) (t_f0.up ((l32.trans le36).trans hL)) (x := x) (x_f0.up ((l32.trans le36).trans hL)) (x_f1.up ((l32.trans le36).trans hL)) gf3_0 (p := p) (by exact hx0) (by exact hp0)) ?_
  intro r54 w55 h56 le57 st58 q59
  obtain rfl := q59
  exact zt ⟨_, _, rfl, st58, (), rfl, trivial⟩
 refine zf 6 [0] X t_kr t_kr X X (fun hD wD τD hL hS hO _ _ => (r_mvT X))<|zf 7 [0] X t_kr t_kr X X (fun hD wD τD hL hS hO _ _ => (zfR (v := (.agg (List.toArray _))) X X))<|zf 8 [1] X t_kr t_kr X X (fun hD wD τD hL hS hO _ _ => (zfR (v := (.int _ _)) X X))<|zhL zdb X<|zbx<|zf 11 [10, 9, 8, 7, 6, 5, 4, 3, 2, 1, 0] X t_kr t_kr X X (fun hD wD τD hL hS hO _ _ _ _ _ _ gv3_0 gf3_0 _ _ _ _ _ _ _ _ _ _ => (r_asI X))<|zbN X X X X X X ⟨t_kr, X, t_kr, X, t_kr, X, X, t_kr, (zbe X zcl)⟩<|fun b60=>fun hE62 w63 _ le64 st65 _ _ _ _ _ _ gv3_0x61 gf3_0x61 _ _ _ _ _ _ _ _=>zM st65 (k := 1) X X X (za X (za X zap)) zT X X X<|fun w66 st67=> ?_
 obtain ⟨h68, le69, hb70, st72⟩ := st67.freeze (k := 1) rfl
 have hc71 := Cells.of hb70
 refine zt ⟨undef, rfl, _, _, le69, st72, ?_⟩
 intro hE73 w74 _ le75 st76 _ _ _ _ _ _ gv3_0x77 gf3_0x77 _ _ _ _ _ _ _ _ _ _ _ _
 refine AllDeps.fin X<|O<|W.sr<|zy st76.sub (hc71.up le75) X zbl zT X X<|zM st76 (k := 0) X X X (za X (za X zap)) zT X X X<|fun w78 st79=>zz X X<|Y<|zB<|zbF Tryz.results82 X zbl zT X (st79.get (k := 0) X) ?_
 refine ⟨hE73, _, rfl, st79.done, ?_⟩
 refine tup2 ?_ (zar ?_)
 ·rw [headR_eq hx0]; simp only [askR, hx0, hp0, and_self, if_true]; rfl
 simp [askE, hx0, hp0]
theorem c_postilref04_All {h : Heap} {w : World} (hs : Sub h w) {t : Text} {t_v0 : Value} (t_f0 : Sl LChapter h t_v0 t.chapters) {x : Lexicon} {x_v0 : Value} (x_f0 : Sl LRule h x_v0 x.rules) {x_v1 : Value} (x_f1 : Sl LDecision h x_v1 x.decisions) (hx : zaQ t x = 0) : Calls Tryz.prog 125 #[.agg #[t_v0], .agg #[x_v0, x_v1]] w (Rets h w (fun h' _ res_ => ∃ u0, res_ = u0 ∧ Sl LHead h' u0 ((zeG t x)))) := by
 refine zS (n := 37) Tryz.func125 X X X<|have st0:=t_s0 hs;have t_f0_b:=t_f0.le;have x_f0_b:=x_f0.le;have x_f1_b:=x_f1.le;W.sr<|zG st0 (cs := [t_v0]) X X X<|fun b1 w2 h3 le4 hc5 st6=>zG st6 (cs := [x_v0, x_v1]) X X X<|fun b7 w8 h9 le10 hc11 st12=>zcz X X<|Y<|W.sr<|zcz X X<|Y<|zj<|have hx0:=hx;have ht0:=zcx hx;zbh (er := ([], [], [], [], 0)) (dsts := [11, 12, 13, 14, 6, 7]) st12 Tryz.mixed<|zf 0 [] X t_kr t_kr X X (fun hD wD τD hL hS hO  => (zZ (hL.sub hS) (hc5.up le10) X zaO zac X)) ?_
 refine zax 1 (.res (fun h' res_ => Sl LPlace h' res_ ((zcj (t)))) (fun _ _ _ hl f => f.up hl)) [0] rfl t_kr t_kr ?_ ?_
 ·
  intro hD wD τD hL hS hO _ _
  have st13 := St.start hS
  refine zn st13 rfl rfl rfl Tryz.call124 rfl (zhU st13.sub (t := t) (t_f0.up ((le4.trans le10).trans hL)) (by exact ht0)) ?_
  intro r14 w15 h16 le17 st18 q19
  obtain ⟨v20, e22, f21⟩ := q19
  rw [← e22] at f21
  have f21_b := f21.le
  exact zt ⟨_, _, rfl, st18, _, rfl, f21⟩
 refine zf 2 [] X t_kr t_kr X X (fun hD wD τD hL hS hO  => (zZ (hL.sub hS) hc11 X zaK zR X)) ?_
 refine zax 3 (.res (fun h' res_ => Sl LDecision h' res_ (zch (x))) (fun _ _ _ hl f => f.up hl)) [0, 1] rfl t_kr t_kr ?_ ?_
 ·
  intro hD wD τD hL hS hO _ _ gv1_0 gf1_0
  have st23 := St.start hS
  refine zn st23 rfl rfl rfl Tryz.call115 rfl (zgk st23.sub (x := x) (x_f0.up ((le4.trans le10).trans hL)) (x_f1.up ((le4.trans le10).trans hL)) (by exact lexicon_v hx0) (by exact lexicon_v1 hx0) (by exact zeF hx0)) ?_
  intro r24 w25 h26 le27 st28 q29
  obtain ⟨v30, e32, f31⟩ := q29
  rw [← e32] at f31
  have f31_b := f31.le
  exact zt ⟨_, _, rfl, st28, _, rfl, f31⟩
 refine zax 4 (.res (fun h' res_ => Sl LPlace h' res_ (((zcj (t))))) (fun _ _ _ hl f => f.up hl)) [0, 3, 2] rfl t_kr t_kr ?_ ?_
 ·
  intro hD wD τD hL hS hO gv3_0 gf3_0 _ _ gv1_0 gf1_0
  have st33 := St.start hS
  refine zaj (v := gv1_0) X X ?_
  exact zt ⟨_, _, rfl, st33, _, rfl, gf1_0⟩
 refine zax 5 (.res (fun h' res_ => Sl LDecision h' res_ ((zch (x)))) (fun _ _ _ hl f => f.up hl)) [4, 3, 2, 1, 0] rfl t_kr t_kr ?_ ?_
 ·
  intro hD wD τD hL hS hO _ _ gv1_0 gf1_0 _ _ gv3_0 gf3_0 gv4_0 gf4_0
  have st34 := St.start hS
  refine zaj (v := gv3_0) X X ?_
  exact zt ⟨_, _, rfl, st34, _, rfl, gf3_0⟩
 refine zbN X X X X X X ⟨t_kr, X, t_kr, X, t_kr, X, X, t_kr, zcl⟩<|fun hE35 w36 _ le37 st38 _ _ gv1_0x39 gf1_0x39 _ _ gv3_0x39 gf3_0x39 gv4_0x39 gf4_0x39 gv5_0x39 gf5_0x39=>AllDeps.fin X<|have hpl:=zgE ht0;O<|zj<|W.sr<|zz X X<|Y<|zF ?_
 have st43 := st38.snoc
 have f44 := OSl.nil LHead 72 hE35
 refine zat ([5, 8, 9, 10] ++ t_rg 15 21) (G := Nat × Value × List (Nat × Obj) × Heap) (fun ⟨k, v_5, o_5, h40⟩ => [(5, v_5), (8, .int .i64 (k : Int))]) (fun ⟨k, v_5, o_5, h40⟩ w' => Le hE35 h40 ∧ St h w h40 w' [o_5] ∧ (OSl LHead 72 h40 v_5 (((zcj t).take k).map (zhZ t x)) o_5) ∧ (k ≤ (zcj t).length)) (fun ⟨k, v_5, o_5, h40⟩ => (zcj t).length - k) ⟨0, (.slice none 0 0), [], hE35⟩ ⟨rfl, rfl, trivial⟩ ⟨Le.refl _, st43, (OSl.to f44 (by rfl)), zaM⟩ ?_
 rintro ⟨k, v_5, o_5, h40⟩ _ w45 ⟨le41, st42, hO_5, hk⟩
 refine zj<|W.sr<|zk X X<|zaa (v := gv4_0x39) X X<|zaJ (gf4_0x39.up le41) X zdY X<|zaV X X X<|Y ?_
 refine zH rfl (fun c46 => ?_) (fun c46 => ?_)
 ·
  refine zC<|O<|zj<|zF<|zj ?_
  obtain ⟨p, hp⟩ : ∃ y_, ((((zcj (t)))))[k]? = some y_ := t_ge (by omega)
  obtain ⟨b47, o48, _, he50, hc49, hr_p⟩ := Sl.elem (gf4_0x39.up le41) hp
  obtain rfl := hr_p
  have hp0 : zbB t p = true := placesT_mem (List.mem_of_getElem? hp)
  have hhd := winD_ok hx0 hp0
  rw [← headR_eq hx0] at hhd
  refine zbh (er := ([], [], [], [], 0)) (dsts := [22, 23, 24, 25, 26, 27, 28, 29, 21, 30, 31, 9, 10]) st42 Tryz.mixed<|zf 0 [] X t_kr t_kr X X (fun hD wD τD hL hS hO  => (zZ (hL.sub hS) (hc5.up ((le10.trans le37).trans le41)) X zaO zac X))<|zf 1 [] X t_kr t_kr X X (fun hD wD τD hL hS hO  => (zZ (hL.sub hS) (hc11.up (le37.trans le41)) X zaK zR X))<|zf 2 [] X t_kr t_kr X X (fun hD wD τD hL hS hO  => (zdp (v := gv5_0x39) X))<|zf 3 [] X t_kr t_kr X X (fun hD wD τD hL hS hO  => (zdp (v := gv4_0x39) X))<|zf 4 [] X t_kr t_kr X X (fun hD wD τD hL hS hO  => (zdP X))<|zf 5 [1, 0] X t_kr t_kr X X (fun hD wD τD hL hS hO _ _ _ _ => (zao he50 X X (hk := X) (hu := zdY) (hz := zO)))<|zf 6 [0] X t_kr t_kr X X (fun hD wD τD hL hS hO _ _ => (zZ (hL.sub hS) hc49 X zaD zO X)) ?_
  refine zax 7 (.det (.tuple #[.agg (List.toArray [strV ((zgV (x) (((zch (x)))) (p) (zbC (t) (p))).to.stem), .int .u8 ((zgV (x) (((zch (x)))) (p) (zbC (t) (p))).to.mark)]), .int .i64 ((zgV (x) (((zch (x)))) (p) (zbC (t) (p))).number)])) [6, 5, 4, 0] rfl t_kr t_kr ?_ ?_
  ·
   intro hD wD τD hL hS hO _ _ _ _ _ _ _ _
   have st51 := St.start hS
   refine zn st51 rfl rfl rfl Tryz.call114 rfl (zhE st51.sub (t := t) (t_f0.up ((((le4.trans le10).trans le37).trans le41).trans hL)) (x := x) (x_f0.up ((((le4.trans le10).trans le37).trans le41).trans hL)) (x_f1.up ((((le4.trans le10).trans le37).trans le41).trans hL)) (gf5_0x39.up (le41.trans hL)) (p := p) (by exact hx0) (by exact hp0)) ?_
   intro r52 w53 h54 le55 st56 q57
   obtain rfl := q57
   exact zt ⟨_, _, rfl, st56, (), rfl, trivial⟩
  refine zf 8 [0] X t_kr t_kr X X (fun hD wD τD hL hS hO _ _ => (r_mvT X))<|zf 9 [0] X t_kr t_kr X X (fun hD wD τD hL hS hO _ _ => (zfR (v := (.agg (List.toArray _))) X X))<|zf 10 [1] X t_kr t_kr X X (fun hD wD τD hL hS hO _ _ => (zfR (v := (.int _ _)) X X))<|zhL zdb X<|zbx<|zf 13 [12, 11, 10, 9, 8, 7, 6, 5, 4, 3, 2, 1, 0] X t_kr t_kr X X (fun hD wD τD hL hS hO _ _ _ _ _ _ _ _ _ _ _ _ _ _ _ _ _ _ _ _ _ _ => (r_asI X))<|zbN X X X X X X ⟨t_kr, X, t_kr, X, t_kr, X, X, t_kr, (zbe X zcl)⟩<|fun b58=>fun hE60 w61 _ le62 st63 _ _ _ _ _ _ _ _ _ _ _ _ _ _ _ _ _ _ _ _=>zM st63 (k := 1) X X X (za X (za X zap)) zT X X X<|fun w64 st65=> ?_
  obtain ⟨h66, le67, hb68, st70⟩ := st65.freeze (k := 1) rfl
  have hc69 := Cells.of hb68
  refine zt ⟨undef, rfl, _, _, le67, st70, ?_⟩
  intro hE71 w72 _ le73 st74 _ _ _ _ _ _ _ _ _ _ _ _ _ _ _ _ _ _ _ _ _ _ _ _
  refine AllDeps.fin X<|O<|zo<|zaa (v := v_5) X X<|zy st74.sub (hc69.up le73) X zbl zT X X<|zaL (L := LHead) (xs := [(zgV (x) (((zch (x)))) (p) (zbC (t) (p))).to]) (cs := [strV ((zgV (x) (((zch (x)))) (p) (zbC (t) (p))).to.stem), .int .u8 ((zgV (x) (((zch (x)))) (p) (zbC (t) (p))).to.mark)]) st74 (Enc.cons (L := LHead) (vs := [strV ((zgV (x) (((zch (x)))) (p) (zbC (t) (p))).to.stem), .int .u8 ((zgV (x) (((zch (x)))) (p) (zbC (t) (p))).to.mark)]) (x := (zgV (x) (((zch (x)))) (p) (zbC (t) (p))).to) (h := hE71) (⟨rfl, zba, t_u8⟩) Enc.nil) X X X zaE Tryz.info72 X X X t_kr<|fun v76 w77 h80 le81 f78 st79=> ?_
  have l88 := ((le62.trans le67).trans le73).trans le81
  refine zaR (k := 0) (nb := 24) st79 (hO_5.up l88) rfl f78 rfl rfl rfl zaE Tryz.info72 rfl rfl rfl (by decide) rfl (by have q := zgE ht0; have q2 := List.length_take_le k (zcj t); simp only [List.length_map, List.length_append, List.length_cons, List.length_nil]; omega) (by have q := zgE ht0; have q2 := List.length_take_le k (zcj t); simp only [List.length_map, List.length_append, List.length_cons, List.length_nil]; omega) ?_
  intro v82 o83 w84 _ e85 f86 st87
  subst e85
  refine zaj (v := v82) X X<|zt<|zP<|O<|zo<|zk X X<|zaP X X t_om X<|zz X X<|Y ?_
  have l89 := (((le41.trans le62).trans le67).trans le73).trans le81
  refine ⟨⟨k + 1, v82, o83, h80⟩, ⟨rfl, rfl, trivial⟩, ?_, ⟨l89, st87.take 1, ?_, ?_⟩, ?_⟩
  ·exact zav
  ·refine OSl.to f86 ?_
   rw [zbb hp, List.map_append, headR_eq hx0]; rfl
  ·first | omega | (simp; omega)
  show (zcj t).length - ((k + 1)) < (zcj t).length - k
  omega
 refine zaC<|zh<|zh<|zah<|O<|W.sr<|zaa (v := v_5) X X<|zaj (v := v_5) X X<|Y<|zB<|zc Tryz.results125 ?_
 obtain ⟨h90, le91, f92, st93⟩ := OSl.freeze (k := 0) st42 hO_5 rfl (by have q := zgE ht0; have q2 := List.length_take_le k (zcj t); simp only [List.length_map, List.length_append, List.length_cons, List.length_nil]; omega)
 refine ⟨h90, _, rfl, st93.done, ?_⟩
 refine ⟨_, rfl, Sl.to f92 ?_⟩
 rw [List.take_of_length_le (by omega)]; rfl
end Go.Pk

namespace Go.Pk
open Go Go.RowKit Go.Proofs
theorem c_stem_asked {h : Heap} {w : World} (hs : Sub h w) {t : Text} {t_v0 : Value} (t_f0 : Sl LChapter h t_v0 t.chapters) {x : Lexicon} {x_v0 : Value} (x_f0 : Sl LRule h x_v0 x.rules) {x_v1 : Value} (x_f1 : Sl LDecision h x_v1 x.decisions) {p : Place} (K1 : Cells h 1 0 Tryz.glob1) : Calls Tryz.prog 110 #[.agg #[t_v0], .agg #[x_v0, x_v1], .agg #[.int .i64 p.chapter, .int .i64 p.line, .int .i64 p.word]] w (Rets h w (fun _ _ res_ => res_ = .tuple #[.agg #[.int .i64 ((askR t x p)).number, .int .u8 ((askR t x p)).kind, strV ((askR t x p)).form, .int .i64 ((askR t x p)).at_.chapter, .int .i64 ((askR t x p)).at_.line, .int .i64 ((askR t x p)).at_.word, strV ((askR t x p)).to.stem, .int .u8 ((askR t x p)).to.mark, .int .i64 ((askR t x p)).of_], .int .i64 (askE t x p)])) := by
 refine zS (n := 35) Tryz.func110 X X X<|have st0:=t_s0 hs;have t_f0_b:=t_f0.le;have x_f0_b:=x_f0.le;have x_f1_b:=x_f1.le;W.sr<|zG st0 (cs := [t_v0]) X X X<|fun b1 w2 h3 le4 hc5 st6=>zG st6 (cs := [x_v0, x_v1]) X X X<|fun b7 w8 h9 le10 hc11 st12=>zG st12 (cs := [.int .i64 (p.chapter), .int .i64 (p.line), .int .i64 (p.word)]) X X X<|fun b13 w14 h15 le16 hc17 st18=>zae st18 zbD X X<|fun b19 w20 st21=>zz X X<|Y<|W.sr<|zy st21.sub (hc5.up (le10.trans le16)) X zaO zac X X<|zy st21.sub (hc11.up le16) X zaK zR X X<|have l22:=(le4.trans le10).trans le16;zn st21 X X X Tryz.call117 X (c_stem_open st21.sub (t := t) (t_f0.up l22) (x := x) (x_f0.up l22) (x_f1.up l22) (K1.up l22))<|fun r23 w24 h25 le26 st27 q28=> ?_
 rcases Bool.eq_false_or_eq_true (decide (zaQ (t) (x) = 0)) with hb29 | hb29
 ·
  simp only [hb29, if_true, if_false, Bool.false_eq_true, reduceIte] at q28
  obtain ⟨v30, rfl, f31⟩ := q28
  obtain ⟨b32, vs33, rfl, hc34, hr35⟩ := f31
  obtain ⟨v36, v38, v40, v42, rfl, f37, f39, f41, lm43⟩ := hr35
  have f37_b := f37.le
  have f39_b := f39.le
  have f41_b := f41.le
  refine zdu X X<|zak (v := (.pointer (some _))) X X X<|zak (v := (.int _ _)) X X X<|v_asP X X<|zz X X<|Y<|zj<|W.sr<|zk X X<|zcF X X X<|Y ?_
  refine zH rfl (fun c44 => ?_) (fun c44 => ?_)
  ·
   refine W.sr<|zq X X (zbW (cs := [.int .i64 0, .int .u8 0, strV [], .int .i64 0, .int .i64 0, .int .i64 0, strV [], .int .u8 0, .int .i64 0]) t_kr)<|zk X X<|zM st27 (k := 0) X X X (za X (za X (za X (za X (za X (za X (za X (za X (za X zap))))))))) zK X X X<|fun w45 st46=>zz X X<|Y<|zB<|zd<|zbF Tryz.results110 X zaI zK X (st46.get (k := 0) X) ?_
   refine ⟨h25, _, rfl, st46.done, ?_⟩
   refine tup2 ?_ (zar ?_)
   ·rw [show askR t x p = zbf from by simp_all [askR]]; rfl
   simp_all [askE]
  refine zC<|O<|zj<|W.sr<|zy st27.sub (hc5.up ((le10.trans le16).trans le26)) X zaO zac X X<|zy st27.sub (hc17.up le26) X zaD zO X X<|have l47:=l22.trans le26;zn st27 X X X Tryz.call85 X (zgJ st27.sub (t := t) (t_f0.up l47) (p := p))<|fun r48 w49 h50 le51 st52 q53=> ?_
  obtain rfl := q53
  refine zdu X X<|zak (v := (strV _)) X X X<|zak (v := (.int _ _)) X X X<|zdR X X<|zz X X<|Y<|W.sr<|zk X X<|zcF X X X<|Y ?_
  refine zH rfl (fun c54 => ?_) (fun c54 => ?_)
  ·
   refine W.sr<|zq X X (zbW (cs := [.int .i64 0, .int .u8 0, strV [], .int .i64 0, .int .i64 0, .int .i64 0, strV [], .int .u8 0, .int .i64 0]) t_kr)<|zk X X<|zM st52 (k := 0) X X X (za X (za X (za X (za X (za X (za X (za X (za X (za X zap))))))))) zK X X X<|fun w55 st56=>zz X X<|Y<|zB<|zd<|zbF Tryz.results110 X zaI zK X (st56.get (k := 0) X) ?_
   have hx0 : zaQ t x = 0 := by simpa using c44
   have hp0 : ¬ zbB t p = true := by
    intro e
    have q1 := c54
    simp [zcx hx0, e] at q1
   refine ⟨h50, _, rfl, st56.done, ?_⟩
   refine tup2 ?_ (zar ?_)
   ·rw [show askR t x p = zbf from by simp [askR, hp0]]; rfl
   simp [askE, hx0, hp0, zcx hx0]
  refine zC<|O<|zj ?_
  have hx0 : zaQ t x = 0 := by simpa using c44
  have hp0 : zbB t p = true := by
   have q := c54
   rw [zcx hx0] at q
   cases e : zbB t p with
   | true => rfl
   | false => rw [e] at q; simp at q
  refine zo<|v_mvP X X<|zy st52.sub (hc17.up (le26.trans le51)) X zaD zO X X ?_
  have l57 := l47.trans le51
  refine zn st52 rfl rfl rfl Tryz.call150 rfl (zhA st52.sub (o := (Office.mk (x) (t) (zeY (x)))) (f37.up le51) (f39.up le51) (f41.up le51) (lm43.up le51) (hc34.up le51) (p := p) (K1.up l57) (by exact ⟨by simpa using c44, rfl⟩) (by exact hp0)) ?_
  intro r58 w59 h60 le61 st62 q63
  obtain rfl := q63
  refine zM st62 (k := 0) X X X (za X (za X (za X (za X (za X (za X (za X (za X (za X zap))))))))) zK X X X<|fun w64 st65=>zz X X<|Y<|zB<|zbF Tryz.results110 X zaI zK X (st65.get (k := 0) X) ?_
  refine ⟨h60, _, rfl, st65.done, ?_⟩
  refine tup2 ?_ (zar ?_)
  ·rw [show askR t x p = winD x p (zbC t p) from by simp [askR, hx0, hp0]]; rfl
  simp [askE, hx0, hp0]
 simp only [hb29, if_true, if_false, Bool.false_eq_true, reduceIte] at q28
 obtain ⟨v66, rfl, f67⟩ := q28
 obtain rfl := f67
 refine zdu X X<|zak (v := (.pointer none)) X X X<|zak (v := (.int _ _)) X X X<|zaj X X<|zz X X<|Y<|zj<|W.sr<|zk X X<|zcF X X X<|Y ?_
 refine zH rfl (fun c68 => ?_) (fun c68 => ?_)
 ·
  refine W.sr<|zq X X (zbW (cs := [.int .i64 0, .int .u8 0, strV [], .int .i64 0, .int .i64 0, .int .i64 0, strV [], .int .u8 0, .int .i64 0]) t_kr)<|zk X X<|zM st27 (k := 0) X X X (za X (za X (za X (za X (za X (za X (za X (za X (za X zap))))))))) zK X X X<|fun w69 st70=>zz X X<|Y<|zB<|zd<|zbF Tryz.results110 X zaI zK X (st70.get (k := 0) X) ?_
  refine ⟨h25, _, rfl, st70.done, ?_⟩
  refine tup2 ?_ (zar ?_)
  ·rw [show askR t x p = zbf from by simp_all [askR]]; rfl
  simp_all [askE]
 exfalso
 simp_all
theorem c_stem_HeadOf {h : Heap} {w : World} (hs : Sub h w) {t : Text} {t_v0 : Value} (t_f0 : Sl LChapter h t_v0 t.chapters) {x : Lexicon} {x_v0 : Value} (x_f0 : Sl LRule h x_v0 x.rules) {x_v1 : Value} (x_f1 : Sl LDecision h x_v1 x.decisions) {p : Place} (K1 : Cells h 1 0 Tryz.glob1) : Calls Tryz.prog 79 #[.agg #[t_v0], .agg #[x_v0, x_v1], .agg #[.int .i64 p.chapter, .int .i64 p.line, .int .i64 p.word]] w (Rets h w (fun _ _ res_ => res_ = .tuple #[.agg #[strV ((askR t x p).to).stem, .int .u8 ((askR t x p).to).mark], .int .i64 (askE t x p)])) := by
 refine zS (n := 20) Tryz.func79 X X X<|have st0:=t_s0 hs;have t_f0_b:=t_f0.le;have x_f0_b:=x_f0.le;have x_f1_b:=x_f1.le;W.sr<|zG st0 (cs := [t_v0]) X X X<|fun b1 w2 h3 le4 hc5 st6=>zG st6 (cs := [x_v0, x_v1]) X X X<|fun b7 w8 h9 le10 hc11 st12=>zG st12 (cs := [.int .i64 (p.chapter), .int .i64 (p.line), .int .i64 (p.word)]) X X X<|fun b13 w14 h15 le16 hc17 st18=>zae st18 zdb X X<|fun b19 w20 st21=>zz X X<|Y<|W.sr<|zy st21.sub (hc5.up (le10.trans le16)) X zaO zac X X<|zy st21.sub (hc11.up le16) X zaK zR X X<|zy st21.sub hc17 X zaD zO X X<|have l22:=(le4.trans le10).trans le16;zn st21 X X X Tryz.call110 X (c_stem_asked st21.sub (t := t) (t_f0.up l22) (x := x) (x_f0.up l22) (x_f1.up l22) (p := p) (K1.up l22))<|fun r23 w24 h25 le26 st27 q28=> ?_
 obtain rfl := q28
 refine zdu X X<|zak (v := (.agg (List.toArray _))) X X X<|zak (v := (.int _ _)) X X X<|zae st27 zbD X X<|fun b29 w30 st31=>zM st31 (k := 1) X X X (za X (za X (za X (za X (za X (za X (za X (za X (za X zap))))))))) zK X X X<|fun w32 st33=> ?_
 obtain ⟨h34, le35, hb36, st38⟩ := st33.freeze (k := 1) rfl
 have hc37 := Cells.of hb36
 refine zz X X<|Y<|W.sr<|U X zi X zT X X<|zab (j := 6) st38.sub hc37 (us := [strV ((askR (t) (x) (p)).to.stem), .int .u8 ((askR (t) (x) (p)).to.mark)]) X X zbl zT X X X<|zk X X<|zM st38 (k := 0) X X X (za X (za X zap)) zT X X X<|fun w39 st40=> ?_
 obtain ⟨h41, le42, hb43, st45⟩ := st40.freeze (k := 0) rfl
 have hc44 := Cells.of hb43
 refine zz X X<|Y<|zB<|zhK Tryz.results79 X zbl zT X st45.sub hc44 ?_
 refine ⟨h41, _, rfl, st45.done, ?_⟩
 refine tup2 ?_ (zar ?_)
 all_goals rfl
end Go.Pk

namespace Go.Pk
open Go Go.RowKit Go.Proofs
theorem c_stem_office_entries {h : Heap} {w : World} (hs : Sub h w) {o_b : Nat} {o : Office} {o_v0 : Value} (o_f0 : Sl LRule h o_v0 o.lex.rules) {o_v1 : Value} (o_f1 : Sl LDecision h o_v1 o.lex.decisions) {o_v2 : Value} (o_f2 : Sl LChapter h o_v2 o.text.chapters) {o_v3 : Value} (o_f3 : FML (fun n : Int => .int .i64 n) (fun x : Decision => [.int .i64 x.number, .int .u8 x.kind, strV x.form, .int .i64 x.at_.chapter, .int .i64 x.at_.line, .int .i64 x.at_.word, strV x.to.stem, .int .u8 x.to.mark, .int .i64 x.of_]) LDecision h o.stands o_v3) (o_c : Cells h o_b 0 [o_v0, o_v1, o_v2, o_v3]) (K1 : Cells h 1 0 Tryz.glob1) (ho : OkO o) : Calls Tryz.prog 118 #[.pointer (some ⟨o_b, 0, none⟩)] w (Rets h w (fun h' _ res_ => ∃ u0, res_ = u0 ∧ Sl LEntry h' u0 ((zbt o.text o.lex)))) := by
 refine zS (n := 55) Tryz.func118 X X X<|have st0:=t_s0 hs;have o_f0_b:=o_f0.le;have o_f1_b:=o_f1.le;have o_f2_b:=o_f2.le;have ht:=zcx ho.1;have hchl:=zej ht;W.sr<|zcz X X<|Y<|W.sr<|zcz X X<|Y<|zj<|W.sr<|v_mvP X X<|zq X X (zdv X)<|U X zdE X zac X X<|U X zaF X zbi X X<|E (j := 2) st0.sub o_c X X X zby X<|zaJ o_f2 X zay X<|zk X X<|Y<|zF ?_
 have st4 := st0.snoc
 have f5 := OSl.nil LEntry 190 h
 refine zat (t_rg 3 7 ++ t_rg 16 38) (G := Nat × Value × List (Nat × Obj) × Heap) (fun ⟨i, v_3, o_3, h1⟩ => [(3, v_3), (16, .int .i64 (i : Int))]) (fun ⟨i, v_3, o_3, h1⟩ w' => Le h h1 ∧ St h w h1 w' [o_3] ∧ (OSl LEntry 190 h1 v_3 (((List.range i).flatMap (chapP o.text)).map (entryAt o.text o.lex)) o_3) ∧ (i ≤ o.text.chapters.length)) (fun ⟨i, v_3, o_3, h1⟩ => o.text.chapters.length - i) ⟨0, (.slice none 0 0), [], h⟩ ⟨rfl, rfl, trivial⟩ ⟨Le.refl _, st4, (OSl.to f5 (by rfl)), zaM⟩ ?_
 rintro ⟨i, v_3, o_3, h1⟩ _ w6 ⟨le2, st3, hO_3, hi⟩
 refine W.sr<|zaV X X X<|Y<|zj ?_
 refine zH rfl (fun c7 => ?_) (fun c7 => ?_)
 ·
  refine zC<|O<|zj<|zF<|W.sr<|zk X X ?_
  obtain ⟨c, hc⟩ : ∃ y_, (o.text.chapters)[i]? = some y_ := t_ge (by omega)
  obtain ⟨b8, o9, _, he11, hc10, hr_c⟩ := Sl.elem (o_f2.up le2) hc
  obtain ⟨v12, rfl, f13⟩ := hr_c
  have f13_b := f13.le
  refine zV he11 X X (hk := X) (hu := zay) (hz := zbg) X<|zy st3.sub hc10 X Tryz.isAgg152 zbg X X<|zae st3 zex X X<|fun b14 w15 st16=>zz X X<|zM st16 (k := 1) X X X (za X (za f13.one zap)) zbg X X X<|fun w17 st18=> ?_
  obtain ⟨h19, le20, hb21, st23⟩ := st18.freeze (k := 1) rfl
  have hc22 := Cells.of hb21
  refine zt ?_
  have q5 := zfT ht i
  rw [zei hc] at q5
  refine O<|W.sr<|U X zal X zbq X X<|E (j := 1) st23.sub hc22 X X X zbH X<|zaJ (f13.up le20) X zaH X<|zk X X<|Y<|zF ?_
  refine zat ([3, 6, 7, 8, 9] ++ t_rg 24 29) (G := Nat × Value × List (Nat × Obj) × Heap) (fun ⟨n, v_3, o_3, h24⟩ => [(3, v_3), (24, .int .i64 (n : Int))]) (fun ⟨n, v_3, o_3, h24⟩ w' => Le h19 h24 ∧ St h w h24 w' [o_3, []] ∧ (OSl LEntry 190 h24 v_3 (((List.range i).flatMap (chapP o.text) ++ (List.range n).flatMap (lineP o.text i)).map (entryAt o.text o.lex)) o_3) ∧ (n ≤ c.lines.length)) (fun ⟨n, v_3, o_3, h24⟩ => c.lines.length - n) ⟨0, v_3, o_3, h19⟩ ⟨rfl, rfl, trivial⟩ ⟨Le.refl _, st23, (OSl.to (hO_3.up le20) (by simp)), zaM⟩ ?_
  rintro ⟨n, v_3, o_3, h24⟩ _ w27 ⟨le25, st26, hO_3, hn⟩
  refine W.sr<|zaV X X X<|Y<|zj ?_
  refine zH rfl (fun c28 => ?_) (fun c28 => ?_)
  ·
   refine zC<|O<|zj<|zF<|W.sr<|zk X X ?_
   obtain ⟨ln, hln⟩ : ∃ y_, (c.lines)[n]? = some y_ := t_ge (by omega)
   obtain ⟨b29, o30, _, he32, hc31, hr_ln⟩ := Sl.elem (f13.up (le20.trans le25)) hln
   obtain ⟨v33, rfl, f34⟩ := hr_ln
   have f34_b := f34.le
   refine zV he32 X X (hk := X) (hu := zaH) (hz := zcV) X<|E (j := 0) st26.sub hc31 X X X zdk X<|zz X X<|zaj (v := v33) X X<|zt ?_
   have q4 := zfO ht i n
   rw [zeD hc hln] at q4
   refine O<|W.sr<|zaa (v := v33) X X<|zaJ f34 X zA X<|zk X X<|Y<|zF ?_
   refine zat ([3, 8, 9] ++ t_rg 31 21) (G := Nat × Value × List (Nat × Obj) × Heap) (fun ⟨m, v_3, o_3, h35⟩ => [(3, v_3), (31, .int .i64 (m : Int))]) (fun ⟨m, v_3, o_3, h35⟩ w' => Le h24 h35 ∧ St h w h35 w' [o_3, []] ∧ (OSl LEntry 190 h35 v_3 (((List.range i).flatMap (chapP o.text) ++ (List.range n).flatMap (lineP o.text i) ++ (List.range m).map (mkP i n)).map (entryAt o.text o.lex)) o_3) ∧ (m ≤ ln.length)) (fun ⟨m, v_3, o_3, h35⟩ => ln.length - m) ⟨0, v_3, o_3, h24⟩ ⟨rfl, rfl, trivial⟩ ⟨Le.refl _, st26, (OSl.to hO_3 (by simp)), zaM⟩ ?_
   rintro ⟨m, v_3, o_3, h35⟩ _ w38 ⟨le36, st37, hO_3, hm⟩
   refine W.sr<|zaV X X X<|Y<|zj ?_
   refine zH rfl (fun c39 => ?_) (fun c39 => ?_)
   ·
    refine zC<|O<|zj<|zF<|W.sr<|zk X X<|zz X X<|Y<|W.sr<|zk X X<|zk X X<|zk X X<|zq X X (zbW (cs := [.int .i64 (i : Int), .int .i64 (n : Int), .int .i64 (m : Int)]) t_kr)<|zae st37 Tryz.zeroValue70 X X<|fun b40 w41 st42=>zM st42 (k := 2) X X X (za X (za X (za X zap))) zO X X X<|fun w43 st44=> ?_
    obtain ⟨h45, le46, hb47, st49⟩ := st44.freeze (k := 2) rfl
    have hc48 := Cells.of hb47
    refine Y ?_
    have hp0 := place_mk (w := m) hc hln (by omega)
    have hhd := winD_ok ho.1 hp0
    simp only [mkP] at hp0 hhd
    obtain ⟨wd, hwd⟩ : ∃ y_, (ln)[m]? = some y_ := t_ge (by omega)
    obtain ⟨b50, o51, _, he53, hc52, hr_wd⟩ := Sl.elem (f34.up (le36.trans le46)) hwd
    obtain ⟨rfl, ls54⟩ := hr_wd
    simp only [big] at ls54
    refine zbh (er := ([], [3], [0], [], 0)) (dsts := [38, 39, 40, 41, 42, 43, 44, 45, 46, 47, 48, 49, 50, 3]) st49 Tryz.mixed<|zf 0 [] X t_kr t_kr X X (fun hD wD τD hL hS hO  => (zdp (v := v_3) X))<|zf 1 [] X t_kr t_kr X X (fun hD wD τD hL hS hO  => (zZ (hL.sub hS) hc48 X zaD zO X))<|zf 2 [] X t_kr t_kr X X (fun hD wD τD hL hS hO  => (zdp (v := v33) X))<|zf 3 [] X t_kr t_kr X X (fun hD wD τD hL hS hO  => (zdP X))<|zf 4 [1, 0] X t_kr t_kr X X (fun hD wD τD hL hS hO _ _ _ _ => (zao he53 X X (hk := X) (hu := zA) (hz := zW)))<|zf 5 [0] X t_kr t_kr X X (fun hD wD τD hL hS hO _ _ => (ze (j := 0) (hL.sub hS) hc52 X X X zaw))<|zf 6 [] X t_kr t_kr X X (fun hD wD τD hL hS hO  => (r_mvP X))<|zf 7 [] X t_kr t_kr X X (fun hD wD τD hL hS hO  => (zZ (hL.sub hS) hc48 X zaD zO X)) ?_
    refine zax 8 (.det (.agg (List.toArray [.int .i64 ((winD (o).lex ((Place.mk ((i : Int)) ((n : Int)) ((m : Int)))) (zbC (o).text ((Place.mk ((i : Int)) ((n : Int)) ((m : Int)))))).number), .int .u8 ((winD (o).lex ((Place.mk ((i : Int)) ((n : Int)) ((m : Int)))) (zbC (o).text ((Place.mk ((i : Int)) ((n : Int)) ((m : Int)))))).kind), strV ((winD (o).lex ((Place.mk ((i : Int)) ((n : Int)) ((m : Int)))) (zbC (o).text ((Place.mk ((i : Int)) ((n : Int)) ((m : Int)))))).form), .int .i64 ((winD (o).lex ((Place.mk ((i : Int)) ((n : Int)) ((m : Int)))) (zbC (o).text ((Place.mk ((i : Int)) ((n : Int)) ((m : Int)))))).at_.chapter), .int .i64 ((winD (o).lex ((Place.mk ((i : Int)) ((n : Int)) ((m : Int)))) (zbC (o).text ((Place.mk ((i : Int)) ((n : Int)) ((m : Int)))))).at_.line), .int .i64 ((winD (o).lex ((Place.mk ((i : Int)) ((n : Int)) ((m : Int)))) (zbC (o).text ((Place.mk ((i : Int)) ((n : Int)) ((m : Int)))))).at_.word), strV ((winD (o).lex ((Place.mk ((i : Int)) ((n : Int)) ((m : Int)))) (zbC (o).text ((Place.mk ((i : Int)) ((n : Int)) ((m : Int)))))).to.stem), .int .u8 ((winD (o).lex ((Place.mk ((i : Int)) ((n : Int)) ((m : Int)))) (zbC (o).text ((Place.mk ((i : Int)) ((n : Int)) ((m : Int)))))).to.mark), .int .i64 ((winD (o).lex ((Place.mk ((i : Int)) ((n : Int)) ((m : Int)))) (zbC (o).text ((Place.mk ((i : Int)) ((n : Int)) ((m : Int)))))).of_)]))) [1, 0] rfl t_kr t_kr ?_ ?_
    ·
     intro hD wD τD hL hS hO _ _ _ _
     have st55 := St.start hS
     refine zn st55 rfl rfl rfl Tryz.call150 rfl (zhA st55.sub (o := o) (o_f0.up (((((le2.trans le20).trans le25).trans le36).trans le46).trans hL)) (o_f1.up (((((le2.trans le20).trans le25).trans le36).trans le46).trans hL)) (o_f2.up (((((le2.trans le20).trans le25).trans le36).trans le46).trans hL)) (o_f3.up (((((le2.trans le20).trans le25).trans le36).trans le46).trans hL)) (o_c.up (((((le2.trans le20).trans le25).trans le36).trans le46).trans hL)) (p := (Place.mk ((i : Int)) ((n : Int)) ((m : Int)))) (K1.up (((((le2.trans le20).trans le25).trans le36).trans le46).trans hL)) (by exact ho) (by exact hp0)) ?_
     intro r56 w57 h58 le59 st60 q61
     obtain rfl := q61
     exact zt ⟨_, _, rfl, st60, (), rfl, trivial⟩
    refine zf 9 [0] X t_kr t_kr X X (fun hD wD τD hL hS hO _ _ => (r_fieldN (us := [strV ((winD (o).lex ((Place.mk ((i : Int)) ((n : Int)) ((m : Int)))) (zbC (o).text ((Place.mk ((i : Int)) ((n : Int)) ((m : Int)))))).to.stem), .int .u8 ((winD (o).lex ((Place.mk ((i : Int)) ((n : Int)) ((m : Int)))) (zbC (o).text ((Place.mk ((i : Int)) ((n : Int)) ((m : Int)))))).to.mark)]) X zi X zbl zT X X))<|zf 10 [8, 4, 0] X t_kr t_kr X X (fun hD wD τD hL hS hO _ _ _ _ _ _ => (zbW (cs := [.int .i64 (i : Int), .int .i64 (n : Int), .int .i64 (m : Int), strV wd, strV ((winD (o).lex ((Place.mk ((i : Int)) ((n : Int)) ((m : Int)))) (zbC (o).text ((Place.mk ((i : Int)) ((n : Int)) ((m : Int)))))).to.stem), .int .u8 ((winD (o).lex ((Place.mk ((i : Int)) ((n : Int)) ((m : Int)))) (zbC (o).text ((Place.mk ((i : Int)) ((n : Int)) ((m : Int)))))).to.mark)]) t_kr)) ?_
    refine zax 11 (.res (fun h' res_ => Sl LEntry h' res_ ([(Entry.mk ((Place.mk ((i : Int)) ((n : Int)) ((m : Int)))) (wd) ((winD (o).lex ((Place.mk ((i : Int)) ((n : Int)) ((m : Int)))) (zbC (o).text ((Place.mk ((i : Int)) ((n : Int)) ((m : Int)))))).to))])) (fun _ _ _ hl f => f.up hl)) [0] rfl t_kr t_kr ?_ ?_
    ·
     intro hD wD τD hL hS hO _ _
     have st62 := St.start hS
     refine zaL (L := LEntry) (xs := [(Entry.mk ((Place.mk ((i : Int)) ((n : Int)) ((m : Int)))) (wd) ((winD (o).lex ((Place.mk ((i : Int)) ((n : Int)) ((m : Int)))) (zbC (o).text ((Place.mk ((i : Int)) ((n : Int)) ((m : Int)))))).to))]) (cs := [.int .i64 (i : Int), .int .i64 (n : Int), .int .i64 (m : Int), strV wd, strV ((winD (o).lex ((Place.mk ((i : Int)) ((n : Int)) ((m : Int)))) (zbC (o).text ((Place.mk ((i : Int)) ((n : Int)) ((m : Int)))))).to.stem), .int .u8 ((winD (o).lex ((Place.mk ((i : Int)) ((n : Int)) ((m : Int)))) (zbC (o).text ((Place.mk ((i : Int)) ((n : Int)) ((m : Int)))))).to.mark)]) st62 (Enc.cons (L := LEntry) (vs := [.int .i64 (i : Int), .int .i64 (n : Int), .int .i64 (m : Int), strV wd, strV ((winD (o).lex ((Place.mk ((i : Int)) ((n : Int)) ((m : Int)))) (zbC (o).text ((Place.mk ((i : Int)) ((n : Int)) ((m : Int)))))).to.stem), .int .u8 ((winD (o).lex ((Place.mk ((i : Int)) ((n : Int)) ((m : Int)))) (zbC (o).text ((Place.mk ((i : Int)) ((n : Int)) ((m : Int)))))).to.mark)]) (x := (Entry.mk ((Place.mk ((i : Int)) ((n : Int)) ((m : Int)))) (wd) ((winD (o).lex ((Place.mk ((i : Int)) ((n : Int)) ((m : Int)))) (zbC (o).text ((Place.mk ((i : Int)) ((n : Int)) ((m : Int)))))).to))) (h := hD) (⟨rfl, zba, zba, t_u8⟩) Enc.nil) X X X Tryz.underlying187 Tryz.info190 X X X t_kr<|fun v63 w64 h67 le68 f65 st66=> ?_
     exact zt ⟨_, _, rfl, st66, _, rfl, f65⟩
    refine zbx<|zbx<|zbN X X X X X X ⟨t_kr, X, t_kr, X, t_kr, X, X, t_kr, (zbe X (zbe X zcl))⟩<|fun hE70 w71 _ le72 st73 _ _ gv11_0x69 gf11_0x69 _ _=> ?_
    refine zaR (k := 0) (nb := 64) st73 (hO_3.up (le46.trans le72)) rfl gf11_0x69 rfl rfl rfl Tryz.underlying187 Tryz.info190 rfl rfl rfl (by decide) rfl (by have q1 := zcW (zgH ht) i; have q2 := zcW (zil ht i) n; have q3 := zej ht; have q4 := zfO ht i n; have q5 := zfT ht i; rw [zei hc] at q5; rw [zeD hc hln] at q4; simp only [List.length_append, List.length_map, List.length_range, List.length_cons, List.length_nil]; omega) (by have q1 := zcW (zgH ht) i; have q2 := zcW (zil ht i) n; have q3 := zej ht; have q4 := zfO ht i n; have q5 := zfT ht i; rw [zei hc] at q5; rw [zeD hc hln] at q4; simp only [List.length_append, List.length_map, List.length_range, List.length_cons, List.length_nil]; omega) ?_
    intro v74 o75 w76 _ e77 f78 st79
    subst e77
    refine zt ⟨_, rfl, _, _, Le.refl _, st79, ?_⟩
    intro hE81 w82 _ le83 st84 _ _ _ _ _ _ _ _ _ _ _ _ _ _ _ _ _ _ _ _ _ _ gv11_0x80 gf11_0x80
    refine zaj (v := v74) X X ?_
    refine zt ⟨_, rfl, _, _, Le.refl _, st84, ?_⟩
    intro hE85 w86 _ le87 st88 _ _ _ _ _ _ _ _ _ _ _ _ _ _ _ _ _ _ _ _ _ _ gv11_0x89 gf11_0x89
    refine AllDeps.fin X<|zP<|O<|zo<|zaP X X t_om X<|zk X X<|Y ?_
    have l90 := (((le36.trans le46).trans le72).trans le83).trans le87
    refine ⟨⟨m + 1, v74, o75, hE85⟩, ⟨rfl, rfl, trivial⟩, ?_, ⟨l90, st88.take 2, ?_, ?_⟩, ?_⟩
    ·exact zav
    ·refine OSl.to (f78.up (le83.trans le87)) ?_
     have hww := word_mk hc hln hwd
     simp only [mkP] at hww
     rw [List.range_succ]; simp only [List.map_append, List.append_assoc, List.map_cons, List.map_nil, entryAt, zhZ, mkP, hww]
    ·first | omega | (simp; omega)
    show ln.length - ((m + 1)) < ln.length - m
    omega
   refine zaC<|zh<|zh<|zah<|zP<|O<|zo<|zaP X X t_om X<|zk X X<|Y ?_
   refine ⟨⟨n + 1, v_3, o_3, h35⟩, ⟨rfl, rfl, trivial⟩, ?_, ⟨(le25.trans le36), st37, ?_, ?_⟩, ?_⟩
   ·exact zav
   ·refine OSl.to hO_3 ?_
    rw [zcA, ← lineP_snoc hc hln (w := m) (by omega), List.append_assoc]
   ·first | omega | (simp; omega)
   show c.lines.length - ((n + 1)) < c.lines.length - n
   omega
  refine zaC<|zh<|zh<|zah<|zP<|O<|zo<|zaP X X t_om X<|zk X X<|Y ?_
  have l91 := (le2.trans le20).trans le25
  refine ⟨⟨i + 1, v_3, o_3, h24⟩, ⟨rfl, rfl, trivial⟩, ?_, ⟨l91, st26.take 1, ?_, ?_⟩, ?_⟩
  ·exact zav
  ·refine OSl.to hO_3 ?_
   rw [zcA, ← chapP_snoc hc (n := n) (by omega)]
  ·first | omega | (simp; omega)
  show o.text.chapters.length - ((i + 1)) < o.text.chapters.length - i
  omega
 refine zaC<|zh<|zh<|zah<|O<|W.sr<|zaa (v := v_3) X X<|zaj (v := v_3) X X<|Y<|zB<|zc Tryz.results118 ?_
 obtain ⟨h92, le93, f94, st95⟩ := OSl.freeze (k := 0) st3 hO_3 rfl (by have q1 := zcW (zgH ht) i; have q3 := zej ht; rw [List.length_map]; omega)
 refine ⟨h92, _, rfl, st95.done, ?_⟩
 refine ⟨_, rfl, Sl.to f94 ?_⟩
 rw [show i = o.text.chapters.length by omega]; rfl
end Go.Pk

namespace Go.Pk
open Go Go.RowKit Go.Proofs
theorem zfm {xs : List Str} {v : Value} {o : List (Nat × Obj)} {g : FuncId} {caps : List Value} {h0 h : Heap} {w0 w : World} {own : Own} {i : Nat} (st : St h0 w0 h w own) (hO : OSl LStr 9 h v xs o) (hi : own[i]? = some o) (hb : xs.length ≤ 281474976710656) (q : Str → Bool)
  (hg : ∀ a w, (callFunc g a).run Tryz.prog w = .ok (.enter g a) w)
  (hf : ∀ x h' w' vs, Le h h' → Sub h' w' → x ∈ xs → LStr.R h' vs x → ∀ u, vs = [u] → Calls Tryz.prog g (u :: caps).toArray w' (Rets h' w' fun _ _ r => r = .bool (q x))) :
  Calls Tryz.prog 123 #[v, .func (.func g) #[] caps.toArray] w (fun e w' => ∃ k, e = .returned (.int .i64 (if k < xs.length then (k : Int) else -1)) ∧ k ≤ xs.length ∧ (∀ j x, j < k → xs[j]? = some x → q x = false) ∧ (∀ x, xs[k]? = some x → q x = true) ∧ St h0 w0 h w' own) := by
 obtain ⟨hall, hx⟩ := OSl.whole st hO hi hb
 refine (zdG (fun k h' w' => St (zfd w) w h' w' [] ∧ k ≤ xs.length) (fun k => ((xs[k]?).map q).getD false) (fun k h' w' hk => ⟨hk.1.sub, hx.up hk.1.le⟩) ?_ hg ⟨St.start (zfc w), Nat.zero_le _⟩).mono ?_
 ·rintro k x h' w' vs ⟨st', _⟩ hk hr u hu
  refine (hf x h' w' vs (hall.trans st'.le) st'.sub (List.mem_of_getElem? hk) hr u hu).mono ?_
  rintro e w'' ⟨h'', r, rfl, s, rfl⟩
  obtain ⟨hlt, _⟩ := List.getElem?_eq_some_iff.1 hk
  exact ⟨h'', by simp [hk], st'.call0 s, hlt⟩
 ·rintro e w' ⟨h', k, rfl, q1, q2, q3, q4⟩
  refine ⟨k, rfl, q1, fun j x hj hx => ?_, fun x hx => ?_, st.call0 (St.thaw q4.1 st.sub)⟩
  ·have := q2 j hj; simpa [hx] using this
  ·obtain ⟨hlt, _⟩ := List.getElem?_eq_some_iff.1 hx
   have := q3 hlt; simpa [hx] using this
theorem zfN {h0 h : Heap} {w0 w : World} {rest : Own} {s : (List Str)} {s_o : List (Nat × Obj)} {s_v : Value} (s_f : OSl LStr 9 h s_v s s_o) {g : FuncId} {caps : List Value} (q : Str → Bool) (hb : s.length ≤ 281474976710656) (hg : ∀ a w, (callFunc g a).run Tryz.prog w = .ok (.enter g a) w) (hf : ∀ x h' w' vs, Le h h' → Sub h' w' → x ∈ s → LStr.R h' vs x → ∀ u, vs = [u] → Calls Tryz.prog g (u :: caps).toArray w' (Rets h' w' fun _ _ r => r = .bool (q x))) (st0 : St h0 w0 h w (s_o :: rest)) : Calls Tryz.prog 86 #[s_v, .func (.func g) #[] caps.toArray] w (fun e_ w' => ∃ h' s_o' v', e_ = .returned v' ∧ Le h h' ∧ St h0 w0 h' w' (s_o' :: rest) ∧ OSl LStr 9 h' v' (s.filter fun x => !q x) s_o') := by
 refine zS (n := 42) Tryz.func86 X X X<|W.sr<|zcz X X<|Y<|W.sr<|zaa (v := s_v) X X<|zaa X X ?_
 refine zaT rfl rfl (zbc rfl Tryz.call123 rfl) ((zfm (i := 0) st0 s_f rfl hb q hg (fun x h1 w1 vs le_ => hf x h1 w1 vs ((Le.refl _).trans le_))).mono ?_)
 rintro _ w1 ⟨kq, rfl, hk1, hk2, hk3, st6⟩
 refine ⟨_, rfl, ?_⟩
 obtain ⟨rq, hrq⟩ : ∃ r : Int, r = if kq < s.length then (kq : Int) else -1 := ⟨_, rfl⟩
 rw [← hrq]
 refine zz X X<|Y<|zj<|W.sr<|zk X X<|zee X X X<|Y ?_
 refine zH rfl (fun c9 => ?_) (fun c9 => ?_)
 ·
  refine W.sr<|zaa (v := s_v) X X<|zaj (v := s_v) X X<|Y<|zB<|zd<|zc Tryz.results86 ?_
  refine ⟨h, _, _, rfl, (Le.refl _), st6, OSl.to s_f ?_⟩
  exact (filter_none (fun j x hj hx => hk2 j x (by by_cases q : kq < s.length; (rw [if_pos q] at hrq; have q2 := c9; omega); omega) hx)).symm
 refine zC<|O<|zj<|zj ?_
 have hk : kq < s.length := by
  by_cases q : kq < s.length
  ·exact q
  ·rw [if_neg q] at hrq; exact absurd hrq c9
 rw [if_pos hk] at hrq
 refine zo<|zk X X<|zaP X X t_om X<|zz X X<|Y<|zF ?_
 refine zat ([0, 5, 6, 7] ++ t_rg 16 20) (G := Nat × Nat × List Str × Value × List (Nat × Obj) × Heap) (fun ⟨i, j, ys, v_0, o_0, h10⟩ => [(0, v_0), (5, .int .i64 (i : Int)), (6, .int .i64 (j : Int))]) (fun ⟨i, j, ys, v_0, o_0, h10⟩ w' => Le h h10 ∧ St h0 w0 h10 w' (o_0 :: rest) ∧ (OSl LStr 9 h10 v_0 (ys) o_0) ∧ (DelF q s ys i j) ∧ (ys.length = s.length ∧ i ≤ j ∧ j ≤ s.length)) (fun ⟨i, j, ys, v_0, o_0, h10⟩ => s.length - j) ⟨kq, kq + 1, s, s_v, s_o, h⟩ ⟨rfl, (zar (by omega)), (zar (by omega)), trivial⟩ ⟨Le.refl _, st6, (OSl.to s_f (by rfl)), (by exact DelF.start hk2 hk3 hk), (by exact ⟨rfl, by omega, by omega⟩)⟩ ?_
 rintro ⟨i, j, ys, v_0, o_0, h10⟩ _ w13 ⟨le11, st12, hO_0, hD, hyl⟩
 refine zj<|W.sr<|zk X X<|zaa (v := v_0) X X<|zeu hO_0 X zA X<|zaV X X X<|Y ?_
 refine zH rfl (fun c14 => ?_) (fun c14 => ?_)
 ·
  refine zC<|O<|zj<|zF<|W.sr<|zaa (v := v_0) X X<|zk X X ?_
  obtain ⟨y, hy⟩ : ∃ y_, (ys)[j]? = some y_ := t_ge (by omega)
  obtain ⟨b15, o16, cur17, _, e20, he18, hr_y, hc19⟩ := OSl.elem hO_0 hy
  subst e20
  obtain ⟨rfl, ls21⟩ := hr_y
  simp only [big] at ls21
  refine zV he18 X X (hk := X) (hu := zA) (hz := zW) X<|zq X X (zct (j := 0) (st12.get (k := 0) X) hc19 X X X zaw)<|zdR X X<|Y<|W.sr<|zaa X X<|zbX X X ?_
  refine zaT rfl rfl (zcb (fs := []) (cs := caps) rfl rfl hg rfl) ((hf y _ _ _ le11 st12.sub (List.mem_of_getElem? (hD.get hy)) ⟨rfl, zba⟩ _ rfl).mono ?_)
  rintro _ w22 ⟨h23, _, rfl, s24, rfl⟩
  refine ⟨_, rfl, ?_⟩
  have st25 := st12.call0 s24
  have le26 := s24.le
  refine zbQ X X<|Y ?_
  refine zad rfl (fun c27 => ?_) (fun c27 => ?_)
  ·
   refine W.sr<|zaa (v := v_0) X X<|zk X X<|zbX X X ?_
   obtain ⟨y2, hy2⟩ : ∃ y_, (ys)[i]? = some y_ := t_ge (by omega)
   obtain ⟨b28, o29, cur30, _, e33, he31, hr_y2, hc32⟩ := OSl.elem (hO_0.up le26) hy2
   obtain ⟨hb34, hc35⟩ : b15 = b28 ∧ cur17 = cur30 := by cases e33; exact ⟨rfl, rfl⟩
   subst hb34
   subst hc35
   obtain ⟨rfl, ls36⟩ := hr_y2
   simp only [big] at ls36
   refine zq rfl rfl (zao he31 rfl rfl (hk := (show _ = ((i : Nat) : Int) by omega)) (hu := zA) (hz := zW)) ?_
   refine zdi (k := 0) st25 (hO_0.up le26) rfl (by omega) he31 rfl rfl (⟨rfl, zba⟩) zW ?_
   intro o37 w38 _ e39 f40 st41
   subst e39
   refine Y<|zo<|zk X X<|zaP X X t_om X<|zz X X<|zt<|zP<|O<|zo<|zk X X<|zaP X X t_om X<|zz X X<|Y ?_
   have l42 := le11.trans le26
   refine ⟨⟨i + 1, j + 1, (ys.set i y), v_0, o37, h23⟩, ⟨rfl, rfl, rfl, trivial⟩, ?_, ⟨l42, st41, ?_, ?_, ?_⟩, ?_⟩
   ·exact zav
   ·refine OSl.to f40 ?_
    rfl
   ·exact hD.keep hy (by simpa using c27)
   ·refine ⟨by first | (rw [List.length_set]; exact hyl.1) | exact hyl.1, by omega, by omega⟩
   show s.length - ((j + 1)) < s.length - j
   omega
  refine zC<|zP<|O<|zo<|zk X X<|zaP X X t_om X<|zz X X<|Y ?_
  have l43 := le11.trans le26
  refine ⟨⟨i, j + 1, ys, v_0, [(b15, .cells cur17 9)], h23⟩, ⟨rfl, rfl, rfl, trivial⟩, ?_, ⟨l43, st25, ?_, ?_, ?_⟩, ?_⟩
  ·exact zav
  ·refine OSl.to (hO_0.up le26) ?_
   rfl
  ·exact hD.skip hy (by simpa using c27)
  ·refine ⟨by first | (rw [List.length_set]; exact hyl.1) | exact hyl.1, by omega, by omega⟩
  show s.length - ((j + 1)) < s.length - j
  omega
 refine zaC<|zh<|zh<|zah<|O<|W.sr<|zaa (v := v_0) X X<|zk X X ?_
 refine zq rfl rfl (zgD hO_0 rfl rfl (hk := (show _ = ((i : Nat) : Int) by omega)) (by omega) zA zW) ?_
 refine OpsL.clearTail (k := 0) (j := i) st12 hO_0 rfl (by omega) rfl zA Tryz.zeroValue9 rfl (by decide) ?_
 intro o44 w45 _ e46 f47 st48
 subst e46
 refine Y<|W.sr<|zaa (v := v_0) X X<|zk X X ?_
 refine zq rfl rfl (r_slice_to_own hO_0 rfl rfl (hk := (show _ = ((i : Nat) : Int) by omega)) (by omega) zA zW) ?_
 refine zaj (v := (vtake v_0 (i))) X X<|Y<|zB<|zc Tryz.results86 ?_
 refine ⟨h10, _, _, rfl, le11, st48, OSl.to f47 ?_⟩
 exact hD.fin (by omega)
end Go.Pk
