/- A PART OF THE PROOF: contracts of functions, each walked once (much of it printed by a program of the author's own). -/
import Derived.Test.YtfpiiheehdedmaaGreatDoorT6
import Derived.Test.YtfpiiheehdedmaaGreatDoorT2
import Derived.Test.YtfpiiheehdedmaaGreatDoorT1
import Derived.Test.YtfpiiheehdedmaaGreatDoorT4
import Derived.Test.YtfpiiheehdedmaaGreatDoorT5
set_option linter.unusedSimpArgs false
set_option linter.unusedVariables false
namespace Go.Pk
open Go Go.RowKit Go.Proofs
set_option maxRecDepth 4000 in
theorem c_postilref01_SameWords {h : Heap} {w : World} (hs : Sub h w) {a_v : Value} {a : (List Str)} (a_f : Sl LStr h a_v a) {b_v : Value} {b : (List Str)} (b_f : Sl LStr h b_v b) : Calls Tryz.prog 32 #[a_v, b_v] w (Rets h w (fun _ _ res_ => res_ = .bool (decide (a = b)))) := by
 refine zz (n := 26) (args := [a_v, b_v]) Tryz.func32 X X X ?_
 have st0 : St h w h w [] := St.start hs
 have a_f_b := a_f.le
 have b_f_b := b_f.le
 refine W.sr<|v_asB X X<|Y<|zf<|W.sr<|v_move (v := a_v) X X<|v_len a_f X Tryz.underlying60 X<|v_move (v := b_v) X X<|v_len b_f X Tryz.underlying60 X<|v_neq X X X<|Y ?_
 refine zh rfl (fun c1 => ?_) (fun c1 => ?_)
 ·
  replace c1 := of_decide_eq_true c1
  refine W.sr<|v_asB X X<|Y<|zo<|E<|za Tryz.results32 ?_
  refine ⟨h, _, rfl, st0.done, ?_⟩
  refine zj ?_
  have q : a ≠ b := by
   rintro rfl
   simp_all
  simp [q]
 ·
  replace c1 := of_decide_eq_false c1
  refine zr<|U<|zf<|W.sr<|v_asI X X<|Y<|zs ?_
  refine zG [4, 5, 11, 12, 13, 14, 15, 16, 17, 18, 19, 20, 21, 22, 23, 24, 25] (G := Nat × Heap) (fun ⟨k, h2⟩ => [(5, .int .i64 (k : Int))]) (fun ⟨k, h2⟩ w' => Le h h2 ∧ St h w h2 w' [] ∧ (k ≤ a.length) ∧ (a.take k = b.take k)) (fun ⟨k, h2⟩ => a.length - k) ⟨0, h⟩ ⟨rfl, trivial⟩ ⟨Le.refl _, st0, zK, zK⟩ ?_
  rintro ⟨k, h2⟩ _ w5 ⟨le3, st4, hk, he⟩
  refine zf<|W.sr<|v_mvI X X<|v_move (v := a_v) X X<|v_len (a_f.up le3) X Tryz.underlying60 X<|v_lss X X X<|Y ?_
  refine zh rfl (fun c6 => ?_) (fun c6 => ?_)
  ·
   replace c6 := of_decide_eq_true c6
   refine zr<|U<|zf<|zs<|zf<|zS Tryz.mixed t_kr (Cls h2 _) (Cls.drew st4)<|u_move (v := a_v) X X<|u_mvI X X ?_
   have hx : ∃ y_, (a)[k]? = some y_ := ⟨_, List.getElem?_eq_getElem (by omega)⟩
   obtain ⟨x, hx⟩ := hx
   obtain ⟨b7, o8, _, he10, hc9, hr_x⟩ := Sl.elem (a_f.up le3) hx
   obtain ⟨rfl, ls11⟩ := hr_x
   simp only [big] at ls11
   refine u_index_el he10 X X (hk := X) (hu := Tryz.underlying60) (hz := Tryz.sizeOf9) X<|zm X X (fun _ hC => (zc (j := 0) hC.sub hc9 X X X Tryz.isAgg9))<|u_move (v := b_v) X X<|u_mvI X X ?_
   have hy : ∃ y_, (b)[k]? = some y_ := ⟨_, List.getElem?_eq_getElem (by omega)⟩
   obtain ⟨y, hy⟩ := hy
   obtain ⟨b12, o13, _, he15, hc14, hr_y⟩ := Sl.elem (b_f.up le3) hy
   obtain ⟨rfl, ls16⟩ := hr_y
   simp only [big] at ls16
   refine u_index_el he15 X X (hk := X) (hu := Tryz.underlying60) (hz := Tryz.sizeOf9) X<|zm X X (fun _ hC => (zc (j := 0) hC.sub hc14 X X X Tryz.isAgg9))<|zm X X (fun _ _ => (r_sneq X X))<|zI ?_
   rintro w17 ⟨h18, s19⟩
   have st20 := st4.call0 s19
   refine U ?_
   refine zh rfl (fun c21 => ?_) (fun c21 => ?_)
   ·
    replace c21 := of_decide_eq_true c21
    refine W.sr<|v_asB X X<|Y<|zo<|zn<|E<|E<|zn<|E<|za Tryz.results32 ?_
    refine ⟨h18, _, rfl, st20.done, ?_⟩
    refine zj ?_
    have q := ne_of_get hx hy (by simpa using c21)
    simp [q]
   ·
    replace c21 := of_decide_eq_false c21
    refine zr<|zw<|U<|zg<|v_mvI X X<|v_add X X t_om X<|v_asI X X<|Y ?_
    refine ⟨⟨k + 1, h18⟩, ⟨rfl, trivial⟩, ?_, ⟨(le3.trans s19.le), st20, ?_, ?_⟩, ?_⟩
    ·exact zH
    ·first | omega | (simp; omega)
    ·exact eq_take_succ he hx hy (by simpa using c21)
    ·show a.length - ((k + 1)) < a.length - k
     omega
  ·
   replace c6 := of_decide_eq_false c6
   refine zL<|ze<|ze<|zF<|U<|W.sr<|v_asB X X<|Y<|zo<|za Tryz.results32 ?_
   refine ⟨h2, _, rfl, st4.done, ?_⟩
   refine zj ?_
   have q := eq_of_take he (by omega) (by omega)
   simp [q]
set_option maxRecDepth 4000 in
theorem c_postilref07_SameInts {h : Heap} {w : World} (hs : Sub h w) {a_v : Value} {a : (List Int)} (a_f : Sl LInt h a_v a) {b_v : Value} {b : (List Int)} (b_f : Sl LInt h b_v b) : Calls Tryz.prog 21 #[a_v, b_v] w (Rets h w (fun _ _ res_ => res_ = .bool (decide (a = b)))) := by
 refine zz (n := 26) (args := [a_v, b_v]) Tryz.func21 X X X ?_
 have st0 : St h w h w [] := St.start hs
 have a_f_b := a_f.le
 have b_f_b := b_f.le
 refine W.sr<|v_asB X X<|Y<|zf<|W.sr<|v_move (v := a_v) X X<|v_len a_f X Tryz.underlying42 X<|v_move (v := b_v) X X<|v_len b_f X Tryz.underlying42 X<|v_neq X X X<|Y ?_
 refine zh rfl (fun c1 => ?_) (fun c1 => ?_)
 ·
  replace c1 := of_decide_eq_true c1
  refine W.sr<|v_asB X X<|Y<|zo<|E<|za Tryz.results21 ?_
  refine ⟨h, _, rfl, st0.done, ?_⟩
  refine zj ?_
  have q : a ≠ b := by
   rintro rfl
   simp_all
  simp [q]
 ·
  replace c1 := of_decide_eq_false c1
  refine zr<|U<|zf<|W.sr<|v_asI X X<|Y<|zs ?_
  refine zG [4, 5, 11, 12, 13, 14, 15, 16, 17, 18, 19, 20, 21, 22, 23, 24, 25] (G := Nat × Heap) (fun ⟨k, h2⟩ => [(5, .int .i64 (k : Int))]) (fun ⟨k, h2⟩ w' => Le h h2 ∧ St h w h2 w' [] ∧ (k ≤ a.length) ∧ (a.take k = b.take k)) (fun ⟨k, h2⟩ => a.length - k) ⟨0, h⟩ ⟨rfl, trivial⟩ ⟨Le.refl _, st0, zK, zK⟩ ?_
  rintro ⟨k, h2⟩ _ w5 ⟨le3, st4, hk, he⟩
  refine zf<|W.sr<|v_mvI X X<|v_move (v := a_v) X X<|v_len (a_f.up le3) X Tryz.underlying42 X<|v_lss X X X<|Y ?_
  refine zh rfl (fun c6 => ?_) (fun c6 => ?_)
  ·
   replace c6 := of_decide_eq_true c6
   refine zr<|U<|zf<|zs<|zf<|zS Tryz.mixed t_kr (Cls h2 _) (Cls.drew st4)<|u_move (v := a_v) X X<|u_mvI X X ?_
   have hx : ∃ y_, (a)[k]? = some y_ := ⟨_, List.getElem?_eq_getElem (by omega)⟩
   obtain ⟨x, hx⟩ := hx
   obtain ⟨b7, o8, _, he10, hc9, hr_x⟩ := Sl.elem (a_f.up le3) hx
   obtain rfl := hr_x
   refine u_index_el he10 X X (hk := X) (hu := Tryz.underlying42) (hz := Tryz.sizeOf3) X<|zm X X (fun _ hC => (zc (j := 0) hC.sub hc9 X X X Tryz.isAgg3))<|u_move (v := b_v) X X<|u_mvI X X ?_
   have hy : ∃ y_, (b)[k]? = some y_ := ⟨_, List.getElem?_eq_getElem (by omega)⟩
   obtain ⟨y, hy⟩ := hy
   obtain ⟨b11, o12, _, he14, hc13, hr_y⟩ := Sl.elem (b_f.up le3) hy
   obtain rfl := hr_y
   refine u_index_el he14 X X (hk := X) (hu := Tryz.underlying42) (hz := Tryz.sizeOf3) X<|zm X X (fun _ hC => (zc (j := 0) hC.sub hc13 X X X Tryz.isAgg3))<|u_neq X X X<|zI ?_
   rintro w15 ⟨h16, s17⟩
   have st18 := st4.call0 s17
   refine U ?_
   refine zh rfl (fun c19 => ?_) (fun c19 => ?_)
   ·
    replace c19 := of_decide_eq_true c19
    refine W.sr<|v_asB X X<|Y<|zo<|zn<|E<|E<|zn<|E<|za Tryz.results21 ?_
    refine ⟨h16, _, rfl, st18.done, ?_⟩
    refine zj ?_
    have q := ne_of_get hx hy (by simpa using c19)
    simp [q]
   ·
    replace c19 := of_decide_eq_false c19
    refine zr<|zw<|U<|zg<|v_mvI X X<|v_add X X t_om X<|v_asI X X<|Y ?_
    refine ⟨⟨k + 1, h16⟩, ⟨rfl, trivial⟩, ?_, ⟨(le3.trans s17.le), st18, ?_, ?_⟩, ?_⟩
    ·exact zH
    ·first | omega | (simp; omega)
    ·exact eq_take_succ he hx hy (by simpa using c19)
    ·show a.length - ((k + 1)) < a.length - k
     omega
  ·
   replace c6 := of_decide_eq_false c6
   refine zL<|ze<|ze<|zF<|U<|W.sr<|v_asB X X<|Y<|zo<|za Tryz.results21 ?_
   refine ⟨h2, _, rfl, st4.done, ?_⟩
   refine zj ?_
   have q := eq_of_take he (by omega) (by omega)
   simp [q]
set_option maxRecDepth 4000 in
theorem c_postilref01_Same {h : Heap} {w : World} (hs : Sub h w) {a : Text} {a_v0 : Value} (a_f0 : Sl LChapter h a_v0 a.chapters) {b : Text} {b_v0 : Value} (b_f0 : Sl LChapter h b_v0 b.chapters) : Calls Tryz.prog 74 #[.agg #[a_v0], .agg #[b_v0]] w (Rets h w (fun _ _ res_ => res_ = .bool (decide (a = b)))) := by
 refine zz (n := 66) (args := [.agg #[a_v0], .agg #[b_v0]]) Tryz.func74 X X X ?_
 have st0 : St h w h w [] := St.start hs
 have a_f0_b := a_f0.le
 have b_f0_b := b_f0.le
 refine W.sr<|zy st0 (cs := [a_v0]) X X X ?_
 intro b1 w2 h3 le4 hc5 st6
 refine zy st6 (cs := [b_v0]) X X X ?_
 intro b7 w8 h9 le10 hc11 st12
 refine v_asB X X<|Y<|zf<|W.sr<|v_field_addr X Tryz.underlying24 X Tryz.sizeOf22 X X<|v_load_cells1 (j := 0) st12.sub (hc5.up le10) X X X Tryz.isAgg22 X<|v_len (a_f0.up (le4.trans le10)) X Tryz.underlying22 X<|v_field_addr X Tryz.underlying24 X Tryz.sizeOf22 X X<|v_load_cells1 (j := 0) st12.sub hc11 X X X Tryz.isAgg22 X<|v_len (b_f0.up (le4.trans le10)) X Tryz.underlying22 X<|v_neq X X X<|Y ?_
 refine zh rfl (fun c13 => ?_) (fun c13 => ?_)
 ·
  replace c13 := of_decide_eq_true c13
  refine W.sr<|v_asB X X<|Y<|zo<|E<|za Tryz.results74 ?_
  refine ⟨h9, _, rfl, st12.done, ?_⟩
  refine zj ?_
  have q : a ≠ b := by
   rintro rfl
   simp_all
  simp [q]
 ·
  replace c13 := of_decide_eq_false c13
  refine zr<|U<|zf<|W.sr<|v_asI X X<|Y<|zs ?_
  refine zG [4, 5, 6, 7, 8, 16, 17, 18, 19, 20, 21, 22, 23, 24, 25, 26, 27, 28, 29, 30, 31, 32, 33, 34, 35, 36, 37, 38, 39, 40, 41, 42, 43, 44, 45, 46, 47, 48, 49, 50, 51, 52, 53, 54, 55, 56, 57, 58, 59, 60, 61, 62, 63, 64, 65] (G := Nat × Heap) (fun ⟨i, h14⟩ => [(5, .int .i64 (i : Int))]) (fun ⟨i, h14⟩ w' => Le h9 h14 ∧ St h w h14 w' [] ∧ (i ≤ a.chapters.length) ∧ (a.chapters.take i = b.chapters.take i)) (fun ⟨i, h14⟩ => a.chapters.length - i) ⟨0, h9⟩ ⟨rfl, trivial⟩ ⟨Le.refl _, st12, zK, zK⟩ ?_
  rintro ⟨i, h14⟩ _ w17 ⟨le15, st16, hi, he⟩
  refine zf<|W.sr<|v_mvI X X<|v_field_addr X Tryz.underlying24 X Tryz.sizeOf22 X X<|v_load_cells1 (j := 0) st16.sub (hc5.up (le10.trans le15)) X X X Tryz.isAgg22 X<|v_len (a_f0.up ((le4.trans le10).trans le15)) X Tryz.underlying22 X<|v_lss X X X<|Y ?_
  refine zh rfl (fun c18 => ?_) (fun c18 => ?_)
  ·
   replace c18 := of_decide_eq_true c18
   refine zr<|U<|zf<|zs<|zf ?_
   have hc : ∃ y_, (a.chapters)[i]? = some y_ := ⟨_, List.getElem?_eq_getElem (by omega)⟩
   obtain ⟨c, hc⟩ := hc
   obtain ⟨b19, o20, _, he22, hc21, hr_c⟩ := Sl.elem (a_f0.up ((le4.trans le10).trans le15)) hc
   obtain ⟨v23, rfl, f24⟩ := hr_c
   have f24_b := f24.le
   have hd : ∃ y_, (b.chapters)[i]? = some y_ := ⟨_, List.getElem?_eq_getElem (by omega)⟩
   obtain ⟨d, hd⟩ := hd
   obtain ⟨b25, o26, _, he28, hc27, hr_d⟩ := Sl.elem (b_f0.up ((le4.trans le10).trans le15)) hd
   obtain ⟨v29, rfl, f30⟩ := hr_d
   have f30_b := f30.le
   refine zad (er := ([], [], [], [], 0)) (dsts := [23, 24, 25, 26, 27, 28, 29, 30, 31, 32, 6, 7]) st16 Tryz.mixed<|zq 0 [] X t_kr t_kr X X (fun hD wD τD hL hS hO  => (zA X Tryz.underlying24 X Tryz.sizeOf22 X))<|zq 1 [0] X t_kr t_kr X X (fun hD wD τD hL hS hO _ _ => (zc (j := 0) (hL.sub hS) (hc5.up (le10.trans le15)) X X X Tryz.isAgg22))<|zq 2 [] X t_kr t_kr X X (fun hD wD τD hL hS hO  => (r_mvI X))<|zq 3 [1, 0] X t_kr t_kr X X (fun hD wD τD hL hS hO _ _ _ _ => (zE he22 X X (hk := X) (hu := Tryz.underlying22) (hz := Tryz.sizeOf152)))<|zq 4 [0] X t_kr t_kr X X (fun hD wD τD hL hS hO _ _ => (zM (hL.sub hS) hc21 X Tryz.isAgg152 Tryz.sizeOf152 X))<|zq 5 [] X t_kr t_kr X X (fun hD wD τD hL hS hO  => (zA X Tryz.underlying24 X Tryz.sizeOf22 X))<|zq 6 [0] X t_kr t_kr X X (fun hD wD τD hL hS hO _ _ => (zc (j := 0) (hL.sub hS) (hc11.up le15) X X X Tryz.isAgg22))<|zq 7 [] X t_kr t_kr X X (fun hD wD τD hL hS hO  => (r_mvI X))<|zq 8 [1, 0] X t_kr t_kr X X (fun hD wD τD hL hS hO _ _ _ _ => (zE he28 X X (hk := X) (hu := Tryz.underlying22) (hz := Tryz.sizeOf152)))<|zq 9 [0] X t_kr t_kr X X (fun hD wD τD hL hS hO _ _ => (zM (hL.sub hS) hc27 X Tryz.isAgg152 Tryz.sizeOf152 X))<|Drw.al Tryz.zeroValue152 X<|Drw.al Tryz.zeroValue152 X<|Drw.ch<|Drw.ch<|Drw.nil X X X X X X ⟨t_kr, X, t_kr, X, t_kr, X, X, t_kr, (cx_cons X (cx_cons X cx_nil))⟩ ?_
   intro b31
   intro b32
   intro hE34 w35 _ le36 st37 _ _ _ _ _ _ _ _ _ _
   refine zC st37 (k := 0) X X X (zp X (zp f24.one zQ)) Tryz.sizeOf152 X X X ?_
   intro w38 st39
   obtain ⟨h40, le41, hb42, st44⟩ := st39.freeze (k := 0) rfl
   have hc43 := Cells.of hb42
   refine zt ⟨undef, rfl, _, _, le41, st44, ?_⟩
   intro hE46 w47 _ le48 st49 _ _ _ _ _ _ _ _ _ _ _ _ _ _ _ _ _ _ _ _
   refine zC st49 (k := 1) X X X (zp X (zp f30.one zQ)) Tryz.sizeOf152 X X X ?_
   intro w50 st51
   obtain ⟨h52, le53, hb54, st56⟩ := st51.freeze (k := 1) rfl
   have hc55 := Cells.of hb54
   refine zt ⟨undef, rfl, _, _, le53, st56, ?_⟩
   intro hE57 w58 _ le59 st60 _ _ _ _ _ _ _ _ _ _ _ _ _ _ _ _ _ _ _ _
   refine AllDeps.fin X<|U<|zf<|W.sr<|v_field_addr X Tryz.underlying152 X Tryz.sizeOf3 X X<|v_load_cells1 (j := 0) st60.sub (hc43.up ((le48.trans le53).trans le59)) X X X Tryz.isAgg3 X<|v_field_addr X Tryz.underlying152 X Tryz.sizeOf3 X X<|v_load_cells1 (j := 0) st60.sub (hc55.up le59) X X X Tryz.isAgg3 X<|v_neq X X X<|v_mvB X X ?_
   refine zx (d := 38) rfl (fun g62 => ?_) (fun g62 => ?_)
   ·
    replace g62 := of_decide_eq_true g62
    refine Z X X X X X<|Z X X X X X<|Z X X X X X<|Z X X X X X<|Z X X X X X<|Z X X X X X<|Z X X X X X<|v_pickT (v := (.bool _)) X X X<|Y ?_
    refine zh rfl (fun c63 => ?_) (fun c63 => ?_)
    ·
     refine W.sr<|v_asB X X<|Y<|zo<|E<|zn<|E<|E<|zn<|E<|za Tryz.results74 ?_
     refine ⟨hE57, _, rfl, st60.done, ?_⟩
     refine zj ?_
     have q : c ≠ d := by
      rintro rfl
      simp_all
     have q2 : a ≠ b := fun e => ne_of_get hc hd q (by rw [e])
     simp [q2]
    ·
     cases c63
   ·
    replace g62 := of_decide_eq_false g62
    refine M X X (d := 38) X<|v_field_addr X Tryz.underlying152 X Tryz.sizeOf150 X X<|M X X (d := 38) X<|v_load_cells1 (j := 1) st60.sub (hc43.up ((le48.trans le53).trans le59)) X X X Tryz.isAgg150 X<|M X X (d := 38) X<|v_len (f24.up ((((le36.trans le41).trans le48).trans le53).trans le59)) X Tryz.underlying150 X<|M X X (d := 38) X<|v_field_addr X Tryz.underlying152 X Tryz.sizeOf150 X X<|M X X (d := 38) X<|v_load_cells1 (j := 1) st60.sub (hc55.up le59) X X X Tryz.isAgg150 X<|M X X (d := 38) X<|v_len (f30.up ((((le36.trans le41).trans le48).trans le53).trans le59)) X Tryz.underlying150 X<|M X X (d := 38) X<|v_neq X X X<|v_pickF (v := (.bool _)) X X X<|Y ?_
    refine zh rfl (fun c64 => ?_) (fun c64 => ?_)
    ·
     replace c64 := of_decide_eq_true c64
     refine W.sr<|v_asB X X<|Y<|zo<|E<|zn<|E<|E<|zn<|E<|za Tryz.results74 ?_
     refine ⟨hE57, _, rfl, st60.done, ?_⟩
     refine zj ?_
     have q : c ≠ d := by
      rintro rfl
      simp_all
     have q2 : a ≠ b := fun e => ne_of_get hc hd q (by rw [e])
     simp [q2]
    ·
     replace c64 := of_decide_eq_false c64
     refine zr<|U<|W.sr<|v_asI X X<|Y<|zs ?_
     refine zG [4, 8, 47, 48, 49, 50, 51, 52, 53, 54, 55, 56, 57, 58, 59, 60, 61, 62, 63, 64, 65] (G := Nat × Heap) (fun ⟨k, h65⟩ => [(8, .int .i64 (k : Int))]) (fun ⟨k, h65⟩ w' => Le hE57 h65 ∧ St h w h65 w' [[], []] ∧ (k ≤ c.lines.length) ∧ (c.lines.take k = d.lines.take k)) (fun ⟨k, h65⟩ => c.lines.length - k) ⟨0, hE57⟩ ⟨rfl, trivial⟩ ⟨Le.refl _, st60, zK, zK⟩ ?_
     rintro ⟨k, h65⟩ _ w68 ⟨le66, st67, hk, hk2⟩
     refine zf<|W.sr<|v_mvI X X<|v_field_addr X Tryz.underlying152 X Tryz.sizeOf150 X X<|v_load_cells1 (j := 1) st67.sub (hc43.up (((le48.trans le53).trans le59).trans le66)) X X X Tryz.isAgg150 X<|v_len (f24.up (((((le36.trans le41).trans le48).trans le53).trans le59).trans le66)) X Tryz.underlying150 X<|v_lss X X X<|Y ?_
     refine zh rfl (fun c69 => ?_) (fun c69 => ?_)
     ·
      replace c69 := of_decide_eq_true c69
      refine zr<|U<|zf<|zs<|zf<|zS Tryz.mixed t_kr (Cls h65 _) (Cls.drew st67)<|u_field_addr X Tryz.underlying152 X Tryz.sizeOf150 X X<|zm X X (fun _ hC => (zc (j := 1) hC.sub (hc43.up (((le48.trans le53).trans le59).trans le66)) X X X Tryz.isAgg150))<|u_mvI X X ?_
      have hx : ∃ y_, (c.lines)[k]? = some y_ := ⟨_, List.getElem?_eq_getElem (by omega)⟩
      obtain ⟨x, hx⟩ := hx
      obtain ⟨b70, o71, _, he73, hc72, hr_x⟩ := Sl.elem (f24.up (((((le36.trans le41).trans le48).trans le53).trans le59).trans le66)) hx
      obtain ⟨v74, rfl, f75⟩ := hr_x
      have f75_b := f75.le
      refine u_index_el he73 X X (hk := X) (hu := Tryz.underlying150) (hz := Tryz.sizeOf60) X<|zm X X (fun _ hC => (zc (j := 0) hC.sub hc72 X X X Tryz.isAgg60))<|u_field_addr X Tryz.underlying152 X Tryz.sizeOf150 X X<|zm X X (fun _ hC => (zc (j := 1) hC.sub (hc55.up (le59.trans le66)) X X X Tryz.isAgg150))<|u_mvI X X ?_
      have hy : ∃ y_, (d.lines)[k]? = some y_ := ⟨_, List.getElem?_eq_getElem (by omega)⟩
      obtain ⟨y, hy⟩ := hy
      obtain ⟨b76, o77, _, he79, hc78, hr_y⟩ := Sl.elem (f30.up (((((le36.trans le41).trans le48).trans le53).trans le59).trans le66)) hy
      obtain ⟨v80, rfl, f81⟩ := hr_y
      have f81_b := f81.le
      refine u_index_el he79 X X (hk := X) (hu := Tryz.underlying150) (hz := Tryz.sizeOf60) X<|zm X X (fun _ hC => (zc (j := 0) hC.sub hc78 X X X Tryz.isAgg60))<|zU X X (fun _ => zT X Tryz.call32 X) (fun _ hC => Rets.quiet hC (c_postilref01_SameWords hC.sub f75 f81))<|u_not X X<|zI ?_
      rintro w82 ⟨h83, s84⟩
      have st85 := st67.call0 s84
      refine U ?_
      refine zh rfl (fun c86 => ?_) (fun c86 => ?_)
      ·
       refine W.sr<|v_asB X X<|Y<|zo<|zn<|E<|E<|zn<|zn<|E<|E<|zn<|E<|za Tryz.results74 ?_
       refine ⟨h83, _, rfl, st85.done, ?_⟩
       refine zj ?_
       have q1 : c.lines ≠ d.lines := ne_of_get hx hy (by simpa using c86)
       have q : c ≠ d := fun e => q1 (by rw [e])
       have q2 : a ≠ b := fun e => ne_of_get hc hd q (by rw [e])
       simp [q2]
      ·
       refine zr<|zw<|U<|zg<|v_mvI X X<|v_add X X t_om X<|v_asI X X<|Y ?_
       refine ⟨⟨k + 1, h83⟩, ⟨rfl, trivial⟩, ?_, ⟨(le66.trans s84.le), st85, ?_, ?_⟩, ?_⟩
       ·exact zH
       ·first | omega | (simp; omega)
       ·exact eq_take_succ hk2 hx hy (by simpa using c86)
       ·show c.lines.length - ((k + 1)) < c.lines.length - k
        omega
     ·
      replace c69 := of_decide_eq_false c69
      refine zL<|ze<|ze<|zF<|zw<|U<|zg<|v_mvI X X<|v_add X X t_om X<|v_asI X X<|Y ?_
      have HCD : c = d := by
       have q := eq_of_take hk2 (by omega) (by omega)
       rcases c with ⟨c1, c2⟩; rcases d with ⟨d1, d2⟩
       simp_all
      refine ⟨⟨i + 1, h65⟩, ⟨rfl, trivial⟩, ?_, ⟨((((((le15.trans le36).trans le41).trans le48).trans le53).trans le59).trans le66), st67.take 0, ?_, ?_⟩, ?_⟩
      ·exact zH
      ·first | omega | (simp; omega)
      ·exact eq_take_succ he hc hd HCD
      ·show a.chapters.length - ((i + 1)) < a.chapters.length - i
       omega
  ·
   replace c18 := of_decide_eq_false c18
   refine zL<|ze<|ze<|zF<|U<|W.sr<|v_asB X X<|Y<|zo<|za Tryz.results74 ?_
   refine ⟨h14, _, rfl, st16.done, ?_⟩
   refine zj ?_
   have q := eq_of_take he (by omega) (by omega)
   rcases a with ⟨a1⟩; rcases b with ⟨b1⟩
   simp_all
set_option maxRecDepth 4000 in
theorem c_postilref04_Same {h : Heap} {w : World} (hs : Sub h w) {a : Lexicon} {a_v0 : Value} (a_f0 : Sl LRule h a_v0 a.rules) {a_v1 : Value} (a_f1 : Sl LDecision h a_v1 a.decisions) {b : Lexicon} {b_v0 : Value} (b_f0 : Sl LRule h b_v0 b.rules) {b_v1 : Value} (b_f1 : Sl LDecision h b_v1 b.decisions) : Calls Tryz.prog 31 #[.agg #[a_v0, a_v1], .agg #[b_v0, b_v1]] w (Rets h w (fun _ _ res_ => res_ = .bool (decide (a = b)))) := by
 refine zz (n := 59) (args := [.agg #[a_v0, a_v1], .agg #[b_v0, b_v1]]) Tryz.func31 X X X ?_
 have st0 : St h w h w [] := St.start hs
 have a_f0_b := a_f0.le
 have a_f1_b := a_f1.le
 have b_f0_b := b_f0.le
 have b_f1_b := b_f1.le
 refine W.sr<|zy st0 (cs := [a_v0, a_v1]) X X X ?_
 intro b1 w2 h3 le4 hc5 st6
 refine zy st6 (cs := [b_v0, b_v1]) X X X ?_
 intro b7 w8 h9 le10 hc11 st12
 refine v_asB X X<|Y<|zf<|W.sr<|v_field_addr X Tryz.underlying28 X Tryz.sizeOf25 X X<|v_load_cells1 (j := 0) st12.sub (hc5.up le10) X X X Tryz.isAgg25 X<|v_len (a_f0.up (le4.trans le10)) X Tryz.underlying25 X<|v_field_addr X Tryz.underlying28 X Tryz.sizeOf25 X X<|v_load_cells1 (j := 0) st12.sub hc11 X X X Tryz.isAgg25 X<|v_len (b_f0.up (le4.trans le10)) X Tryz.underlying25 X<|v_neq X X X<|v_mvB X X ?_
 refine zx (d := 14) rfl (fun g13 => ?_) (fun g13 => ?_)
 ·
  replace g13 := of_decide_eq_true g13
  refine Z X X X X X<|Z X X X X X<|Z X X X X X<|Z X X X X X<|Z X X X X X<|Z X X X X X<|Z X X X X X<|v_pickT (v := (.bool _)) X X X<|Y ?_
  refine zh rfl (fun c14 => ?_) (fun c14 => ?_)
  ·
   refine W.sr<|v_asB X X<|Y<|zo<|E<|za Tryz.results31 ?_
   refine ⟨h9, _, rfl, st12.done, ?_⟩
   refine zj ?_
   have q : a ≠ b := by
    rintro rfl
    simp_all
   simp [q]
  ·
   cases c14
 ·
  replace g13 := of_decide_eq_false g13
  refine M X X (d := 14) X<|v_field_addr X Tryz.underlying28 X Tryz.sizeOf26 X X<|M X X (d := 14) X<|v_load_cells1 (j := 1) st12.sub (hc5.up le10) X X X Tryz.isAgg26 X<|M X X (d := 14) X<|v_len (a_f1.up (le4.trans le10)) X Tryz.underlying26 X<|M X X (d := 14) X<|v_field_addr X Tryz.underlying28 X Tryz.sizeOf26 X X<|M X X (d := 14) X<|v_load_cells1 (j := 1) st12.sub hc11 X X X Tryz.isAgg26 X<|M X X (d := 14) X<|v_len (b_f1.up (le4.trans le10)) X Tryz.underlying26 X<|M X X (d := 14) X<|v_neq X X X<|v_pickF (v := (.bool _)) X X X<|Y ?_
  refine zh rfl (fun c15 => ?_) (fun c15 => ?_)
  ·
   replace c15 := of_decide_eq_true c15
   refine W.sr<|v_asB X X<|Y<|zo<|E<|za Tryz.results31 ?_
   refine ⟨h9, _, rfl, st12.done, ?_⟩
   refine zj ?_
   have q : a ≠ b := by
    rintro rfl
    simp_all
   simp [q]
  ·
   replace c15 := of_decide_eq_false c15
   refine zr<|U<|zf<|W.sr<|v_asI X X<|Y<|zs ?_
   refine zG [4, 5, 23, 24, 25, 26, 27, 28, 29, 30, 31, 32, 33, 34, 35, 36, 37, 38, 39, 40] (G := Nat × Heap) (fun ⟨i, h16⟩ => [(5, .int .i64 (i : Int))]) (fun ⟨i, h16⟩ w' => Le h9 h16 ∧ St h w h16 w' [] ∧ (i ≤ a.rules.length) ∧ (a.rules.take i = b.rules.take i)) (fun ⟨i, h16⟩ => a.rules.length - i) ⟨0, h9⟩ ⟨rfl, trivial⟩ ⟨Le.refl _, st12, zK, zK⟩ ?_
   rintro ⟨i, h16⟩ _ w19 ⟨le17, st18, hi, he⟩
   refine zf<|W.sr<|v_mvI X X<|v_field_addr X Tryz.underlying28 X Tryz.sizeOf25 X X<|v_load_cells1 (j := 0) st18.sub (hc5.up (le10.trans le17)) X X X Tryz.isAgg25 X<|v_len (a_f0.up ((le4.trans le10).trans le17)) X Tryz.underlying25 X<|v_lss X X X<|Y ?_
   refine zh rfl (fun c20 => ?_) (fun c20 => ?_)
   ·
    replace c20 := of_decide_eq_true c20
    refine zr<|U<|zf<|zs<|zf<|zS Tryz.mixed t_kr (Cls h16 _) (Cls.drew st18)<|u_field_addr X Tryz.underlying28 X Tryz.sizeOf25 X X<|zm X X (fun _ hC => (zc (j := 0) hC.sub (hc5.up (le10.trans le17)) X X X Tryz.isAgg25))<|u_mvI X X ?_
    have hr : ∃ y_, (a.rules)[i]? = some y_ := ⟨_, List.getElem?_eq_getElem (by omega)⟩
    obtain ⟨r, hr⟩ := hr
    obtain ⟨b21, o22, _, he24, hc23, hr_r⟩ := Sl.elem (a_f0.up ((le4.trans le10).trans le17)) hr
    obtain ⟨rfl, ls25, ls26⟩ := hr_r
    simp only [big] at ls25
    simp only [big] at ls26
    refine u_index_el he24 X X (hk := X) (hu := Tryz.underlying25) (hz := Tryz.sizeOf68) X<|zm X X (fun _ hC => (zM hC.sub hc23 X Tryz.isAgg68 Tryz.sizeOf68 X))<|u_field_addr X Tryz.underlying28 X Tryz.sizeOf25 X X<|zm X X (fun _ hC => (zc (j := 0) hC.sub (hc11.up le17) X X X Tryz.isAgg25))<|u_mvI X X ?_
    have hr2 : ∃ y_, (b.rules)[i]? = some y_ := ⟨_, List.getElem?_eq_getElem (by omega)⟩
    obtain ⟨r2, hr2⟩ := hr2
    obtain ⟨b27, o28, _, he30, hc29, hr_r2⟩ := Sl.elem (b_f0.up ((le4.trans le10).trans le17)) hr2
    obtain ⟨rfl, ls31, ls32⟩ := hr_r2
    simp only [big] at ls31
    simp only [big] at ls32
    refine u_index_el he30 X X (hk := X) (hu := Tryz.underlying25) (hz := Tryz.sizeOf68) X<|zm X X (fun _ hC => (zM hC.sub hc29 X Tryz.isAgg68 Tryz.sizeOf68 X))<|zm X X (fun _ _ => (r_stneq X X Tryz.eqGuardType68 (Tryz.eq_Rule r r2)))<|zI ?_
    rintro w33 ⟨h34, s35⟩
    have st36 := st18.call0 s35
    refine U ?_
    refine zh rfl (fun c37 => ?_) (fun c37 => ?_)
    ·
     replace c37 := of_decide_eq_true c37
     refine W.sr<|v_asB X X<|Y<|zo<|zn<|E<|E<|zn<|E<|za Tryz.results31 ?_
     refine ⟨h34, _, rfl, st36.done, ?_⟩
     refine zj ?_
     have q : a ≠ b := fun e => ne_of_get hr hr2 (by simpa using c37) (by rw [e])
     simp [q]
    ·
     replace c37 := of_decide_eq_false c37
     refine zr<|zw<|U<|zg<|v_mvI X X<|v_add X X t_om X<|v_asI X X<|Y ?_
     refine ⟨⟨i + 1, h34⟩, ⟨rfl, trivial⟩, ?_, ⟨(le17.trans s35.le), st36, ?_, ?_⟩, ?_⟩
     ·exact zH
     ·first | omega | (simp; omega)
     ·exact eq_take_succ he hr hr2 (by simpa using c37)
     ·show a.rules.length - ((i + 1)) < a.rules.length - i
      omega
   ·
    replace c20 := of_decide_eq_false c20
    refine zL<|ze<|ze<|zF<|U<|zf<|W.sr<|v_asI X X<|Y<|zs ?_
    refine zG [4, 6, 41, 42, 43, 44, 45, 46, 47, 48, 49, 50, 51, 52, 53, 54, 55, 56, 57, 58] (G := Nat × Heap) (fun ⟨k, h38⟩ => [(6, .int .i64 (k : Int))]) (fun ⟨k, h38⟩ w' => Le h16 h38 ∧ St h w h38 w' [] ∧ (k ≤ a.decisions.length) ∧ (a.decisions.take k = b.decisions.take k)) (fun ⟨k, h38⟩ => a.decisions.length - k) ⟨0, h16⟩ ⟨rfl, trivial⟩ ⟨Le.refl _, st18, zK, zK⟩ ?_
    rintro ⟨k, h38⟩ _ w41 ⟨le39, st40, hk, hf⟩
    refine zf<|W.sr<|v_mvI X X<|v_field_addr X Tryz.underlying28 X Tryz.sizeOf26 X X<|v_load_cells1 (j := 1) st40.sub (hc5.up ((le10.trans le17).trans le39)) X X X Tryz.isAgg26 X<|v_len (a_f1.up (((le4.trans le10).trans le17).trans le39)) X Tryz.underlying26 X<|v_lss X X X<|Y ?_
    refine zh rfl (fun c42 => ?_) (fun c42 => ?_)
    ·
     replace c42 := of_decide_eq_true c42
     refine zr<|U<|zf<|zs<|zf<|zS Tryz.mixed t_kr (Cls h38 _) (Cls.drew st40)<|u_field_addr X Tryz.underlying28 X Tryz.sizeOf26 X X<|zm X X (fun _ hC => (zc (j := 1) hC.sub (hc5.up ((le10.trans le17).trans le39)) X X X Tryz.isAgg26))<|u_mvI X X ?_
     have hd : ∃ y_, (a.decisions)[k]? = some y_ := ⟨_, List.getElem?_eq_getElem (by omega)⟩
     obtain ⟨d, hd⟩ := hd
     obtain ⟨b43, o44, _, he46, hc45, hr_d⟩ := Sl.elem (a_f1.up (((le4.trans le10).trans le17).trans le39)) hd
     obtain ⟨rfl, lu47, ls48, ls49, lu50⟩ := hr_d
     simp only [big] at ls48
     simp only [big] at ls49
     refine u_index_el he46 X X (hk := X) (hu := Tryz.underlying26) (hz := Tryz.sizeOf74) X<|zm X X (fun _ hC => (zM hC.sub hc45 X Tryz.isAgg74 Tryz.sizeOf74 X))<|u_field_addr X Tryz.underlying28 X Tryz.sizeOf26 X X<|zm X X (fun _ hC => (zc (j := 1) hC.sub (hc11.up (le17.trans le39)) X X X Tryz.isAgg26))<|u_mvI X X ?_
     have hd2 : ∃ y_, (b.decisions)[k]? = some y_ := ⟨_, List.getElem?_eq_getElem (by omega)⟩
     obtain ⟨d2, hd2⟩ := hd2
     obtain ⟨b51, o52, _, he54, hc53, hr_d2⟩ := Sl.elem (b_f1.up (((le4.trans le10).trans le17).trans le39)) hd2
     obtain ⟨rfl, lu55, ls56, ls57, lu58⟩ := hr_d2
     simp only [big] at ls56
     simp only [big] at ls57
     refine u_index_el he54 X X (hk := X) (hu := Tryz.underlying26) (hz := Tryz.sizeOf74) X<|zm X X (fun _ hC => (zM hC.sub hc53 X Tryz.isAgg74 Tryz.sizeOf74 X))<|zm X X (fun _ _ => (r_stneq X X Tryz.eqGuardType74 (Tryz.eq_Decision d d2)))<|zI ?_
     rintro w59 ⟨h60, s61⟩
     have st62 := st40.call0 s61
     refine U ?_
     refine zh rfl (fun c63 => ?_) (fun c63 => ?_)
     ·
      replace c63 := of_decide_eq_true c63
      refine W.sr<|v_asB X X<|Y<|zo<|zn<|E<|E<|zn<|E<|za Tryz.results31 ?_
      refine ⟨h60, _, rfl, st62.done, ?_⟩
      refine zj ?_
      have q : a ≠ b := fun e => ne_of_get hd hd2 (by simpa using c63) (by rw [e])
      simp [q]
     ·
      replace c63 := of_decide_eq_false c63
      refine zr<|zw<|U<|zg<|v_mvI X X<|v_add X X t_om X<|v_asI X X<|Y ?_
      refine ⟨⟨k + 1, h60⟩, ⟨rfl, trivial⟩, ?_, ⟨(le39.trans s61.le), st62, ?_, ?_⟩, ?_⟩
      ·exact zH
      ·first | omega | (simp; omega)
      ·exact eq_take_succ hf hd hd2 (by simpa using c63)
      ·show a.decisions.length - ((k + 1)) < a.decisions.length - k
       omega
    ·
     replace c42 := of_decide_eq_false c42
     refine zL<|ze<|ze<|zF<|U<|W.sr<|v_asB X X<|Y<|zo<|za Tryz.results31 ?_
     refine ⟨h38, _, rfl, st40.done, ?_⟩
     refine zj ?_
     have q1 := eq_of_take he (by omega) (by omega)
     have q2 := eq_of_take hf (by omega) (by omega)
     rcases a with ⟨a1, a2⟩; rcases b with ⟨b1, b2⟩
     simp_all
end Go.Pk

namespace Go.Pk
open Go Go.RowKit Go.Proofs
set_option maxRecDepth 4000 in
theorem c_leaf_open {h : Heap} {w : World} (hs : Sub h w) {t : Text} {t_v0 : Value} (t_f0 : Sl LChapter h t_v0 t.chapters) : Calls Tryz.prog 162 #[.agg #[t_v0]] w (Rets h w (fun h' _ res_ => ∃ u0, res_ = .tuple #[u0, .int .i64 ((if textB t then 0 else 10))] ∧ Box LText h' (textB t) t u0)) := by
 refine zz (n := 13) (args := [.agg #[t_v0]]) Tryz.func162 X X X ?_
 have st0 : St h w h w [] := St.start hs
 have t_f0_b := t_f0.le
 refine W.sr<|zy st0 (cs := [t_v0]) X X X ?_
 intro b1 w2 h3 le4 hc5 st6
 refine v_assign X X<|v_asI X X<|Y<|zf<|W.sr<|v_load_call st6.sub hc5 X Tryz.isAgg24 Tryz.sizeOf24 X X<|zi st6 X X X Tryz.call131 X (c_leaf_Check st6.sub (t := t) (t_f0.up le4)) ?_
 intro r7 w8 h9 le10 st11 q12
 obtain rfl := q12
 refine v_asI X X<|Y<|W.sr<|v_mvI X X<|v_neq X X X<|Y ?_
 refine zh rfl (fun c13 => ?_) (fun c13 => ?_)
 ·
  replace c13 := of_decide_eq_true c13
  refine W.sr<|v_mvI X X<|v_assign X X<|v_asI X X<|Y<|zo<|E<|zV Tryz.results162 ?_
  refine ⟨h9, _, rfl, st11.done, ?_⟩
  refine ⟨_, tup2 rfl (zB ?_), Box.nil ?_⟩
  ·simp_all
  ·simp_all
 ·
  replace c13 := of_decide_eq_false c13
  refine zr<|U<|W.sr<|v_load_call st11.sub (hc5.up le10) X Tryz.isAgg24 Tryz.sizeOf24 X X ?_
  refine zk rfl rfl (r_build (cs := [t_v0]) (by obtain ⟨_, _, rfl⟩ := Sl.form t_f0; kernel_rfl)) ?_
  refine zy st11 (cs := [t_v0]) X X X ?_
  intro b14 w15 h16 le17 hc18 st19
  refine v_asP X X<|v_asI X X<|Y<|zo<|zV Tryz.results162 ?_
  refine ⟨h16, _, rfl, st19.done, ?_⟩
  refine ⟨_, tup2 rfl (zB ?_), Box.some ?_ hc18 ⟨_, rfl, (t_f0.up ((le4.trans le10).trans le17))⟩⟩
  ·simp_all
  ·simp_all
set_option maxRecDepth 4000 in
theorem c_leaf_book_line {h : Heap} {w : World} (hs : Sub h w) {t_b : Nat} {t : Text} {t_v0 : Value} (t_f0 : Sl LChapter h t_v0 t.chapters) (t_c : Cells h t_b 0 [t_v0]) {p : Place} : Calls Tryz.prog 122 #[.pointer (some ⟨t_b, 0, none⟩), .agg #[.int .i64 p.chapter, .int .i64 p.line, .int .i64 p.word]] w (Rets h w (fun h' _ res_ => ∃ u0, res_ = u0 ∧ Sl LStr h' u0 ((lineAt t p).getD []))) := by
 refine zz (n := 50) (args := [.pointer (some ⟨t_b, 0, none⟩), .agg #[.int .i64 p.chapter, .int .i64 p.line, .int .i64 p.word]]) Tryz.func122 X X X ?_
 have st0 : St h w h w [] := St.start hs
 have t_f0_b := t_f0.le
 refine W.sr<|zy st0 (cs := [.int .i64 (p.chapter), .int .i64 (p.line), .int .i64 (p.word)]) X X X ?_
 intro b1 w2 h3 le4 hc5 st6
 refine v_asL X X<|Y<|zf<|zf ?_
 rcases Bool.eq_false_or_eq_true ((!(inAll (([(p.chapter)])) (0) (((t.chapters.length : Int) - 1))))) with g7 | g7
 ·
  have g7_r := g7
  refine zad (er := ([], [], [], [], 0)) (dsts := [5, 6, 7, 8, 9, 10, 11, 12, 13, 14, 15, 16, 17, 18, 19, 20, 21, 22, 23, 24, 25, 26, 27, 28, 29, 30, 31, 32, 33, 34, 35]) st6 Tryz.mixed<|zq 0 [] X t_kr t_kr X X (fun hD wD τD hL hS hO  => (r_mvP X))<|zq 1 [0] X t_kr t_kr X X (fun hD wD τD hL hS hO _ _ => (r_nil_check X))<|zq 2 [0] X t_kr t_kr X X (fun hD wD τD hL hS hO _ _ => (zA X Tryz.underlying240 X Tryz.sizeOf24 X))<|zq 3 [0] X t_kr t_kr X X (fun hD wD τD hL hS hO _ _ => (zA X Tryz.underlying24 X Tryz.sizeOf22 X))<|zq 4 [0] X t_kr t_kr X X (fun hD wD τD hL hS hO _ _ => (zc (j := 0) (hL.sub hS) (t_c.up le4) X X X Tryz.isAgg22))<|zq 5 [0] X t_kr t_kr X X (fun hD wD τD hL hS hO _ _ => (r_len (t_f0.up le4) X Tryz.underlying22))<|zq 6 [0] X t_kr t_kr X X (fun hD wD τD hL hS hO _ _ => (r_sub X X t_om))<|zq 7 [] X t_kr t_kr X X (fun hD wD τD hL hS hO  => (zA X Tryz.underlying70 X Tryz.sizeOf3 X))<|zq 8 [0] X t_kr t_kr X X (fun hD wD τD hL hS hO _ _ => (zc (j := 0) (hL.sub hS) hc5 X X X Tryz.isAgg3)) ?_
  refine zJ 9 (.res (fun h' res_ => Sl LInt h' res_ ([(p.chapter)])) (fun _ _ _ hl f => f.up hl)) [0] rfl t_kr t_kr ?_ ?_
  ·
   intro hD wD τD hL hS hO _ _
   have st8 := St.start hS
   refine zN (L := LInt) (xs := [(p.chapter)]) (cs := [.int .i64 (p.chapter)]) st8 (Enc.cons (L := LInt) (vs := [.int .i64 (p.chapter)]) (x := (p.chapter)) (h := hD) (X) Enc.nil) X X X Tryz.underlying42 Tryz.info3 X X X t_kr ?_
   intro v9 w10 h13 le14 f11 st12
   exact zt ⟨_, _, rfl, st12, _, rfl, f11⟩
  refine zJ 10 (.det (.bool (inAll (([(p.chapter)])) (0) (((t.chapters.length : Int) - 1))))) [3, 0] rfl t_kr t_kr ?_ ?_
  ·
   intro hD wD τD hL hS hO _ _ gv9_0 gf9_0
   have st15 := St.start hS
   refine zi st15 X X X Tryz.call164 X (c_leaf_in st15.sub _ _ gf9_0) ?_
   intro r16 w17 h18 le19 st20 q21
   obtain rfl := q21
   exact zt ⟨_, _, rfl, st20, (), rfl, trivial⟩
  refine zq 11 [0] X t_kr t_kr X X (fun hD wD τD hL hS hO _ _ => (Run.lit (r_not X) g7_r))<|zq 12 [0, 1] X t_kr t_kr X X (fun hD wD τD hL hS hO _ _ _ _ => (r_mvB X))<|zP 13 [0] X t_kr t_kr X X X X (fun hD wD τD hL hS hO _ _ => X)<|zP 14 [0, 1] X t_kr t_kr X X X X (fun hD wD τD hL hS hO _ _ _ _ => X)<|zP 15 [0, 2] X t_kr t_kr X X X X (fun hD wD τD hL hS hO _ _ _ _ => X)<|zP 16 [0, 3] X t_kr t_kr X X X X (fun hD wD τD hL hS hO _ _ _ _ => X)<|zP 17 [0, 4] X t_kr t_kr X X X X (fun hD wD τD hL hS hO _ _ _ _ => X)<|zP 18 [5] X t_kr t_kr X X X X (fun hD wD τD hL hS hO _ _ => X)<|zP 19 [0, 6] X t_kr t_kr X X X X (fun hD wD τD hL hS hO _ _ _ _ => X)<|zP 20 [2, 0, 7] X t_kr t_kr X X X X (fun hD wD τD hL hS hO _ _ _ _ _ _ => X)<|zP 21 [0, 8] X t_kr t_kr X X X X (fun hD wD τD hL hS hO _ _ _ _ => X)<|zP 22 [0, 9] X t_kr t_kr X X X X (fun hD wD τD hL hS hO _ _ _ _ => X)<|zP 23 [0, 10] X t_kr t_kr X X X X (fun hD wD τD hL hS hO _ _ _ _ => X)<|zP 24 [0, 11] X t_kr t_kr X X X X (fun hD wD τD hL hS hO _ _ _ _ => X)<|zP 25 [12] X t_kr t_kr X X X X (fun hD wD τD hL hS hO _ _ => X)<|zP 26 [0, 13] X t_kr t_kr X X X X (fun hD wD τD hL hS hO _ _ _ _ => X)<|zP 27 [0, 14] X t_kr t_kr X X X X (fun hD wD τD hL hS hO _ _ _ _ => X)<|zP 28 [3, 0, 15] X t_kr t_kr X X X X (fun hD wD τD hL hS hO _ _ _ _ _ _ => X)<|zP 29 [0, 16] X t_kr t_kr X X X X (fun hD wD τD hL hS hO _ _ _ _ => X)<|zq 30 [17, 0] X t_kr t_kr X X (fun hD wD τD hL hS hO _ _ _ _ => (r_pickT (v := (.bool _)) X X))<|Drw.nil X X X X X X ⟨t_kr, X, t_kr, X, t_kr, X, X, t_kr, cx_nil⟩ ?_
  intro hE22 w23 _ le24 st25 _ _ _ _ _ _ _ _ _ _ _ _ _ _ _ _ _ _ gv9_0x26 gf9_0x26 _ _ _ _ _ _ _ _ _ _ _ _ _ _ _ _ _ _ _ _ _ _ _ _ _ _ _ _ _ _ _ _ _ _ _ _ _ _ _ _ _ _
  refine AllDeps.fin X<|U ?_
  refine zh rfl (fun c27 => ?_) (fun c27 => ?_)
  ·
   refine W.sr<|v_asL X X<|Y<|zo<|E<|za Tryz.results122 ?_
   refine ⟨hE22, _, rfl, st25.done, ?_⟩
   refine ⟨_, rfl, Sl.to (Sl.nil _ _) ?_⟩
   have q : lineAt t p = none := line_none1 (by
    have q := g7
    simp [inAll, inB] at q
    omega)
   simp [q]
  ·
   cases c27
 ·
  have g7_r := g7
  have q1 : 0 ≤ p.chapter ∧ p.chapter < t.chapters.length := by
   have q := g7
   simp [inAll, inB] at q
   omega
  have hc : ∃ y_, (t.chapters)[p.chapter.toNat]? = some y_ := ⟨_, List.getElem?_eq_getElem (by omega)⟩
  obtain ⟨c, hc⟩ := hc
  obtain ⟨b28, o29, _, he31, hc30, hr_c⟩ := Sl.elem (t_f0.up le4) hc
  obtain ⟨v32, rfl, f33⟩ := hr_c
  have f33_b := f33.le
  refine zad (er := ([], [], [], [], 0)) (dsts := [5, 6, 7, 8, 9, 10, 11, 12, 13, 14, 15, 16, 17, 18, 19, 20, 21, 22, 23, 24, 25, 26, 27, 28, 29, 30, 31, 32, 33, 34, 35]) st6 Tryz.mixed<|zq 0 [] X t_kr t_kr X X (fun hD wD τD hL hS hO  => (r_mvP X))<|zq 1 [0] X t_kr t_kr X X (fun hD wD τD hL hS hO _ _ => (r_nil_check X))<|zq 2 [0] X t_kr t_kr X X (fun hD wD τD hL hS hO _ _ => (zA X Tryz.underlying240 X Tryz.sizeOf24 X))<|zq 3 [0] X t_kr t_kr X X (fun hD wD τD hL hS hO _ _ => (zA X Tryz.underlying24 X Tryz.sizeOf22 X))<|zq 4 [0] X t_kr t_kr X X (fun hD wD τD hL hS hO _ _ => (zc (j := 0) (hL.sub hS) (t_c.up le4) X X X Tryz.isAgg22))<|zq 5 [0] X t_kr t_kr X X (fun hD wD τD hL hS hO _ _ => (r_len (t_f0.up le4) X Tryz.underlying22))<|zq 6 [0] X t_kr t_kr X X (fun hD wD τD hL hS hO _ _ => (r_sub X X t_om))<|zq 7 [] X t_kr t_kr X X (fun hD wD τD hL hS hO  => (zA X Tryz.underlying70 X Tryz.sizeOf3 X))<|zq 8 [0] X t_kr t_kr X X (fun hD wD τD hL hS hO _ _ => (zc (j := 0) (hL.sub hS) hc5 X X X Tryz.isAgg3)) ?_
  refine zJ 9 (.res (fun h' res_ => Sl LInt h' res_ ([(p.chapter)])) (fun _ _ _ hl f => f.up hl)) [0] rfl t_kr t_kr ?_ ?_
  ·
   intro hD wD τD hL hS hO _ _
   have st34 := St.start hS
   refine zN (L := LInt) (xs := [(p.chapter)]) (cs := [.int .i64 (p.chapter)]) st34 (Enc.cons (L := LInt) (vs := [.int .i64 (p.chapter)]) (x := (p.chapter)) (h := hD) (X) Enc.nil) X X X Tryz.underlying42 Tryz.info3 X X X t_kr ?_
   intro v35 w36 h39 le40 f37 st38
   exact zt ⟨_, _, rfl, st38, _, rfl, f37⟩
  refine zJ 10 (.det (.bool (inAll (([(p.chapter)])) (0) (((t.chapters.length : Int) - 1))))) [3, 0] rfl t_kr t_kr ?_ ?_
  ·
   intro hD wD τD hL hS hO _ _ gv9_0 gf9_0
   have st41 := St.start hS
   refine zi st41 X X X Tryz.call164 X (c_leaf_in st41.sub _ _ gf9_0) ?_
   intro r42 w43 h44 le45 st46 q47
   obtain rfl := q47
   exact zt ⟨_, _, rfl, st46, (), rfl, trivial⟩
  refine zq 11 [0] X t_kr t_kr X X (fun hD wD τD hL hS hO _ _ => (Run.lit (r_not X) g7_r))<|zq 12 [0, 1] X t_kr t_kr X X (fun hD wD τD hL hS hO _ _ _ _ => (r_mvB X))<|zR 13 [0] X t_kr t_kr X X X (fun hD wD τD hL hS hO _ _ => ⟨rfl, (r_mvP X)⟩)<|zR 14 [0, 1] X t_kr t_kr X X X (fun hD wD τD hL hS hO _ _ _ _ => ⟨rfl, (r_nil_check X)⟩)<|zR 15 [0, 2] X t_kr t_kr X X X (fun hD wD τD hL hS hO _ _ _ _ => ⟨rfl, (zA X Tryz.underlying240 X Tryz.sizeOf24 X)⟩)<|zR 16 [0, 3] X t_kr t_kr X X X (fun hD wD τD hL hS hO _ _ _ _ => ⟨rfl, (zA X Tryz.underlying24 X Tryz.sizeOf22 X)⟩)<|zR 17 [0, 4] X t_kr t_kr X X X (fun hD wD τD hL hS hO _ _ _ _ => ⟨rfl, (zc (j := 0) (hL.sub hS) (t_c.up le4) X X X Tryz.isAgg22)⟩)<|zR 18 [5] X t_kr t_kr X X X (fun hD wD τD hL hS hO _ _ => ⟨rfl, (zA X Tryz.underlying70 X Tryz.sizeOf3 X)⟩)<|zR 19 [0, 6] X t_kr t_kr X X X (fun hD wD τD hL hS hO _ _ _ _ => ⟨rfl, (zc (j := 0) (hL.sub hS) hc5 X X X Tryz.isAgg3)⟩) ?_
  refine zR 20 [2, 0, 7] rfl t_kr t_kr rfl rfl rfl (fun hD wD τD hL hS hO _ _ _ _ _ _ => ⟨rfl, (zE he31 rfl rfl (hk := (show _ = ((p.chapter.toNat : Nat) : Int) by omega)) (hu := Tryz.underlying22) (hz := Tryz.sizeOf152))⟩) ?_
  refine zR 21 [0, 8] X t_kr t_kr X X X (fun hD wD τD hL hS hO _ _ _ _ => ⟨rfl, (zA X Tryz.underlying152 X Tryz.sizeOf150 X)⟩)<|zR 22 [0, 9] X t_kr t_kr X X X (fun hD wD τD hL hS hO _ _ _ _ => ⟨rfl, (zc (j := 1) (hL.sub hS) hc30 X X X Tryz.isAgg150)⟩)<|zR 23 [0, 10] X t_kr t_kr X X X (fun hD wD τD hL hS hO _ _ _ _ => ⟨rfl, (r_len f33 X Tryz.underlying150)⟩)<|zR 24 [0, 11] X t_kr t_kr X X X (fun hD wD τD hL hS hO _ _ _ _ => ⟨rfl, (r_sub X X t_om)⟩)<|zR 25 [12] X t_kr t_kr X X X (fun hD wD τD hL hS hO _ _ => ⟨rfl, (zA X Tryz.underlying70 X Tryz.sizeOf3 X)⟩)<|zR 26 [0, 13] X t_kr t_kr X X X (fun hD wD τD hL hS hO _ _ _ _ => ⟨rfl, (zc (j := 1) (hL.sub hS) hc5 X X X Tryz.isAgg3)⟩) ?_
  refine zJ 27 (.res (fun h' res_ => Sl LInt h' res_ ([(p.line)])) (fun _ _ _ hl f => f.up hl)) [0, 14] rfl t_kr t_kr ?_ ?_
  ·
   intro hD wD τD hL hS hO _ _ _ _
   have st48 := St.start hS
   refine M X X (d := 17) X<|zN (L := LInt) (xs := [(p.line)]) (cs := [.int .i64 (p.line)]) st48 (Enc.cons (L := LInt) (vs := [.int .i64 (p.line)]) (x := (p.line)) (h := hD) (X) Enc.nil) X X X Tryz.underlying42 Tryz.info3 X X X t_kr ?_
   intro v49 w50 h53 le54 f51 st52
   exact zt ⟨_, _, rfl, st52, _, rfl, f51⟩
  refine zJ 28 (.det (.bool (inAll (([(p.line)])) (0) (((c.lines.length : Int) - 1))))) [3, 0, 15] rfl t_kr t_kr ?_ ?_
  ·
   intro hD wD τD hL hS hO _ _ gv27_0 gf27_0 _ _
   have st55 := St.start hS
   refine M X X (d := 17) X<|zi st55 X X X Tryz.call164 X (c_leaf_in st55.sub _ _ gf27_0) ?_
   intro r56 w57 h58 le59 st60 q61
   obtain rfl := q61
   exact zt ⟨_, _, rfl, st60, (), rfl, trivial⟩
  refine zR 29 [0, 16] X t_kr t_kr X X X (fun hD wD τD hL hS hO _ _ _ _ => ⟨rfl, (r_not X)⟩)<|zq 30 [17, 0] X t_kr t_kr X X (fun hD wD τD hL hS hO _ _ _ _ => (r_pickF (v := (.bool _)) X X))<|Drw.nil X X X X X X ⟨t_kr, X, t_kr, X, t_kr, X, X, t_kr, cx_nil⟩ ?_
  intro hE62 w63 _ le64 st65 _ _ _ _ _ _ _ _ _ _ _ _ _ _ _ _ _ _ gv9_0x66 gf9_0x66 _ _ _ _ _ _ _ _ _ _ _ _ _ _ _ _ _ _ _ _ _ _ _ _ _ _ _ _ _ _ _ _ _ _ gv27_0x66 gf27_0x66 _ _ _ _ _ _
  refine AllDeps.fin X<|U ?_
  refine zh rfl (fun c67 => ?_) (fun c67 => ?_)
  ·
   refine W.sr<|v_asL X X<|Y<|zo<|E<|za Tryz.results122 ?_
   refine ⟨hE62, _, rfl, st65.done, ?_⟩
   refine ⟨_, rfl, Sl.to (Sl.nil _ _) ?_⟩
   have q : lineAt t p = none := line_none2 hc (by
    have q := c67
    simp [inAll, inB] at q
    omega)
   simp [q]
  ·
   refine zr<|U<|zf ?_
   have q1 : 0 ≤ p.chapter ∧ p.chapter < t.chapters.length ∧ 0 ≤ p.line ∧ p.line < c.lines.length := by
    have q := g7
    have q0 := c67
    simp [inAll, inB] at q q0
    omega
   refine zS Tryz.mixed t_kr (Cls hE62 _) (Cls.drew st65)<|u_mvP X X<|zm X X (fun _ _ => (r_nil_check X))<|u_field_addr X Tryz.underlying240 X Tryz.sizeOf24 X X<|u_field_addr X Tryz.underlying24 X Tryz.sizeOf22 X X<|zm X X (fun _ hC => (zc (j := 0) hC.sub (t_c.up (le4.trans le64)) X X X Tryz.isAgg22))<|u_field_addr X Tryz.underlying70 X Tryz.sizeOf3 X X<|zm X X (fun _ hC => (zc (j := 0) hC.sub (hc5.up le64) X X X Tryz.isAgg3)) ?_
   refine zm rfl rfl (fun _ _ => (zE he31 rfl rfl (hk := (show _ = ((p.chapter.toNat : Nat) : Int) by omega)) (hu := Tryz.underlying22) (hz := Tryz.sizeOf152))) ?_
   refine u_field_addr X Tryz.underlying152 X Tryz.sizeOf150 X X<|zm X X (fun _ hC => (zc (j := 1) hC.sub (hc30.up le64) X X X Tryz.isAgg150))<|u_field_addr X Tryz.underlying70 X Tryz.sizeOf3 X X<|zm X X (fun _ hC => (zc (j := 1) hC.sub (hc5.up le64) X X X Tryz.isAgg3)) ?_
   have hln : ∃ y_, (c.lines)[p.line.toNat]? = some y_ := ⟨_, List.getElem?_eq_getElem (by omega)⟩
   obtain ⟨ln, hln⟩ := hln
   obtain ⟨b68, o69, _, he71, hc70, hr_ln⟩ := Sl.elem (f33.up le64) hln
   obtain ⟨v72, rfl, f73⟩ := hr_ln
   have f73_b := f73.le
   refine zm rfl rfl (fun _ _ => (zE he71 rfl rfl (hk := (show _ = ((p.line.toNat : Nat) : Int) by omega)) (hu := Tryz.underlying150) (hz := Tryz.sizeOf60))) ?_
   refine zm X X (fun _ hC => (zc (j := 0) hC.sub hc70 X X X Tryz.isAgg60))<|u_assign (v := v72) X X<|zI ?_
   rintro w74 ⟨h75, s76⟩
   have st77 := st65.call0 s76
   refine U<|zo<|za Tryz.results122 ?_
   refine ⟨h75, _, rfl, st77.done, ?_⟩
   refine ⟨_, rfl, Sl.to (f73.up s76.le) ?_⟩
   rw [line_some hc q1.1 hln q1.2.2.1]; rfl
set_option maxRecDepth 4000 in
theorem c_leaf_book_has {h : Heap} {w : World} (hs : Sub h w) {t_b : Nat} {t : Text} {t_v0 : Value} (t_f0 : Sl LChapter h t_v0 t.chapters) (t_c : Cells h t_b 0 [t_v0]) {p : Place} : Calls Tryz.prog 163 #[.pointer (some ⟨t_b, 0, none⟩), .agg #[.int .i64 p.chapter, .int .i64 p.line, .int .i64 p.word]] w (Rets h w (fun _ _ res_ => res_ = .bool (placeB t p))) := by
 refine zz (n := 14) (args := [.pointer (some ⟨t_b, 0, none⟩), .agg #[.int .i64 p.chapter, .int .i64 p.line, .int .i64 p.word]]) Tryz.func163 X X X ?_
 have st0 : St h w h w [] := St.start hs
 have t_f0_b := t_f0.le
 refine W.sr<|zy st0 (cs := [.int .i64 (p.chapter), .int .i64 (p.line), .int .i64 (p.word)]) X X X ?_
 intro b1 w2 h3 le4 hc5 st6
 refine v_asB X X<|Y<|zf ?_
 have qb := line_le t_f0 p
 refine zad (er := ([], [], [], [], 0)) (dsts := [5, 6, 7, 8, 9, 10, 11, 12, 13, 4]) st6 Tryz.mixed<|zq 0 [] X t_kr t_kr X X (fun hD wD τD hL hS hO  => (r_mvP X))<|zq 1 [] X t_kr t_kr X X (fun hD wD τD hL hS hO  => (zM (hL.sub hS) hc5 X Tryz.isAgg70 Tryz.sizeOf70 X)) ?_
 refine zJ 2 (.res (fun h' res_ => Sl LStr h' res_ ((lineAt (t) (p)).getD [])) (fun _ _ _ hl f => f.up hl)) [1, 0] rfl t_kr t_kr ?_ ?_
 ·
  intro hD wD τD hL hS hO _ _ _ _
  have st7 := St.start hS
  refine zi st7 X X X Tryz.call122 X (c_leaf_book_line st7.sub (t := t) (t_f0.up (le4.trans hL)) (t_c.up (le4.trans hL)) (p := p)) ?_
  intro r8 w9 h10 le11 st12 q13
  obtain ⟨v14, e16, f15⟩ := q13
  rw [← e16] at f15
  have f15_b := f15.le
  exact zt ⟨_, _, rfl, st12, _, rfl, f15⟩
 refine zJ 3 (.det (.int .i64 (((lineAt (t) (p)).getD []).length : Int))) [0] rfl t_kr t_kr ?_ ?_
 ·
  intro hD wD τD hL hS hO gv2_0 gf2_0
  have st17 := St.start hS
  refine v_len gf2_0 X Tryz.underlying60 X ?_
  exact zt ⟨_, _, rfl, st17, (), rfl, trivial⟩
 refine zq 4 [0] X t_kr t_kr X X (fun hD wD τD hL hS hO _ _ => (r_sub X X t_om))<|zq 5 [] X t_kr t_kr X X (fun hD wD τD hL hS hO  => (zA X Tryz.underlying70 X Tryz.sizeOf3 X))<|zq 6 [0] X t_kr t_kr X X (fun hD wD τD hL hS hO _ _ => (zc (j := 2) (hL.sub hS) hc5 X X X Tryz.isAgg3)) ?_
 refine zJ 7 (.res (fun h' res_ => Sl LInt h' res_ ([(p.word)])) (fun _ _ _ hl f => f.up hl)) [0] rfl t_kr t_kr ?_ ?_
 ·
  intro hD wD τD hL hS hO _ _
  have st18 := St.start hS
  refine zN (L := LInt) (xs := [(p.word)]) (cs := [.int .i64 (p.word)]) st18 (Enc.cons (L := LInt) (vs := [.int .i64 (p.word)]) (x := (p.word)) (h := hD) (X) Enc.nil) X X X Tryz.underlying42 Tryz.info3 X X X t_kr ?_
  intro v19 w20 h23 le24 f21 st22
  exact zt ⟨_, _, rfl, st22, _, rfl, f21⟩
 refine zJ 8 (.det (.bool (inAll (([(p.word)])) (0) (((((lineAt (t) (p)).getD []).length : Int) - 1))))) [3, 0, 5] rfl t_kr t_kr ?_ ?_
 ·
  intro hD wD τD hL hS hO _ _ gv7_0 gf7_0 gv2_0 gf2_0
  have st25 := St.start hS
  refine zi st25 X X X Tryz.call164 X (c_leaf_in st25.sub _ _ gf7_0) ?_
  intro r26 w27 h28 le29 st30 q31
  obtain rfl := q31
  exact zt ⟨_, _, rfl, st30, (), rfl, trivial⟩
 refine zq 9 [8, 7, 6, 5, 4, 3, 2, 1, 0] X t_kr t_kr X X (fun hD wD τD hL hS hO _ _ _ _ gv2_0 gf2_0 _ _ _ _ _ _ _ _ gv7_0 gf7_0 _ _ => (r_asB X))<|Drw.nil X X X X X X ⟨t_kr, X, t_kr, X, t_kr, X, X, t_kr, cx_nil⟩ ?_
 intro hE32 w33 _ le34 st35 _ _ _ _ gv2_0x36 gf2_0x36 _ _ _ _ _ _ _ _ gv7_0x36 gf7_0x36 _ _ _ _
 refine AllDeps.fin X<|U<|zo<|za Tryz.results163 ?_
 refine ⟨hE32, _, rfl, st35.done, ?_⟩
 refine zj ?_
 rw [place_eq]
 cases hq : lineAt t p with
 | none => simp [inAll, inB]; omega
 | some l => simp [inAll]
set_option maxRecDepth 4000 in
theorem c_leaf_placed {h : Heap} {w : World} (hs : Sub h w) {t : Text} {t_v0 : Value} (t_f0 : Sl LChapter h t_v0 t.chapters) {p : Place} : Calls Tryz.prog 121 #[.agg #[t_v0], .agg #[.int .i64 p.chapter, .int .i64 p.line, .int .i64 p.word]] w (Rets h w (fun h' _ res_ => ∃ u0, res_ = .tuple #[u0, .int .i64 ((if textB t && placeB t p then 0 else if textB t then 12 else 10))] ∧ Box LText h' (textB t && placeB t p) t u0)) := by
 refine zz (n := 21) (args := [.agg #[t_v0], .agg #[.int .i64 p.chapter, .int .i64 p.line, .int .i64 p.word]]) Tryz.func121 X X X ?_
 have st0 : St h w h w [] := St.start hs
 have t_f0_b := t_f0.le
 refine W.sr<|zy st0 (cs := [t_v0]) X X X ?_
 intro b1 w2 h3 le4 hc5 st6
 refine zy st6 (cs := [.int .i64 (p.chapter), .int .i64 (p.line), .int .i64 (p.word)]) X X X ?_
 intro b7 w8 h9 le10 hc11 st12
 refine v_assign X X<|v_asI X X<|Y<|W.sr<|v_load_call st12.sub (hc5.up le10) X Tryz.isAgg24 Tryz.sizeOf24 X X<|zi st12 X X X Tryz.call162 X (c_leaf_open st12.sub (t := t) (t_f0.up (le4.trans le10))) ?_
 intro r13 w14 h15 le16 st17 q18
 rcases Bool.eq_false_or_eq_true (textB (t)) with hb19 | hb19
 ·
  simp only [hb19, if_true, if_false, Bool.false_eq_true, reduceIte] at q18
  obtain ⟨v20, rfl, f21⟩ := q18
  obtain ⟨b22, vs23, rfl, hc24, hr25⟩ := f21
  obtain ⟨v26, rfl, f27⟩ := hr25
  have f27_b := f27.le
  refine v_mvT X X<|v_extract (v := (.pointer (some _))) X X X<|v_extract (v := (.int _ _)) X X X<|v_asP X X<|v_asI X X<|Y<|zf<|W.sr<|v_mvI X X<|v_neq X X X<|Y ?_
  refine zh rfl (fun c28 => ?_) (fun c28 => ?_)
  ·
   exact absurd c28 (by decide)
  ·
   refine zr<|U<|zf<|W.sr<|v_mvP X X<|v_load_call st17.sub (hc11.up le16) X Tryz.isAgg70 Tryz.sizeOf70 X X<|zi st17 X X X Tryz.call163 X (c_leaf_book_has st17.sub (t := (t)) f27 hc24 (p := p)) ?_
   intro r29 w30 h31 le32 st33 q34
   obtain rfl := q34
   refine v_not X X<|Y ?_
   refine zh rfl (fun c35 => ?_) (fun c35 => ?_)
   ·
    refine W.sr<|v_assign X X<|v_asI X X<|Y<|zo<|E<|zV Tryz.results121 ?_
    refine ⟨h31, _, rfl, st33.done, ?_⟩
    refine ⟨_, tup2 rfl (zB ?_), Box.nil ?_⟩
    ·simp_all
    ·simp_all
   ·
    refine zr<|U<|W.sr<|v_mvP X X<|v_asP X X<|v_asI X X<|Y<|zo<|zV Tryz.results121 ?_
    refine ⟨h31, _, rfl, st33.done, ?_⟩
    refine ⟨_, tup2 rfl (zB ?_), Box.some ?_ (hc24.up le32) ⟨_, rfl, (f27.up le32)⟩⟩
    ·simp_all
    ·simp_all
 ·
  simp only [hb19, if_true, if_false, Bool.false_eq_true, reduceIte] at q18
  obtain ⟨v36, rfl, f37⟩ := q18
  obtain rfl := f37
  refine v_mvT X X<|v_extract (v := (.pointer none)) X X X<|v_extract (v := (.int _ _)) X X X<|v_assign X X<|v_asI X X<|Y<|zf<|W.sr<|v_mvI X X<|v_neq X X X<|Y ?_
  refine zh rfl (fun c38 => ?_) (fun c38 => ?_)
  ·
   refine W.sr<|v_mvI X X<|v_assign X X<|v_asI X X<|Y<|zo<|E<|zV Tryz.results121 ?_
   refine ⟨h15, _, rfl, st17.done, ?_⟩
   refine ⟨_, tup2 rfl (zB ?_), Box.nil ?_⟩
   ·simp_all
   ·simp_all
  ·
   exact absurd c38 (by decide)
set_option maxRecDepth 4000 in
theorem c_leaf_At {h : Heap} {w : World} (hs : Sub h w) {t : Text} {t_v0 : Value} (t_f0 : Sl LChapter h t_v0 t.chapters) {p : Place} : Calls Tryz.prog 85 #[.agg #[t_v0], .agg #[.int .i64 p.chapter, .int .i64 p.line, .int .i64 p.word]] w (Rets h w (fun _ _ res_ => res_ = .tuple #[strV ((if textB t then (wordAt t p).getD [] else [])), .int .i64 ((if textB t && placeB t p then 0 else if textB t then 12 else 10))])) := by
 refine zz (n := 24) (args := [.agg #[t_v0], .agg #[.int .i64 p.chapter, .int .i64 p.line, .int .i64 p.word]]) Tryz.func85 X X X ?_
 have st0 : St h w h w [] := St.start hs
 have t_f0_b := t_f0.le
 refine W.sr<|zy st0 (cs := [t_v0]) X X X ?_
 intro b1 w2 h3 le4 hc5 st6
 refine zy st6 (cs := [.int .i64 (p.chapter), .int .i64 (p.line), .int .i64 (p.word)]) X X X ?_
 intro b7 w8 h9 le10 hc11 st12
 refine v_asS X X<|v_asI X X<|Y<|W.sr<|v_load_call st12.sub (hc5.up le10) X Tryz.isAgg24 Tryz.sizeOf24 X X<|v_load_call st12.sub hc11 X Tryz.isAgg70 Tryz.sizeOf70 X X<|zi st12 X X X Tryz.call121 X (c_leaf_placed st12.sub (t := t) (t_f0.up (le4.trans le10)) (p := p)) ?_
 intro r13 w14 h15 le16 st17 q18
 rcases Bool.eq_false_or_eq_true (textB (t) && placeB (t) (p)) with hb19 | hb19
 ·
  simp only [hb19, if_true, if_false, Bool.false_eq_true, reduceIte] at q18
  obtain ⟨v20, rfl, f21⟩ := q18
  obtain ⟨b22, vs23, rfl, hc24, hr25⟩ := f21
  obtain ⟨v26, rfl, f27⟩ := hr25
  have f27_b := f27.le
  refine v_mvT X X<|v_extract (v := (.pointer (some _))) X X X<|v_extract (v := (.int _ _)) X X X<|v_asP X X<|v_asI X X<|Y<|zf<|W.sr<|v_mvI X X<|v_neq X X X<|Y ?_
  refine zh rfl (fun c28 => ?_) (fun c28 => ?_)
  ·
   exact absurd c28 (by decide)
  ·
   refine zr<|U<|zf ?_
   have q1 : placeB t p = true := by simp_all
   have q2 := place_eq t p
   have q3 : 0 ≤ p.word ∧ p.word < (((lineAt t p).getD []).length : Int) := by
    rw [q1] at q2
    simp [inB] at q2
    omega
   have hwd : ∃ y_, (((lineAt ((t)) (p)).getD []))[p.word.toNat]? = some y_ := ⟨_, List.getElem?_eq_getElem (by omega)⟩
   obtain ⟨wd, hwd⟩ := hwd
   refine zad (er := ([], [], [], [], 0)) (dsts := [17, 18, 19, 20, 21, 22, 23, 4, 5]) st17 Tryz.mixed<|zq 0 [] X t_kr t_kr X X (fun hD wD τD hL hS hO  => (r_mvP X))<|zq 1 [] X t_kr t_kr X X (fun hD wD τD hL hS hO  => (zM (hL.sub hS) (hc11.up le16) X Tryz.isAgg70 Tryz.sizeOf70 X)) ?_
   refine zJ 2 (.res (fun h' res_ => Sl LStr h' res_ ((lineAt ((t)) (p)).getD [])) (fun _ _ _ hl f => f.up hl)) [1, 0] rfl t_kr t_kr ?_ ?_
   ·
    intro hD wD τD hL hS hO _ _ _ _
    have st29 := St.start hS
    refine zi st29 X X X Tryz.call122 X (c_leaf_book_line st29.sub (t := (t)) (f27.up hL) (hc24.up hL) (p := p)) ?_
    intro r30 w31 h32 le33 st34 q35
    obtain ⟨v36, e38, f37⟩ := q35
    rw [← e38] at f37
    have f37_b := f37.le
    exact zt ⟨_, _, rfl, st34, _, rfl, f37⟩
   refine zq 3 [] X t_kr t_kr X X (fun hD wD τD hL hS hO  => (zA X Tryz.underlying70 X Tryz.sizeOf3 X))<|zq 4 [0] X t_kr t_kr X X (fun hD wD τD hL hS hO _ _ => (zc (j := 2) (hL.sub hS) (hc11.up le16) X X X Tryz.isAgg3)) ?_
   refine zJ 5 (.res (fun h' res_ => ∃ b o, res_ = .pointer (some ⟨b, o, none⟩) ∧ Cells h' b o [strV wd]) (by rintro _ _ _ hl ⟨b, o, e, c⟩; exact ⟨b, o, e, c.up hl⟩)) [2, 0] rfl t_kr t_kr ?_ ?_
   ·
    intro hD wD τD hL hS hO gv2_0 gf2_0 _ _
    have st39 := St.start hS
    obtain ⟨b_, o_, _, he_, hc_, hr_⟩ := Sl.elem gf2_0 hwd
    obtain ⟨rfl, ls40⟩ := hr_
    simp only [big] at ls40
    refine zk rfl rfl (zE he_ rfl rfl (hk := (show _ = ((p.word.toNat : Nat) : Int) by omega)) (hu := Tryz.underlying60) (hz := Tryz.sizeOf9)) ?_
    exact zt ⟨_, _, rfl, st39, _, rfl, _, _, rfl, hc_⟩
   refine zJ 6 (.det (strV wd)) [0] rfl t_kr t_kr ?_ ?_
   ·
    intro hD wD τD hL hS hO gv5_ gf5_
    obtain ⟨gb5, go5, rfl, gc5⟩ := gf5_
    have st41 := St.start hS
    refine v_load_cells1 (j := 0) hS gc5 X X X Tryz.isAgg9 X ?_
    exact zt ⟨_, _, rfl, st41, (), rfl, trivial⟩
   refine zq 7 [6, 5, 4, 3, 2, 1, 0] X t_kr t_kr X X (fun hD wD τD hL hS hO _ _ _ _ gv2_0 gf2_0 _ _ _ _ gv5_ gf5_ _ _ => (r_asS X))<|zq 8 [7, 6, 5, 4, 3, 2, 1, 0] X t_kr t_kr X X (fun hD wD τD hL hS hO _ _ _ _ gv2_0 gf2_0 _ _ _ _ gv5_ gf5_ _ _ _ _ => (r_asI X))<|Drw.nil X X X X X X ⟨t_kr, X, t_kr, X, t_kr, X, X, t_kr, cx_nil⟩ ?_
   intro hE42 w43 _ le44 st45 _ _ _ _ gv2_0x46 gf2_0x46 _ _ _ _ gv5_x46 gf5_x46 _ _ _ _ _ _
   obtain ⟨gb5x46, go5x46, rfl, gc5x46⟩ := gf5_x46
   refine AllDeps.fin X<|U<|zo<|zV Tryz.results85 ?_
   refine ⟨hE42, _, rfl, st45.done, ?_⟩
   refine tup2 (str_eq ?_) (zB ?_)
   all_goals have qq : textB t = true ∧ placeB t p = true := by simp_all
   ·simp [qq.1, word_some qq.2 hwd]
   ·simp [qq.1, qq.2]
 ·
  simp only [hb19, if_true, if_false, Bool.false_eq_true, reduceIte] at q18
  obtain ⟨v47, rfl, f48⟩ := q18
  obtain rfl := f48
  refine v_mvT X X<|v_extract (v := (.pointer none)) X X X<|v_extract (v := (.int _ _)) X X X<|v_assign X X<|v_asI X X<|Y<|zf<|W.sr<|v_mvI X X<|v_neq X X X<|Y ?_
  refine zh rfl (fun c49 => ?_) (fun c49 => ?_)
  ·
   replace c49 := of_decide_eq_true c49
   refine W.sr<|v_mvI X X<|v_asS X X<|v_asI X X<|Y<|zo<|E<|zV Tryz.results85 ?_
   refine ⟨h15, _, rfl, st17.done, ?_⟩
   refine tup2 (str_eq ?_) (zB ?_)
   all_goals have qq : textB t = true → placeB t p = false := by simp_all
   ·cases q0 : textB t
    ·rfl
    ·simp [word_none (qq q0)]
   ·cases q0 : textB t
    ·rfl
    ·simp [qq q0]
  ·
   replace c49 := of_decide_eq_false c49
   exfalso
   revert c49
   split <;> simp
end Go.Pk

namespace Go.Pk
open Go Go.RowKit Go.Proofs
set_option maxRecDepth 4000 in
theorem c_strings_indexFunc {s : Str} (hlen : s.length ≤ 281474976710656) {g : FuncId} {caps : List Value} (p : Int → Bool) (hp : ∀ x : Int, 128 ≤ x → p x = true)
  (hf : ∀ (x : Int) h w, Sub h w → Calls Tryz.prog g (.int .i32 x :: caps).toArray w (Rets h w fun _ _ r => r = .bool (p x)))
  (hg : ∀ a w, (callFunc g a).run Tryz.prog w = .ok (.enter g a) w) {h : Heap} {w : World} (hs : Sub h w) :
  Calls Tryz.prog 236 #[strV s, .func (.func g) #[] caps.toArray, .bool true] w (Rets h w fun _ _ r => ∃ k : Int, r = .int .i64 k ∧ (0 ≤ k ↔ (s.any fun c => p (c.toNat : Int)) = true)) := by
 refine zz (n := 21) (args := [strV s, .func (.func g) #[] caps.toArray, .bool true]) Tryz.func236 X X X ?_
 have st0 : St h w h w [] := St.start hs
 refine W.sr<|v_asI X X<|Y<|zf<|W.sr<|v_mvS X X<|OpsL.rangeS st0 X Tryz.underlying9 X ?_
 intro b w1 st1
 refine Y<|zs ?_
 refine zG [7, 8, 11, 12, 13, 14, 15, 16, 17, 18, 19, 20, 6] (G := Nat × Heap) (fun ⟨k, _⟩ => []) (fun ⟨k, h'⟩ w' => Le h h' ∧ St h w h' w' [[(b, .stringIter ⟨s.toArray⟩ k)]] ∧ k ≤ s.length ∧ ∀ j c, j < k → s[j]? = some c → p (c.toNat : Int) = false) (fun ⟨k, _⟩ => s.length - k) ⟨0, h⟩ trivial ⟨Le.refl _, st1, by omega, by intros; omega⟩ ?_
 rintro ⟨k, h2⟩ _ w2 ⟨le2, st2, hk, hall⟩
 rcases Nat.lt_or_ge k s.length with hlt | hge
 ·obtain ⟨c, hc⟩ : ∃ c, s[k]? = some c := ⟨_, List.getElem?_eq_getElem hlt⟩
  refine W.sr<|OpsL.nextS st2 (k := 0) X X hc X ?_
  intro w3 st3
  generalize hR : Utf8.decode ⟨s.toArray⟩ k = R at st3
  refine v_extract (v := .bool _) X X X<|Y<|zf ?_
  refine zh rfl (fun c1 => ?_) (fun c1 => ?_)
  ·refine zr ?_
   refine U<|zs<|W.sr<|v_extract (v := .int _ _) X X X<|v_extract (v := .int _ _) X X X<|v_asI X X<|v_asI X X<|Y<|W.sr<|v_mvF X X<|v_mvI X X ?_
   refine zX rfl rfl (zac (fs := []) (cs := caps) rfl rfl hg rfl) ((hf (R.1 : Int) h2 w3 st3.sub).mono ?_)
   rintro e w4 ⟨h4, r4, rfl, s4, rfl⟩
   refine ⟨_, rfl, ?_⟩
   have st4 := st3.call0 s4
   refine v_mvB X X<|zk X X (r_beql X X Tryz.underlying4)<|Y ?_
   refine zh rfl (fun c2 => ?_) (fun c2 => ?_)
   ·have c3 : p (R.1 : Int) = true := by simpa using c2
    refine W.sr<|v_mvI X X<|v_asI X X<|Y<|zo ?_
    repeat (first | refine zn ?_ | refine E ?_)
    refine za Tryz.results236 ?_
    refine ⟨h4, _, rfl, st4.done, (k : Int), rfl, ⟨fun _ => ?_, fun _ => by omega⟩⟩
    rw [List.any_eq_true]
    refine ⟨c, List.mem_of_getElem? hc, ?_⟩
    by_cases hl : c.toNat < 128
    ·rw [decode_low hc hl] at hR; subst hR; exact c3
    ·exact hp _ (by omega)
   ·have c3 : p (R.1 : Int) = false := by simpa using c2
    have hl : c.toNat < 128 := by
     rcases Nat.lt_or_ge c.toNat 128 with h5 | h5
     ·exact h5
     ·have q := decode_high hc (by omega)
      rw [hR] at q
      rw [hp _ (by omega)] at c3; cases c3
    rw [decode_low hc hl] at hR
    subst hR
    refine zr<|zw ?_
    refine ⟨⟨k + 1, h4⟩, trivial, ?_, ⟨le2.trans s4.le, st4, by omega, ?_⟩, ?_⟩
    ·exact zH
    ·intro j d hj hd
     rcases Nat.lt_or_ge j k with h3 | h3
     ·exact hall j d h3 hd
     ·obtain rfl : j = k := by omega
      rw [hc] at hd; cases hd
      exact c3
    ·show s.length - (k + 1) < s.length - k
     omega
  ·cases c1
 ·refine zf ?_
  refine zg<|OpsL.nextE st2 (k := 0) X X hge X<|v_extract (v := .bool _) X X X<|Y<|zf ?_
  refine zh rfl (fun c1 => ?_) (fun c1 => ?_)
  ·cases c1
  ·refine zL ?_
   refine ze<|ze<|zF<|U<|W.sr<|v_asI X X<|Y<|zo<|za Tryz.results236 ?_
   refine ⟨h2, _, rfl, st2.done, _, rfl, ⟨fun q => absurd q (by decide), fun q => ?_⟩⟩
   rw [List.any_eq_true] at q
   obtain ⟨c, hc, hpc⟩ := q
   obtain ⟨j, hj⟩ := List.mem_iff_getElem?.1 hc
   have hjl := (List.getElem?_eq_some_iff.1 hj).1
   rw [hall j c (by omega) hj] at hpc; cases hpc
set_option maxRecDepth 4000 in
theorem c_strings_IndexFunc {s : Str} (hlen : s.length ≤ 281474976710656) {g : FuncId} {caps : List Value} (p : Int → Bool) (hp : ∀ x : Int, 128 ≤ x → p x = true)
  (hf : ∀ (x : Int) h w, Sub h w → Calls Tryz.prog g (.int .i32 x :: caps).toArray w (Rets h w fun _ _ r => r = .bool (p x)))
  (hg : ∀ a w, (callFunc g a).run Tryz.prog w = .ok (.enter g a) w) {h : Heap} {w : World} (hs : Sub h w) :
  Calls Tryz.prog 224 #[strV s, .func (.func g) #[] caps.toArray] w (Rets h w fun _ _ r => ∃ k : Int, r = .int .i64 k ∧ (0 ≤ k ↔ (s.any fun c => p (c.toNat : Int)) = true)) := by
 refine zz (n := 8) (args := [strV s, .func (.func g) #[] caps.toArray]) Tryz.func224 X X X ?_
 have st0 : St h w h w [] := St.start hs
 refine W.sr<|v_asI X X<|Y<|W.sr<|v_mvS X X<|v_mvF X X<|zi st0 X X X Tryz.call236 X (c_strings_indexFunc hlen p hp hf hg st0.sub) ?_
 rintro v w1 h1 le1 st1 ⟨k, rfl, hk⟩
 refine v_asI X X<|Y<|zo<|za Tryz.results224 ?_
 exact ⟨h1, _, rfl, st1.done, k, rfl, hk⟩
set_option maxRecDepth 4000 in
theorem c_strings_ContainsFunc {s : Str} (hlen : s.length ≤ 281474976710656) {g : FuncId} {caps : List Value} (p : Int → Bool) (hp : ∀ x : Int, 128 ≤ x → p x = true)
  (hf : ∀ (x : Int) h w, Sub h w → Calls Tryz.prog g (.int .i32 x :: caps).toArray w (Rets h w fun _ _ r => r = .bool (p x)))
  (hg : ∀ a w, (callFunc g a).run Tryz.prog w = .ok (.enter g a) w) {h : Heap} {w : World} (hs : Sub h w) :
  Calls Tryz.prog 181 #[strV s, .func (.func g) #[] caps.toArray] w (Rets h w fun _ _ r => r = .bool (s.any fun c => p (c.toNat : Int))) := by
 refine zz (n := 9) (args := [strV s, .func (.func g) #[] caps.toArray]) Tryz.func181 X X X ?_
 have st0 : St h w h w [] := St.start hs
 refine W.sr<|v_asB X X<|Y<|W.sr<|v_mvS X X<|v_mvF X X<|zi st0 X X X Tryz.call224 X (c_strings_IndexFunc hlen p hp hf hg st0.sub) ?_
 rintro v w1 h1 le1 st1 ⟨k, rfl, hk⟩
 refine v_geq X X X<|v_asB X X<|Y<|zo<|za Tryz.results181 ?_
 refine ⟨h1, _, rfl, st1.done, zj ?_⟩
 rw [Bool.eq_iff_iff, decide_eq_true_eq]
 exact hk
end Go.Pk

namespace Go.Pk
open Go Go.RowKit Go.Proofs
set_option maxRecDepth 4000 in
theorem c_stem_letters_1 {h : Heap} {w : World} (hs : Sub h w) (c : Int) : Calls Tryz.prog 182 #[.int .i32 c] w (Rets h w (fun _ _ res_ => res_ = .bool ((decide (c < 97) || decide (122 < c))))) := by
 refine zz (n := 9) (args := [.int .i32 c]) Tryz.func182 X X X ?_
 have st0 : St h w h w [] := St.start hs
 refine W.sr<|v_asB X X<|Y<|W.sr<|v_mvI X X<|v_lss X X X<|v_mvB X X ?_
 refine zx (d := 5) rfl (fun g1 => ?_) (fun g1 => ?_)
 ·
  replace g1 := of_decide_eq_true g1
  refine Z X X X X X<|Z X X X X X<|v_pickT (v := (.bool _)) X X X<|v_asB X X<|Y<|zo<|za Tryz.results182 ?_
  refine ⟨h, _, rfl, st0.done, ?_⟩
  refine zj ?_
  first | (simp_all; done) | (simp_all; omega)
 ·
  replace g1 := of_decide_eq_false g1
  refine M X X (d := 5) X<|v_mvI X X<|M X X (d := 5) X<|v_gtr X X X<|v_pickF (v := (.bool _)) X X X<|v_asB X X<|Y<|zo<|za Tryz.results182 ?_
  refine ⟨h, _, rfl, st0.done, ?_⟩
  refine zj ?_
  first | (simp_all; done) | (simp_all; omega)
set_option maxRecDepth 4000 in
theorem c_stem_letters {h : Heap} {w : World} (hs : Sub h w) (s : Str) (s_le : s.length ≤ 281474976710656) (lo : Int) : Calls Tryz.prog 134 #[strV s, .int .i64 lo] w (Rets h w (fun _ _ res_ => res_ = .bool (lettersB s lo))) := by
 refine zz (n := 15) (args := [strV s, .int .i64 lo]) Tryz.func134 X X X ?_
 have st0 : St h w h w [] := St.start hs
 refine W.sr<|v_asB X X<|Y<|W.sr<|v_mvI X X<|v_mvS X X<|v_len_str X Tryz.underlying9 X<|zN (L := LInt) (xs := [(s.length : Int)]) (cs := [.int .i64 (s.length : Int)]) st0 (Enc.cons (L := LInt) (vs := [.int .i64 (s.length : Int)]) (x := (s.length : Int)) (h := h) (X) Enc.nil) X X X Tryz.underlying42 Tryz.info3 X X X t_kr ?_
 intro v1 w2 h5 le6 f3 st4
 refine zi st4 X X X Tryz.call135 X (c_stem_in st4.sub _ _ f3) ?_
 intro r7 w8 h9 le10 st11 q12
 obtain rfl := q12
 refine v_mvB X X ?_
 refine zx (d := 10) rfl (fun g13 => ?_) (fun g13 => ?_)
 ·
  refine M X X (d := 10) X<|v_mvS X X<|M X X (d := 10) X ?_
  refine zi st11 rfl rfl rfl Tryz.call181 rfl (c_strings_ContainsFunc (s := s) t_str (fun x_ : Int => (decide ((x_) < 97) || decide (122 < (x_)))) (by intro x_ hx_; simp; omega) (fun x_ h_ w_ hs_ => c_stem_letters_1 hs_ x_) Tryz.call182 st11.sub) ?_
  intro r14 w15 h16 le17 st18 q19
  obtain rfl := q19
  refine M X X (d := 10) X<|v_not X X<|v_pickT (v := (.bool _)) X X X<|v_asB X X<|Y<|zo<|za Tryz.results134 ?_
  refine ⟨h16, _, rfl, st18.done, ?_⟩
  refine zj ?_
  rw [letters_eq]
  simp_all [inAll]
 ·
  refine Z X X X X X<|Z X X X X X<|Z X X X X X<|v_pickF (v := (.bool _)) X X X<|v_asB X X<|Y<|zo<|za Tryz.results134 ?_
  refine ⟨h9, _, rfl, st11.done, ?_⟩
  refine zj ?_
  rw [letters_eq]
  simp_all [inAll]
set_option maxRecDepth 4000 in
theorem c_stem_right {h : Heap} {w : World} (hs : Sub h w) {hd : Head} (hd_l1 : hd.stem.length ≤ 281474976710656) (hd_l2 : 0 ≤ hd.mark ∧ hd.mark ≤ 255) : Calls Tryz.prog 186 #[.agg #[strV hd.stem, .int .u8 hd.mark]] w (Rets h w (fun _ _ res_ => res_ = .bool (headB hd))) := by
 refine zz (n := 11) (args := [.agg #[strV hd.stem, .int .u8 hd.mark]]) Tryz.func186 X X X ?_
 have st0 : St h w h w [] := St.start hs
 refine W.sr<|zy st0 (cs := [strV (hd.stem), .int .u8 (hd.mark)]) X X X ?_
 intro b1 w2 h3 le4 hc5 st6
 refine v_asB X X<|Y<|W.sr<|v_field_addr X Tryz.underlying72 X Tryz.sizeOf9 X X<|v_load_cells1 (j := 0) st6.sub hc5 X X X Tryz.isAgg9 X<|zi st6 X X X Tryz.call134 X (c_stem_letters st6.sub _ t_str _) ?_
 intro r7 w8 h9 le10 st11 q12
 obtain rfl := q12
 refine v_mvB X X ?_
 refine zx (d := 6) rfl (fun g13 => ?_) (fun g13 => ?_)
 ·
  refine M X X (d := 6) X<|v_field_addr X Tryz.underlying72 X Tryz.sizeOf5 X X<|M X X (d := 6) X<|v_load_cells1 (j := 1) st11.sub (hc5.up le10) X X X Tryz.isAgg5 X<|M X X (d := 6) X<|zk X X (r_leq X X)<|v_pickT (v := (.bool _)) X X X<|v_asB X X<|Y<|zo<|za Tryz.results186 ?_
  refine ⟨h9, _, rfl, st11.done, ?_⟩
  refine zj ?_
  rw [head_eq _ (by omega)]
  simp_all
 ·
  refine Z X X X X X<|Z X X X X X<|Z X X X X X<|v_pickF (v := (.bool _)) X X X<|v_asB X X<|Y<|zo<|za Tryz.results186 ?_
  refine ⟨h9, _, rfl, st11.done, ?_⟩
  refine zj ?_
  rw [head_eq _ (by omega)]
  simp_all
end Go.Pk

namespace Go.Pk
open Go Go.RowKit Go.Proofs
def _root_.Go.Proofs.Tryz.glob0 : List Value := [.func (.func 261) #[] #[], .func (.func 262) #[] #[], .func (.func 263) #[] #[], .func (.func 264) #[] #[], .func (.func 265) #[] #[]]
def _root_.Go.Proofs.Tryz.glob1 : List Value := [.bool false, .bool false, .bool false, .bool false, .nilFunc, .bool true, .bool false, .bool true, .bool false, .func (.func 269) #[] #[], .bool true, .bool true, .bool true, .bool false, .func (.func 270) #[] #[], .bool false, .bool true, .bool true, .bool false, .func (.func 271) #[] #[], .bool false, .bool false, .bool false, .bool true, .func (.func 272) #[] #[]]
set_option maxRecDepth 4000 in
set_option maxHeartbeats 4000000 in
theorem c_stem_decided {h : Heap} {w : World} (hs : Sub h w) {t : Text} {t_v0 : Value} (t_f0 : Sl LChapter h t_v0 t.chapters) {d : Decision} (d_l2 : 0 ≤ d.kind ∧ d.kind ≤ 255) (d_l3 : d.form.length ≤ 281474976710656) (d_l7 : d.to.stem.length ≤ 281474976710656) (d_l8 : 0 ≤ d.to.mark ∧ d.to.mark ≤ 255) (K1 : Cells h 1 0 Tryz.glob1) (ht : textB t = true) : Calls Tryz.prog 138 #[.agg #[t_v0], .agg #[.int .i64 d.number, .int .u8 d.kind, strV d.form, .int .i64 d.at_.chapter, .int .i64 d.at_.line, .int .i64 d.at_.word, strV d.to.stem, .int .u8 d.to.mark, .int .i64 d.of_]] w (Rets h w (fun _ _ res_ => res_ = .bool (decisionB t d))) := by
 refine zz (n := 104) (args := [.agg #[t_v0], .agg #[.int .i64 d.number, .int .u8 d.kind, strV d.form, .int .i64 d.at_.chapter, .int .i64 d.at_.line, .int .i64 d.at_.word, strV d.to.stem, .int .u8 d.to.mark, .int .i64 d.of_]]) Tryz.func138 X X X ?_
 have st0 : St h w h w [] := St.start hs
 have t_f0_b := t_f0.le
 refine W.sr<|zy st0 (cs := [t_v0]) X X X ?_
 intro b1 w2 h3 le4 hc5 st6
 refine zy st6 (cs := [.int .i64 (d.number), .int .u8 (d.kind), strV (d.form), .int .i64 (d.at_.chapter), .int .i64 (d.at_.line), .int .i64 (d.at_.word), strV (d.to.stem), .int .u8 (d.to.mark), .int .i64 (d.of_)]) X X X ?_
 intro b7 w8 h9 le10 hc11 st12
 refine v_asB X X<|Y<|zf<|W.sr<|v_field_addr X Tryz.underlying74 X Tryz.sizeOf5 X X<|v_load_cells1 (j := 1) st12.sub hc11 X X X Tryz.isAgg5 X ?_
 refine zk rfl rfl (r_conv_int rfl rfl Tryz.underlying3 (IntWalk.i64_in _ (by omega))) ?_
 refine zN (L := LInt) (xs := [(d.kind)]) (cs := [.int .i64 (d.kind)]) st12 (Enc.cons (L := LInt) (vs := [.int .i64 (d.kind)]) (x := (d.kind)) (h := h9) (X) Enc.nil) X X X Tryz.underlying42 Tryz.info3 X X X t_kr ?_
 intro v13 w14 h17 le18 f15 st16
 refine zi st16 X X X Tryz.call135 X (c_stem_in st16.sub _ _ f15) ?_
 intro r19 w20 h21 le22 st23 q24
 obtain rfl := q24
 refine v_not X X<|v_mvB X X ?_
 refine zx (d := 15) rfl (fun g25 => ?_) (fun g25 => ?_)
 ·
  refine Z X X X X X<|Z X X X X X<|Z X X X X X<|Z X X X X X<|Z X X X X X<|v_pickT (v := (.bool _)) X X X<|Y ?_
  refine zh rfl (fun c26 => ?_) (fun c26 => ?_)
  ·
   refine W.sr<|v_asB X X<|Y<|zo<|E<|za Tryz.results138 ?_
   refine ⟨h21, _, rfl, st23.done, ?_⟩
   refine zj ?_
   have q := g25
   simp only [inAll_one, inB, Bool.not_eq_true', Bool.and_eq_false_iff, decide_eq_false_iff_not] at q
   have q1 : d.kind ≠ 1 := by omega
   have q2 : d.kind ≠ 2 := by omega
   have q3 : d.kind ≠ 3 := by omega
   have q4 : d.kind ≠ 4 := by omega
   simp [decisionB, q1, q2, q3, q4]
  ·
   cases c26
 ·
  refine M X X (d := 15) X<|v_field_addr X Tryz.underlying74 X Tryz.sizeOf3 X X<|M X X (d := 15) X<|v_load_cells1 (j := 0) st23.sub (hc11.up (le18.trans le22)) X X X Tryz.isAgg3 X<|M X X (d := 15) X<|zN (L := LInt) (xs := [(d.number)]) (cs := [.int .i64 (d.number)]) st23 (Enc.cons (L := LInt) (vs := [.int .i64 (d.number)]) (x := (d.number)) (h := h21) (X) Enc.nil) X X X Tryz.underlying42 Tryz.info3 X X X t_kr ?_
  intro v27 w28 h31 le32 f29 st30
  refine M X X (d := 15) X<|zi st30 X X X Tryz.call135 X (c_stem_in st30.sub _ _ f29) ?_
  intro r33 w34 h35 le36 st37 q38
  obtain rfl := q38
  refine M X X (d := 15) X<|v_not X X<|v_pickF (v := (.bool _)) X X X<|Y ?_
  refine zh rfl (fun c39 => ?_) (fun c39 => ?_)
  ·
   refine W.sr<|v_asB X X<|Y<|zo<|E<|za Tryz.results138 ?_
   refine ⟨h35, _, rfl, st37.done, ?_⟩
   refine zj ?_
   have q := c39
   simp only [inAll_one] at q
   simp_all [decisionB]
  ·
   refine zr<|U<|zf ?_
   rcases (show d.kind = 1 ∨ d.kind = 2 ∨ d.kind = 3 ∨ d.kind = 4 by have q := g25; simp [inAll, inB] at q; omega) with hk40 | hk40 | hk40 | hk40
   ·
    refine zg<|v_field_addr X Tryz.underlying74 X Tryz.sizeOf5 X X<|v_load_cells1 (j := 1) st37.sub (hc11.up (((le18.trans le22).trans le32).trans le36)) X X X Tryz.isAgg5 X ?_
    refine zk rfl rfl (zae rfl rfl (show _ = ((1 : Nat) : Int) by rw [hk40]; rfl) rfl Tryz.underlying257 Tryz.sizeOf256) ?_
    refine v_load_cellsN (j := 5) st37.sub (K1.up (((((le4.trans le10).trans le18).trans le22).trans le32).trans le36)) (us := [.bool true, .bool false, .bool true, .bool false, .func (.func 269) #[] #[]]) X X Tryz.isAgg256 Tryz.sizeOf256 X X X<|zD st37 Tryz.zeroValue256 X X ?_
    intro b41 w42 st43
    refine zC st43 (k := 0) X X X (zp X (zp X (zp X (zp X (zp X zQ))))) Tryz.sizeOf256 X X X ?_
    intro w44 st45
    obtain ⟨h46, le47, hb48, st50⟩ := st45.freeze (k := 0) rfl
    have hc49 := Cells.of hb48
    refine Y<|W.sr<|v_field_addr X Tryz.underlying74 X Tryz.sizeOf3 X X<|v_load_cells1 (j := 0) st50.sub (hc11.up ((((le18.trans le22).trans le32).trans le36).trans le47)) X X X Tryz.isAgg3 X<|v_field_addr X Tryz.underlying74 X Tryz.sizeOf5 X X<|v_load_cells1 (j := 1) st50.sub (hc11.up ((((le18.trans le22).trans le32).trans le36).trans le47)) X X X Tryz.isAgg5 X<|zk X X (r_build (cs := [.int .i64 (d.number), .int .u8 (d.kind), strV [], .int .i64 0, .int .i64 0, .int .i64 0, strV [], .int .u8 0, .int .i64 0]) t_kr)<|zD st50 Tryz.zeroValue74 X X ?_
    intro b51 w52 st53
    refine zC st53 (k := 1) X X X (zp X (zp X (zp X (zp X (zp X (zp X (zp X (zp X (zp X zQ))))))))) Tryz.sizeOf74 X X X ?_
    intro w54 st55
    refine Y<|zf<|W.sr<|v_field_addr X Tryz.underlying256 X Tryz.sizeOf4 X X<|v_load_cells1 (j := 0) st55.sub hc49 X X X Tryz.isAgg4 X<|Y ?_
    refine zh rfl (fun c56 => ?_) (fun c56 => ?_)
    ·
     refine zg<|v_field_addr X Tryz.underlying74 X Tryz.sizeOf9 X X<|v_load_cells1 (j := 2) st55.sub (hc11.up ((((le18.trans le22).trans le32).trans le36).trans le47)) X X X Tryz.isAgg9 X<|v_field_addr X Tryz.underlying74 X Tryz.sizeOf9 X X<|zO st55 (k := 1) X X X X Tryz.sizeOf9 X X X ?_
     intro w57 st58
     refine Y<|zf<|W.sr<|v_field_addr X Tryz.underlying256 X Tryz.sizeOf4 X X<|v_load_cells1 (j := 1) st58.sub hc49 X X X Tryz.isAgg4 X<|Y ?_
     refine zh rfl (fun c59 => ?_) (fun c59 => ?_)
     ·
      cases c59
     ·
      refine zr<|U<|zf<|W.sr<|v_field_addr X Tryz.underlying256 X Tryz.sizeOf4 X X<|v_load_cells1 (j := 2) st58.sub hc49 X X X Tryz.isAgg4 X<|Y ?_
      refine zh rfl (fun c60 => ?_) (fun c60 => ?_)
      ·
       refine zg<|v_field_addr X Tryz.underlying74 X Tryz.sizeOf72 X X<|v_load_cellsN (j := 6) st58.sub (hc11.up ((((le18.trans le22).trans le32).trans le36).trans le47)) (us := [strV (d.to.stem), .int .u8 (d.to.mark)]) X X Tryz.isAgg72 Tryz.sizeOf72 X X X<|v_field_addr X Tryz.underlying74 X Tryz.sizeOf72 X X<|zC st58 (k := 1) X X X (zp X (zp X zQ)) Tryz.sizeOf72 X X X ?_
       intro w61 st62
       refine Y<|zf<|W.sr<|v_field_addr X Tryz.underlying256 X Tryz.sizeOf4 X X<|v_load_cells1 (j := 3) st62.sub hc49 X X X Tryz.isAgg4 X<|Y ?_
       refine zh rfl (fun c63 => ?_) (fun c63 => ?_)
       ·
        cases c63
       ·
        refine zr<|U<|W.sr<|v_load_call st62.sub (hc5.up (((((le10.trans le18).trans le22).trans le32).trans le36).trans le47)) X Tryz.isAgg24 Tryz.sizeOf24 X X<|v_field_addr X Tryz.underlying74 X Tryz.sizeOf70 X X<|v_load_cellsN (j := 3) st62.sub (hc11.up ((((le18.trans le22).trans le32).trans le36).trans le47)) (us := [.int .i64 (d.at_.chapter), .int .i64 (d.at_.line), .int .i64 (d.at_.word)]) X X Tryz.isAgg70 Tryz.sizeOf70 X X X<|zi st62 X X X Tryz.call85 X (c_leaf_At st62.sub (t := t) (t_f0.up ((((((le4.trans le10).trans le18).trans le22).trans le32).trans le36).trans le47)) (p := d.at_)) ?_
        intro r64 w65 h66 le67 st68 q69
        obtain rfl := q69
        refine v_mvT X X<|v_extract (v := (strV _)) X X X<|v_extract (v := (.int _ _)) X X X<|v_asS X X<|v_asI X X<|Y<|zf ?_
        have qn : 1 ≤ d.number ∧ d.number ≤ 999 := by
         have q := c39
         simp [inAll, inB] at q
         omega
        refine zg<|v_load_call st68.sub (hc11.up (((((le18.trans le22).trans le32).trans le36).trans le47).trans le67)) X Tryz.isAgg74 Tryz.sizeOf74 X X<|v_load_ball (st68.get (k := 1) X) X Tryz.isAgg74 Tryz.sizeOf74 X X<|zk X X (r_steql X X Tryz.eqGuardType74 (Tryz.eq_Decision d (Decision.mk (d.number) (d.kind) (d.form) (Place.mk 0 0 0) (Head.mk (d.to.stem) (d.to.mark)) 0)))<|v_mvB X X ?_
        refine zx (d := 61) rfl (fun g70 => ?_) (fun g70 => ?_)
        ·
         replace g70 := of_decide_eq_true g70
         refine M X X (d := 61) X<|v_field_addr X Tryz.underlying256 X Tryz.sizeOf4 X X<|M X X (d := 61) X<|v_load_cells1 (j := 0) st68.sub (hc49.up le67) X X X Tryz.isAgg4 X<|M X X (d := 61) X<|v_not X X<|M X X (d := 61) X<|v_mvB X X<|M X X (d := 65) X<|v_field_addr X Tryz.underlying74 X Tryz.sizeOf9 X X<|M X X (d := 65) X<|v_load_cells1 (j := 2) st68.sub (hc11.up (((((le18.trans le22).trans le32).trans le36).trans le47).trans le67)) X X X Tryz.isAgg9 X<|M X X (d := 65) X<|zi st68 X X X Tryz.call134 X (c_stem_letters st68.sub _ t_str _) ?_
         intro r71 w72 h73 le74 st75 q76
         obtain rfl := q76
         refine M X X (d := 61) X<|v_pickF (v := (.bool _)) X X X<|v_pickT (v := (.bool _)) X X X<|v_mvB X X ?_
         refine zx (d := 71) rfl (fun g77 => ?_) (fun g77 => ?_)
         ·
          refine M X X (d := 71) X<|v_field_addr X Tryz.underlying256 X Tryz.sizeOf4 X X<|M X X (d := 71) X<|v_load_cells1 (j := 1) st75.sub (hc49.up (le67.trans le74)) X X X Tryz.isAgg4 X<|M X X (d := 71) X<|v_not X X<|M X X (d := 71) X<|v_mvB X X<|Z X X X X X<|Z X X X X X<|M X X (d := 71) X<|v_pickT (v := (.bool _)) X X X<|v_pickT (v := (.bool _)) X X X<|v_mvB X X<|M X X (d := 80) X<|v_field_addr X Tryz.underlying256 X Tryz.sizeOf4 X X<|M X X (d := 80) X<|v_load_cells1 (j := 2) st75.sub (hc49.up (le67.trans le74)) X X X Tryz.isAgg4 X<|M X X (d := 80) X<|v_not X X<|M X X (d := 80) X<|v_mvB X X<|M X X (d := 84) X<|v_field_addr X Tryz.underlying74 X Tryz.sizeOf72 X X<|M X X (d := 84) X<|v_load_cellsN (j := 6) st75.sub (hc11.up ((((((le18.trans le22).trans le32).trans le36).trans le47).trans le67).trans le74)) (us := [strV (d.to.stem), .int .u8 (d.to.mark)]) X X Tryz.isAgg72 Tryz.sizeOf72 X X X<|M X X (d := 84) X<|zi st75 X X X Tryz.call186 X (c_stem_right st75.sub (hd := d.to) t_str t_u8) ?_
          intro r78 w79 h80 le81 st82 q83
          obtain rfl := q83
          refine M X X (d := 80) X<|v_pickF (v := (.bool _)) X X X<|v_pickT (v := (.bool _)) X X X<|v_mvB X X ?_
          refine zx (d := 90) rfl (fun g84 => ?_) (fun g84 => ?_)
          ·
           refine M X X (d := 90) X<|v_field_addr X Tryz.underlying256 X Tryz.sizeOf4 X X<|M X X (d := 90) X<|v_load_cells1 (j := 3) st82.sub (hc49.up ((le67.trans le74).trans le81)) X X X Tryz.isAgg4 X<|M X X (d := 90) X<|v_not X X<|M X X (d := 90) X<|v_mvB X X<|Z X X X X X<|Z X X X X X<|Z X X X X X<|Z X X X X X<|Z X X X X X<|Z X X X X X<|Z X X X X X<|M X X (d := 90) X<|v_pickT (v := (.bool _)) X X X<|v_pickT (v := (.bool _)) X X X<|v_asB X X<|Y<|zo<|za Tryz.results138 ?_
           refine ⟨h80, _, rfl, st82.done, ?_⟩
           refine zj ?_
           exact dec1_t ht hk40 c39 g70 g77 g84
          ·
           refine Z X X X X X<|Z X X X X X<|Z X X X X X<|Z X X X X X<|zd X X (d := 94) X X<|zd X X (d := 94) X X<|zd X X (d := 94) X X<|zd X X (d := 94) X X<|zd X X (d := 94) X X<|zd X X (d := 94) X X<|zd X X (d := 94) X X<|Z X X X X X<|v_pickF (v := (.bool _)) X X X<|v_asB X X<|Y<|zo<|za Tryz.results138 ?_
           refine ⟨h80, _, rfl, st82.done, ?_⟩
           refine zj ?_
           exact dec1_f1 ht hk40 c39 g70 g77 g84
         ·
          refine Z X X X X X<|Z X X X X X<|Z X X X X X<|Z X X X X X<|zd X X (d := 75) X X<|zd X X (d := 75) X X<|Z X X X X X<|v_pickF (v := (.bool _)) X X X<|v_mvB X X<|Z X X X X X<|Z X X X X X<|Z X X X X X<|Z X X X X X<|zd X X (d := 84) X X<|zd X X (d := 84) X X<|zd X X (d := 84) X X<|Z X X X X X<|v_pickF (v := (.bool _)) X X X<|v_mvB X X<|Z X X X X X<|Z X X X X X<|Z X X X X X<|Z X X X X X<|zd X X (d := 94) X X<|zd X X (d := 94) X X<|zd X X (d := 94) X X<|zd X X (d := 94) X X<|zd X X (d := 94) X X<|zd X X (d := 94) X X<|zd X X (d := 94) X X ?_
          refine Z X X X X X<|v_pickF (v := (.bool _)) X X X<|v_asB X X<|Y<|zo<|za Tryz.results138 ?_
          refine ⟨h73, _, rfl, st75.done, ?_⟩
          refine zj ?_
          exact dec1_f0 ht hk40 c39 g70 g77
        ·
         replace g70 := of_decide_eq_false g70
         refine Z X X X X X<|Z X X X X X<|Z X X X X X<|Z X X X X X<|zd X X (d := 65) X X<|zd X X (d := 65) X X<|zd X X (d := 65) X X<|Z X X X X X<|v_pickF (v := (.bool _)) X X X<|v_mvB X X<|Z X X X X X<|Z X X X X X<|Z X X X X X<|Z X X X X X<|zd X X (d := 75) X X<|zd X X (d := 75) X X<|Z X X X X X<|v_pickF (v := (.bool _)) X X X<|v_mvB X X<|Z X X X X X<|Z X X X X X<|Z X X X X X<|Z X X X X X<|zd X X (d := 84) X X<|zd X X (d := 84) X X<|zd X X (d := 84) X X<|Z X X X X X<|v_pickF (v := (.bool _)) X X X<|v_mvB X X<|Z X X X X X ?_
         refine Z X X X X X<|Z X X X X X<|Z X X X X X<|zd X X (d := 94) X X<|zd X X (d := 94) X X<|zd X X (d := 94) X X<|zd X X (d := 94) X X<|zd X X (d := 94) X X<|zd X X (d := 94) X X<|zd X X (d := 94) X X<|Z X X X X X<|v_pickF (v := (.bool _)) X X X<|v_asB X X<|Y<|zo<|za Tryz.results138 ?_
         refine ⟨h66, _, rfl, st68.done, ?_⟩
         refine zj ?_
         exact dec1_n ht hk40 c39 g70
      ·
       cases c60
    ·
     cases c56
   ·
    refine zg<|v_field_addr X Tryz.underlying74 X Tryz.sizeOf5 X X<|v_load_cells1 (j := 1) st37.sub (hc11.up (((le18.trans le22).trans le32).trans le36)) X X X Tryz.isAgg5 X ?_
    refine zk rfl rfl (zae rfl rfl (show _ = ((2 : Nat) : Int) by rw [hk40]; rfl) rfl Tryz.underlying257 Tryz.sizeOf256) ?_
    refine v_load_cellsN (j := 10) st37.sub (K1.up (((((le4.trans le10).trans le18).trans le22).trans le32).trans le36)) (us := [.bool true, .bool true, .bool true, .bool false, .func (.func 270) #[] #[]]) X X Tryz.isAgg256 Tryz.sizeOf256 X X X<|zD st37 Tryz.zeroValue256 X X ?_
    intro b85 w86 st87
    refine zC st87 (k := 0) X X X (zp X (zp X (zp X (zp X (zp X zQ))))) Tryz.sizeOf256 X X X ?_
    intro w88 st89
    obtain ⟨h90, le91, hb92, st94⟩ := st89.freeze (k := 0) rfl
    have hc93 := Cells.of hb92
    refine Y<|W.sr<|v_field_addr X Tryz.underlying74 X Tryz.sizeOf3 X X<|v_load_cells1 (j := 0) st94.sub (hc11.up ((((le18.trans le22).trans le32).trans le36).trans le91)) X X X Tryz.isAgg3 X<|v_field_addr X Tryz.underlying74 X Tryz.sizeOf5 X X<|v_load_cells1 (j := 1) st94.sub (hc11.up ((((le18.trans le22).trans le32).trans le36).trans le91)) X X X Tryz.isAgg5 X<|zk X X (r_build (cs := [.int .i64 (d.number), .int .u8 (d.kind), strV [], .int .i64 0, .int .i64 0, .int .i64 0, strV [], .int .u8 0, .int .i64 0]) t_kr)<|zD st94 Tryz.zeroValue74 X X ?_
    intro b95 w96 st97
    refine zC st97 (k := 1) X X X (zp X (zp X (zp X (zp X (zp X (zp X (zp X (zp X (zp X zQ))))))))) Tryz.sizeOf74 X X X ?_
    intro w98 st99
    refine Y<|zf<|W.sr<|v_field_addr X Tryz.underlying256 X Tryz.sizeOf4 X X<|v_load_cells1 (j := 0) st99.sub hc93 X X X Tryz.isAgg4 X<|Y ?_
    refine zh rfl (fun c100 => ?_) (fun c100 => ?_)
    ·
     refine zg<|v_field_addr X Tryz.underlying74 X Tryz.sizeOf9 X X<|v_load_cells1 (j := 2) st99.sub (hc11.up ((((le18.trans le22).trans le32).trans le36).trans le91)) X X X Tryz.isAgg9 X<|v_field_addr X Tryz.underlying74 X Tryz.sizeOf9 X X<|zO st99 (k := 1) X X X X Tryz.sizeOf9 X X X ?_
     intro w101 st102
     refine Y<|zf<|W.sr<|v_field_addr X Tryz.underlying256 X Tryz.sizeOf4 X X<|v_load_cells1 (j := 1) st102.sub hc93 X X X Tryz.isAgg4 X<|Y ?_
     refine zh rfl (fun c103 => ?_) (fun c103 => ?_)
     ·
      refine zg<|v_field_addr X Tryz.underlying74 X Tryz.sizeOf70 X X<|v_load_cellsN (j := 3) st102.sub (hc11.up ((((le18.trans le22).trans le32).trans le36).trans le91)) (us := [.int .i64 (d.at_.chapter), .int .i64 (d.at_.line), .int .i64 (d.at_.word)]) X X Tryz.isAgg70 Tryz.sizeOf70 X X X<|v_field_addr X Tryz.underlying74 X Tryz.sizeOf70 X X<|zC st102 (k := 1) X X X (zp X (zp X (zp X zQ))) Tryz.sizeOf70 X X X ?_
      intro w104 st105
      refine Y<|zf<|W.sr<|v_field_addr X Tryz.underlying256 X Tryz.sizeOf4 X X<|v_load_cells1 (j := 2) st105.sub hc93 X X X Tryz.isAgg4 X<|Y ?_
      refine zh rfl (fun c106 => ?_) (fun c106 => ?_)
      ·
       refine zg<|v_field_addr X Tryz.underlying74 X Tryz.sizeOf72 X X<|v_load_cellsN (j := 6) st105.sub (hc11.up ((((le18.trans le22).trans le32).trans le36).trans le91)) (us := [strV (d.to.stem), .int .u8 (d.to.mark)]) X X Tryz.isAgg72 Tryz.sizeOf72 X X X<|v_field_addr X Tryz.underlying74 X Tryz.sizeOf72 X X<|zC st105 (k := 1) X X X (zp X (zp X zQ)) Tryz.sizeOf72 X X X ?_
       intro w107 st108
       refine Y<|zf<|W.sr<|v_field_addr X Tryz.underlying256 X Tryz.sizeOf4 X X<|v_load_cells1 (j := 3) st108.sub hc93 X X X Tryz.isAgg4 X<|Y ?_
       refine zh rfl (fun c109 => ?_) (fun c109 => ?_)
       ·
        cases c109
       ·
        refine zr<|U<|W.sr<|v_load_call st108.sub (hc5.up (((((le10.trans le18).trans le22).trans le32).trans le36).trans le91)) X Tryz.isAgg24 Tryz.sizeOf24 X X<|v_field_addr X Tryz.underlying74 X Tryz.sizeOf70 X X<|v_load_cellsN (j := 3) st108.sub (hc11.up ((((le18.trans le22).trans le32).trans le36).trans le91)) (us := [.int .i64 (d.at_.chapter), .int .i64 (d.at_.line), .int .i64 (d.at_.word)]) X X Tryz.isAgg70 Tryz.sizeOf70 X X X<|zi st108 X X X Tryz.call85 X (c_leaf_At st108.sub (t := t) (t_f0.up ((((((le4.trans le10).trans le18).trans le22).trans le32).trans le36).trans le91)) (p := d.at_)) ?_
        intro r110 w111 h112 le113 st114 q115
        obtain rfl := q115
        refine v_mvT X X<|v_extract (v := (strV _)) X X X<|v_extract (v := (.int _ _)) X X X<|v_asS X X<|v_asI X X<|Y<|zf ?_
        have qn : 1 ≤ d.number ∧ d.number ≤ 999 := by
         have q := c39
         simp [inAll, inB] at q
         omega
        refine zg<|v_load_call st114.sub (hc11.up (((((le18.trans le22).trans le32).trans le36).trans le91).trans le113)) X Tryz.isAgg74 Tryz.sizeOf74 X X<|v_load_ball (st114.get (k := 1) X) X Tryz.isAgg74 Tryz.sizeOf74 X X<|zk X X (r_steql X X Tryz.eqGuardType74 (Tryz.eq_Decision d (Decision.mk (d.number) (d.kind) (d.form) (Place.mk (d.at_.chapter) (d.at_.line) (d.at_.word)) (Head.mk (d.to.stem) (d.to.mark)) 0)))<|v_mvB X X ?_
        refine zx (d := 61) rfl (fun g116 => ?_) (fun g116 => ?_)
        ·
         replace g116 := of_decide_eq_true g116
         refine M X X (d := 61) X<|v_field_addr X Tryz.underlying256 X Tryz.sizeOf4 X X<|M X X (d := 61) X<|v_load_cells1 (j := 0) st114.sub (hc93.up le113) X X X Tryz.isAgg4 X<|M X X (d := 61) X<|v_not X X<|M X X (d := 61) X<|v_mvB X X<|M X X (d := 65) X<|v_field_addr X Tryz.underlying74 X Tryz.sizeOf9 X X<|M X X (d := 65) X<|v_load_cells1 (j := 2) st114.sub (hc11.up (((((le18.trans le22).trans le32).trans le36).trans le91).trans le113)) X X X Tryz.isAgg9 X<|M X X (d := 65) X<|zi st114 X X X Tryz.call134 X (c_stem_letters st114.sub _ t_str _) ?_
         intro r117 w118 h119 le120 st121 q122
         obtain rfl := q122
         refine M X X (d := 61) X<|v_pickF (v := (.bool _)) X X X<|v_pickT (v := (.bool _)) X X X<|v_mvB X X ?_
         refine zx (d := 71) rfl (fun g123 => ?_) (fun g123 => ?_)
         ·
          refine M X X (d := 71) X<|v_field_addr X Tryz.underlying256 X Tryz.sizeOf4 X X<|M X X (d := 71) X<|v_load_cells1 (j := 1) st121.sub (hc93.up (le113.trans le120)) X X X Tryz.isAgg4 X<|M X X (d := 71) X<|v_not X X<|M X X (d := 71) X<|v_mvB X X<|M X X (d := 75) X<|v_mvI X X<|M X X (d := 75) X<|v_eql X X X<|M X X (d := 71) X<|v_pickF (v := (.bool _)) X X X<|v_pickT (v := (.bool _)) X X X<|v_mvB X X ?_
          refine zx (d := 80) rfl (fun g124 => ?_) (fun g124 => ?_)
          ·
           replace g124 := of_decide_eq_true g124
           refine M X X (d := 80) X<|v_field_addr X Tryz.underlying256 X Tryz.sizeOf4 X X<|M X X (d := 80) X<|v_load_cells1 (j := 2) st121.sub (hc93.up (le113.trans le120)) X X X Tryz.isAgg4 X<|M X X (d := 80) X<|v_not X X<|M X X (d := 80) X<|v_mvB X X<|M X X (d := 84) X<|v_field_addr X Tryz.underlying74 X Tryz.sizeOf72 X X<|M X X (d := 84) X<|v_load_cellsN (j := 6) st121.sub (hc11.up ((((((le18.trans le22).trans le32).trans le36).trans le91).trans le113).trans le120)) (us := [strV (d.to.stem), .int .u8 (d.to.mark)]) X X Tryz.isAgg72 Tryz.sizeOf72 X X X<|M X X (d := 84) X<|zi st121 X X X Tryz.call186 X (c_stem_right st121.sub (hd := d.to) t_str t_u8) ?_
           intro r125 w126 h127 le128 st129 q130
           obtain rfl := q130
           refine M X X (d := 80) X<|v_pickF (v := (.bool _)) X X X<|v_pickT (v := (.bool _)) X X X<|v_mvB X X ?_
           refine zx (d := 90) rfl (fun g131 => ?_) (fun g131 => ?_)
           ·
            refine M X X (d := 90) X<|v_field_addr X Tryz.underlying256 X Tryz.sizeOf4 X X<|M X X (d := 90) X<|v_load_cells1 (j := 3) st129.sub (hc93.up ((le113.trans le120).trans le128)) X X X Tryz.isAgg4 X<|M X X (d := 90) X<|v_not X X<|M X X (d := 90) X<|v_mvB X X<|Z X X X X X<|Z X X X X X<|Z X X X X X<|Z X X X X X<|Z X X X X X<|Z X X X X X<|Z X X X X X<|M X X (d := 90) X<|v_pickT (v := (.bool _)) X X X<|v_pickT (v := (.bool _)) X X X<|v_asB X X<|Y<|zo<|za Tryz.results138 ?_
            refine ⟨h127, _, rfl, st129.done, ?_⟩
            refine zj ?_
            exact dec2_t ht hk40 c39 g116 g123 g124 g131
           ·
            refine Z X X X X X<|Z X X X X X<|Z X X X X X<|Z X X X X X<|zd X X (d := 94) X X<|zd X X (d := 94) X X<|zd X X (d := 94) X X<|zd X X (d := 94) X X<|zd X X (d := 94) X X<|zd X X (d := 94) X X<|zd X X (d := 94) X X<|Z X X X X X<|v_pickF (v := (.bool _)) X X X<|v_asB X X<|Y<|zo<|za Tryz.results138 ?_
            refine ⟨h127, _, rfl, st129.done, ?_⟩
            refine zj ?_
            exact dec2_f2 ht hk40 c39 g116 g123 g124 g131
          ·
           replace g124 := of_decide_eq_false g124
           refine Z X X X X X<|Z X X X X X<|Z X X X X X<|Z X X X X X<|zd X X (d := 84) X X<|zd X X (d := 84) X X<|zd X X (d := 84) X X<|Z X X X X X<|v_pickF (v := (.bool _)) X X X<|v_mvB X X<|Z X X X X X<|Z X X X X X<|Z X X X X X<|Z X X X X X<|zd X X (d := 94) X X<|zd X X (d := 94) X X<|zd X X (d := 94) X X<|zd X X (d := 94) X X<|zd X X (d := 94) X X<|zd X X (d := 94) X X<|zd X X (d := 94) X X<|Z X X X X X<|v_pickF (v := (.bool _)) X X X<|v_asB X X<|Y<|zo<|za Tryz.results138 ?_
           refine ⟨h119, _, rfl, st121.done, ?_⟩
           refine zj ?_
           exact dec2_f1 ht hk40 c39 g116 g123 g124
         ·
          refine Z X X X X X<|Z X X X X X<|Z X X X X X<|Z X X X X X<|zd X X (d := 75) X X<|zd X X (d := 75) X X<|Z X X X X X<|v_pickF (v := (.bool _)) X X X<|v_mvB X X<|Z X X X X X<|Z X X X X X<|Z X X X X X<|Z X X X X X<|zd X X (d := 84) X X<|zd X X (d := 84) X X<|zd X X (d := 84) X X<|Z X X X X X<|v_pickF (v := (.bool _)) X X X<|v_mvB X X<|Z X X X X X<|Z X X X X X<|Z X X X X X<|Z X X X X X<|zd X X (d := 94) X X<|zd X X (d := 94) X X<|zd X X (d := 94) X X<|zd X X (d := 94) X X<|zd X X (d := 94) X X<|zd X X (d := 94) X X<|zd X X (d := 94) X X ?_
          refine Z X X X X X<|v_pickF (v := (.bool _)) X X X<|v_asB X X<|Y<|zo<|za Tryz.results138 ?_
          refine ⟨h119, _, rfl, st121.done, ?_⟩
          refine zj ?_
          exact dec2_f0 ht hk40 c39 g116 g123
        ·
         replace g116 := of_decide_eq_false g116
         refine Z X X X X X<|Z X X X X X<|Z X X X X X<|Z X X X X X<|zd X X (d := 65) X X<|zd X X (d := 65) X X<|zd X X (d := 65) X X<|Z X X X X X<|v_pickF (v := (.bool _)) X X X<|v_mvB X X<|Z X X X X X<|Z X X X X X<|Z X X X X X<|Z X X X X X<|zd X X (d := 75) X X<|zd X X (d := 75) X X<|Z X X X X X<|v_pickF (v := (.bool _)) X X X<|v_mvB X X<|Z X X X X X<|Z X X X X X<|Z X X X X X<|Z X X X X X<|zd X X (d := 84) X X<|zd X X (d := 84) X X<|zd X X (d := 84) X X<|Z X X X X X<|v_pickF (v := (.bool _)) X X X<|v_mvB X X<|Z X X X X X ?_
         refine Z X X X X X<|Z X X X X X<|Z X X X X X<|zd X X (d := 94) X X<|zd X X (d := 94) X X<|zd X X (d := 94) X X<|zd X X (d := 94) X X<|zd X X (d := 94) X X<|zd X X (d := 94) X X<|zd X X (d := 94) X X<|Z X X X X X<|v_pickF (v := (.bool _)) X X X<|v_asB X X<|Y<|zo<|za Tryz.results138 ?_
         refine ⟨h112, _, rfl, st114.done, ?_⟩
         refine zj ?_
         exact dec2_n ht hk40 c39 g116
      ·
       cases c106
     ·
      cases c103
    ·
     cases c100
   ·
    refine zg<|v_field_addr X Tryz.underlying74 X Tryz.sizeOf5 X X<|v_load_cells1 (j := 1) st37.sub (hc11.up (((le18.trans le22).trans le32).trans le36)) X X X Tryz.isAgg5 X ?_
    refine zk rfl rfl (zae rfl rfl (show _ = ((3 : Nat) : Int) by rw [hk40]; rfl) rfl Tryz.underlying257 Tryz.sizeOf256) ?_
    refine v_load_cellsN (j := 15) st37.sub (K1.up (((((le4.trans le10).trans le18).trans le22).trans le32).trans le36)) (us := [.bool false, .bool true, .bool true, .bool false, .func (.func 271) #[] #[]]) X X Tryz.isAgg256 Tryz.sizeOf256 X X X<|zD st37 Tryz.zeroValue256 X X ?_
    intro b132 w133 st134
    refine zC st134 (k := 0) X X X (zp X (zp X (zp X (zp X (zp X zQ))))) Tryz.sizeOf256 X X X ?_
    intro w135 st136
    obtain ⟨h137, le138, hb139, st141⟩ := st136.freeze (k := 0) rfl
    have hc140 := Cells.of hb139
    refine Y<|W.sr<|v_field_addr X Tryz.underlying74 X Tryz.sizeOf3 X X<|v_load_cells1 (j := 0) st141.sub (hc11.up ((((le18.trans le22).trans le32).trans le36).trans le138)) X X X Tryz.isAgg3 X<|v_field_addr X Tryz.underlying74 X Tryz.sizeOf5 X X<|v_load_cells1 (j := 1) st141.sub (hc11.up ((((le18.trans le22).trans le32).trans le36).trans le138)) X X X Tryz.isAgg5 X<|zk X X (r_build (cs := [.int .i64 (d.number), .int .u8 (d.kind), strV [], .int .i64 0, .int .i64 0, .int .i64 0, strV [], .int .u8 0, .int .i64 0]) t_kr)<|zD st141 Tryz.zeroValue74 X X ?_
    intro b142 w143 st144
    refine zC st144 (k := 1) X X X (zp X (zp X (zp X (zp X (zp X (zp X (zp X (zp X (zp X zQ))))))))) Tryz.sizeOf74 X X X ?_
    intro w145 st146
    refine Y<|zf<|W.sr<|v_field_addr X Tryz.underlying256 X Tryz.sizeOf4 X X<|v_load_cells1 (j := 0) st146.sub hc140 X X X Tryz.isAgg4 X<|Y ?_
    refine zh rfl (fun c147 => ?_) (fun c147 => ?_)
    ·
     cases c147
    ·
     refine zr<|U<|zf<|W.sr<|v_field_addr X Tryz.underlying256 X Tryz.sizeOf4 X X<|v_load_cells1 (j := 1) st146.sub hc140 X X X Tryz.isAgg4 X<|Y ?_
     refine zh rfl (fun c148 => ?_) (fun c148 => ?_)
     ·
      refine zg<|v_field_addr X Tryz.underlying74 X Tryz.sizeOf70 X X<|v_load_cellsN (j := 3) st146.sub (hc11.up ((((le18.trans le22).trans le32).trans le36).trans le138)) (us := [.int .i64 (d.at_.chapter), .int .i64 (d.at_.line), .int .i64 (d.at_.word)]) X X Tryz.isAgg70 Tryz.sizeOf70 X X X<|v_field_addr X Tryz.underlying74 X Tryz.sizeOf70 X X<|zC st146 (k := 1) X X X (zp X (zp X (zp X zQ))) Tryz.sizeOf70 X X X ?_
      intro w149 st150
      refine Y<|zf<|W.sr<|v_field_addr X Tryz.underlying256 X Tryz.sizeOf4 X X<|v_load_cells1 (j := 2) st150.sub hc140 X X X Tryz.isAgg4 X<|Y ?_
      refine zh rfl (fun c151 => ?_) (fun c151 => ?_)
      ·
       refine zg<|v_field_addr X Tryz.underlying74 X Tryz.sizeOf72 X X<|v_load_cellsN (j := 6) st150.sub (hc11.up ((((le18.trans le22).trans le32).trans le36).trans le138)) (us := [strV (d.to.stem), .int .u8 (d.to.mark)]) X X Tryz.isAgg72 Tryz.sizeOf72 X X X<|v_field_addr X Tryz.underlying74 X Tryz.sizeOf72 X X<|zC st150 (k := 1) X X X (zp X (zp X zQ)) Tryz.sizeOf72 X X X ?_
       intro w152 st153
       refine Y<|zf<|W.sr<|v_field_addr X Tryz.underlying256 X Tryz.sizeOf4 X X<|v_load_cells1 (j := 3) st153.sub hc140 X X X Tryz.isAgg4 X<|Y ?_
       refine zh rfl (fun c154 => ?_) (fun c154 => ?_)
       ·
        cases c154
       ·
        refine zr<|U<|W.sr<|v_load_call st153.sub (hc5.up (((((le10.trans le18).trans le22).trans le32).trans le36).trans le138)) X Tryz.isAgg24 Tryz.sizeOf24 X X<|v_field_addr X Tryz.underlying74 X Tryz.sizeOf70 X X<|v_load_cellsN (j := 3) st153.sub (hc11.up ((((le18.trans le22).trans le32).trans le36).trans le138)) (us := [.int .i64 (d.at_.chapter), .int .i64 (d.at_.line), .int .i64 (d.at_.word)]) X X Tryz.isAgg70 Tryz.sizeOf70 X X X<|zi st153 X X X Tryz.call85 X (c_leaf_At st153.sub (t := t) (t_f0.up ((((((le4.trans le10).trans le18).trans le22).trans le32).trans le36).trans le138)) (p := d.at_)) ?_
        intro r155 w156 h157 le158 st159 q160
        obtain rfl := q160
        refine v_mvT X X<|v_extract (v := (strV _)) X X X<|v_extract (v := (.int _ _)) X X X<|v_asS X X<|v_asI X X<|Y<|zf ?_
        have qn : 1 ≤ d.number ∧ d.number ≤ 999 := by
         have q := c39
         simp [inAll, inB] at q
         omega
        refine zg<|v_load_call st159.sub (hc11.up (((((le18.trans le22).trans le32).trans le36).trans le138).trans le158)) X Tryz.isAgg74 Tryz.sizeOf74 X X<|v_load_ball (st159.get (k := 1) X) X Tryz.isAgg74 Tryz.sizeOf74 X X<|zk X X (r_steql X X Tryz.eqGuardType74 (Tryz.eq_Decision d (Decision.mk (d.number) (d.kind) ([]) (Place.mk (d.at_.chapter) (d.at_.line) (d.at_.word)) (Head.mk (d.to.stem) (d.to.mark)) 0)))<|v_mvB X X ?_
        refine zx (d := 61) rfl (fun g161 => ?_) (fun g161 => ?_)
        ·
         replace g161 := of_decide_eq_true g161
         refine M X X (d := 61) X<|v_field_addr X Tryz.underlying256 X Tryz.sizeOf4 X X<|M X X (d := 61) X<|v_load_cells1 (j := 0) st159.sub (hc140.up le158) X X X Tryz.isAgg4 X<|M X X (d := 61) X<|v_not X X<|M X X (d := 61) X<|v_mvB X X<|Z X X X X X<|Z X X X X X<|Z X X X X X<|M X X (d := 61) X<|v_pickT (v := (.bool _)) X X X<|v_pickT (v := (.bool _)) X X X<|v_mvB X X<|M X X (d := 71) X<|v_field_addr X Tryz.underlying256 X Tryz.sizeOf4 X X<|M X X (d := 71) X<|v_load_cells1 (j := 1) st159.sub (hc140.up le158) X X X Tryz.isAgg4 X<|M X X (d := 71) X<|v_not X X<|M X X (d := 71) X<|v_mvB X X<|M X X (d := 75) X<|v_mvI X X<|M X X (d := 75) X<|v_eql X X X<|M X X (d := 71) X<|v_pickF (v := (.bool _)) X X X<|v_pickT (v := (.bool _)) X X X ?_
         refine v_mvB X X ?_
         refine zx (d := 80) rfl (fun g162 => ?_) (fun g162 => ?_)
         ·
          replace g162 := of_decide_eq_true g162
          refine M X X (d := 80) X<|v_field_addr X Tryz.underlying256 X Tryz.sizeOf4 X X<|M X X (d := 80) X<|v_load_cells1 (j := 2) st159.sub (hc140.up le158) X X X Tryz.isAgg4 X<|M X X (d := 80) X<|v_not X X<|M X X (d := 80) X<|v_mvB X X<|M X X (d := 84) X<|v_field_addr X Tryz.underlying74 X Tryz.sizeOf72 X X<|M X X (d := 84) X<|v_load_cellsN (j := 6) st159.sub (hc11.up (((((le18.trans le22).trans le32).trans le36).trans le138).trans le158)) (us := [strV (d.to.stem), .int .u8 (d.to.mark)]) X X Tryz.isAgg72 Tryz.sizeOf72 X X X<|M X X (d := 84) X<|zi st159 X X X Tryz.call186 X (c_stem_right st159.sub (hd := d.to) t_str t_u8) ?_
          intro r163 w164 h165 le166 st167 q168
          obtain rfl := q168
          refine M X X (d := 80) X<|v_pickF (v := (.bool _)) X X X<|v_pickT (v := (.bool _)) X X X<|v_mvB X X ?_
          refine zx (d := 90) rfl (fun g169 => ?_) (fun g169 => ?_)
          ·
           refine M X X (d := 90) X<|v_field_addr X Tryz.underlying256 X Tryz.sizeOf4 X X<|M X X (d := 90) X<|v_load_cells1 (j := 3) st167.sub (hc140.up (le158.trans le166)) X X X Tryz.isAgg4 X<|M X X (d := 90) X<|v_not X X<|M X X (d := 90) X<|v_mvB X X<|Z X X X X X<|Z X X X X X<|Z X X X X X<|Z X X X X X<|Z X X X X X<|Z X X X X X<|Z X X X X X<|M X X (d := 90) X<|v_pickT (v := (.bool _)) X X X<|v_pickT (v := (.bool _)) X X X<|v_asB X X<|Y<|zo<|za Tryz.results138 ?_
           refine ⟨h165, _, rfl, st167.done, ?_⟩
           refine zj ?_
           exact dec3_t ht hk40 c39 g161 g162 g169
          ·
           refine Z X X X X X<|Z X X X X X<|Z X X X X X<|Z X X X X X<|zd X X (d := 94) X X<|zd X X (d := 94) X X<|zd X X (d := 94) X X<|zd X X (d := 94) X X<|zd X X (d := 94) X X<|zd X X (d := 94) X X<|zd X X (d := 94) X X<|Z X X X X X<|v_pickF (v := (.bool _)) X X X<|v_asB X X<|Y<|zo<|za Tryz.results138 ?_
           refine ⟨h165, _, rfl, st167.done, ?_⟩
           refine zj ?_
           exact dec3_f1 ht hk40 c39 g161 g162 g169
         ·
          replace g162 := of_decide_eq_false g162
          refine Z X X X X X<|Z X X X X X<|Z X X X X X<|Z X X X X X<|zd X X (d := 84) X X<|zd X X (d := 84) X X<|zd X X (d := 84) X X<|Z X X X X X<|v_pickF (v := (.bool _)) X X X<|v_mvB X X<|Z X X X X X<|Z X X X X X<|Z X X X X X<|Z X X X X X<|zd X X (d := 94) X X<|zd X X (d := 94) X X<|zd X X (d := 94) X X<|zd X X (d := 94) X X<|zd X X (d := 94) X X<|zd X X (d := 94) X X<|zd X X (d := 94) X X<|Z X X X X X<|v_pickF (v := (.bool _)) X X X<|v_asB X X<|Y<|zo<|za Tryz.results138 ?_
          refine ⟨h157, _, rfl, st159.done, ?_⟩
          refine zj ?_
          exact dec3_f0 ht hk40 c39 g161 g162
        ·
         replace g161 := of_decide_eq_false g161
         refine Z X X X X X<|Z X X X X X<|Z X X X X X<|Z X X X X X<|zd X X (d := 65) X X<|zd X X (d := 65) X X<|zd X X (d := 65) X X<|Z X X X X X<|v_pickF (v := (.bool _)) X X X<|v_mvB X X<|Z X X X X X<|Z X X X X X<|Z X X X X X<|Z X X X X X<|zd X X (d := 75) X X<|zd X X (d := 75) X X<|Z X X X X X<|v_pickF (v := (.bool _)) X X X<|v_mvB X X<|Z X X X X X<|Z X X X X X<|Z X X X X X<|Z X X X X X<|zd X X (d := 84) X X<|zd X X (d := 84) X X<|zd X X (d := 84) X X<|Z X X X X X<|v_pickF (v := (.bool _)) X X X<|v_mvB X X<|Z X X X X X ?_
         refine Z X X X X X<|Z X X X X X<|Z X X X X X<|zd X X (d := 94) X X<|zd X X (d := 94) X X<|zd X X (d := 94) X X<|zd X X (d := 94) X X<|zd X X (d := 94) X X<|zd X X (d := 94) X X<|zd X X (d := 94) X X<|Z X X X X X<|v_pickF (v := (.bool _)) X X X<|v_asB X X<|Y<|zo<|za Tryz.results138 ?_
         refine ⟨h157, _, rfl, st159.done, ?_⟩
         refine zj ?_
         exact dec3_n ht hk40 c39 g161
      ·
       cases c151
     ·
      cases c148
   ·
    refine zg<|v_field_addr X Tryz.underlying74 X Tryz.sizeOf5 X X<|v_load_cells1 (j := 1) st37.sub (hc11.up (((le18.trans le22).trans le32).trans le36)) X X X Tryz.isAgg5 X ?_
    refine zk rfl rfl (zae rfl rfl (show _ = ((4 : Nat) : Int) by rw [hk40]; rfl) rfl Tryz.underlying257 Tryz.sizeOf256) ?_
    refine v_load_cellsN (j := 20) st37.sub (K1.up (((((le4.trans le10).trans le18).trans le22).trans le32).trans le36)) (us := [.bool false, .bool false, .bool false, .bool true, .func (.func 272) #[] #[]]) X X Tryz.isAgg256 Tryz.sizeOf256 X X X<|zD st37 Tryz.zeroValue256 X X ?_
    intro b170 w171 st172
    refine zC st172 (k := 0) X X X (zp X (zp X (zp X (zp X (zp X zQ))))) Tryz.sizeOf256 X X X ?_
    intro w173 st174
    obtain ⟨h175, le176, hb177, st179⟩ := st174.freeze (k := 0) rfl
    have hc178 := Cells.of hb177
    refine Y<|W.sr<|v_field_addr X Tryz.underlying74 X Tryz.sizeOf3 X X<|v_load_cells1 (j := 0) st179.sub (hc11.up ((((le18.trans le22).trans le32).trans le36).trans le176)) X X X Tryz.isAgg3 X<|v_field_addr X Tryz.underlying74 X Tryz.sizeOf5 X X<|v_load_cells1 (j := 1) st179.sub (hc11.up ((((le18.trans le22).trans le32).trans le36).trans le176)) X X X Tryz.isAgg5 X<|zk X X (r_build (cs := [.int .i64 (d.number), .int .u8 (d.kind), strV [], .int .i64 0, .int .i64 0, .int .i64 0, strV [], .int .u8 0, .int .i64 0]) t_kr)<|zD st179 Tryz.zeroValue74 X X ?_
    intro b180 w181 st182
    refine zC st182 (k := 1) X X X (zp X (zp X (zp X (zp X (zp X (zp X (zp X (zp X (zp X zQ))))))))) Tryz.sizeOf74 X X X ?_
    intro w183 st184
    refine Y<|zf<|W.sr<|v_field_addr X Tryz.underlying256 X Tryz.sizeOf4 X X<|v_load_cells1 (j := 0) st184.sub hc178 X X X Tryz.isAgg4 X<|Y ?_
    refine zh rfl (fun c185 => ?_) (fun c185 => ?_)
    ·
     cases c185
    ·
     refine zr<|U<|zf<|W.sr<|v_field_addr X Tryz.underlying256 X Tryz.sizeOf4 X X<|v_load_cells1 (j := 1) st184.sub hc178 X X X Tryz.isAgg4 X<|Y ?_
     refine zh rfl (fun c186 => ?_) (fun c186 => ?_)
     ·
      cases c186
     ·
      refine zr<|U<|zf<|W.sr<|v_field_addr X Tryz.underlying256 X Tryz.sizeOf4 X X<|v_load_cells1 (j := 2) st184.sub hc178 X X X Tryz.isAgg4 X<|Y ?_
      refine zh rfl (fun c187 => ?_) (fun c187 => ?_)
      ·
       cases c187
      ·
       refine zr<|U<|zf<|W.sr<|v_field_addr X Tryz.underlying256 X Tryz.sizeOf4 X X<|v_load_cells1 (j := 3) st184.sub hc178 X X X Tryz.isAgg4 X<|Y ?_
       refine zh rfl (fun c188 => ?_) (fun c188 => ?_)
       ·
        refine zg<|v_field_addr X Tryz.underlying74 X Tryz.sizeOf3 X X<|v_load_cells1 (j := 8) st184.sub (hc11.up ((((le18.trans le22).trans le32).trans le36).trans le176)) X X X Tryz.isAgg3 X<|v_field_addr X Tryz.underlying74 X Tryz.sizeOf3 X X<|zO st184 (k := 1) X X X X Tryz.sizeOf3 X X X ?_
        intro w189 st190
        refine Y<|W.sr<|v_load_call st190.sub (hc5.up (((((le10.trans le18).trans le22).trans le32).trans le36).trans le176)) X Tryz.isAgg24 Tryz.sizeOf24 X X<|v_field_addr X Tryz.underlying74 X Tryz.sizeOf70 X X<|v_load_cellsN (j := 3) st190.sub (hc11.up ((((le18.trans le22).trans le32).trans le36).trans le176)) (us := [.int .i64 (d.at_.chapter), .int .i64 (d.at_.line), .int .i64 (d.at_.word)]) X X Tryz.isAgg70 Tryz.sizeOf70 X X X<|zi st190 X X X Tryz.call85 X (c_leaf_At st190.sub (t := t) (t_f0.up ((((((le4.trans le10).trans le18).trans le22).trans le32).trans le36).trans le176)) (p := d.at_)) ?_
        intro r191 w192 h193 le194 st195 q196
        obtain rfl := q196
        refine v_mvT X X<|v_extract (v := (strV _)) X X X<|v_extract (v := (.int _ _)) X X X<|v_asS X X<|v_asI X X<|Y<|zf ?_
        have qn : 1 ≤ d.number ∧ d.number ≤ 999 := by
         have q := c39
         simp [inAll, inB] at q
         omega
        refine zg<|v_load_call st195.sub (hc11.up (((((le18.trans le22).trans le32).trans le36).trans le176).trans le194)) X Tryz.isAgg74 Tryz.sizeOf74 X X<|v_load_ball (st195.get (k := 1) X) X Tryz.isAgg74 Tryz.sizeOf74 X X<|zk X X (r_steql X X Tryz.eqGuardType74 (Tryz.eq_Decision d (Decision.mk (d.number) (d.kind) ([]) (Place.mk 0 0 0) (Head.mk ([]) 0) (d.of_))))<|v_mvB X X ?_
        refine zx (d := 61) rfl (fun g197 => ?_) (fun g197 => ?_)
        ·
         replace g197 := of_decide_eq_true g197
         refine M X X (d := 61) X<|v_field_addr X Tryz.underlying256 X Tryz.sizeOf4 X X<|M X X (d := 61) X<|v_load_cells1 (j := 0) st195.sub (hc178.up le194) X X X Tryz.isAgg4 X<|M X X (d := 61) X<|v_not X X<|M X X (d := 61) X<|v_mvB X X<|Z X X X X X<|Z X X X X X<|Z X X X X X<|M X X (d := 61) X<|v_pickT (v := (.bool _)) X X X<|v_pickT (v := (.bool _)) X X X<|v_mvB X X<|M X X (d := 71) X<|v_field_addr X Tryz.underlying256 X Tryz.sizeOf4 X X<|M X X (d := 71) X<|v_load_cells1 (j := 1) st195.sub (hc178.up le194) X X X Tryz.isAgg4 X<|M X X (d := 71) X<|v_not X X<|M X X (d := 71) X<|v_mvB X X<|Z X X X X X<|Z X X X X X<|M X X (d := 71) X<|v_pickT (v := (.bool _)) X X X<|v_pickT (v := (.bool _)) X X X<|v_mvB X X<|M X X (d := 80) X ?_
         refine v_field_addr X Tryz.underlying256 X Tryz.sizeOf4 X X<|M X X (d := 80) X<|v_load_cells1 (j := 2) st195.sub (hc178.up le194) X X X Tryz.isAgg4 X<|M X X (d := 80) X<|v_not X X<|M X X (d := 80) X<|v_mvB X X<|Z X X X X X<|Z X X X X X<|Z X X X X X<|M X X (d := 80) X<|v_pickT (v := (.bool _)) X X X<|v_pickT (v := (.bool _)) X X X<|v_mvB X X<|M X X (d := 90) X<|v_field_addr X Tryz.underlying256 X Tryz.sizeOf4 X X<|M X X (d := 90) X<|v_load_cells1 (j := 3) st195.sub (hc178.up le194) X X X Tryz.isAgg4 X<|M X X (d := 90) X<|v_not X X<|M X X (d := 90) X<|v_mvB X X<|M X X (d := 94) X<|v_field_addr X Tryz.underlying74 X Tryz.sizeOf3 X X<|M X X (d := 94) X<|v_load_cells1 (j := 0) st195.sub (hc11.up (((((le18.trans le22).trans le32).trans le36).trans le176).trans le194)) X X X Tryz.isAgg3 X<|M X X (d := 94) X<|v_sub X X t_om X<|M X X (d := 94) X<|v_field_addr X Tryz.underlying74 X Tryz.sizeOf3 X X ?_
         refine M X X (d := 94) X<|v_load_cells1 (j := 8) st195.sub (hc11.up (((((le18.trans le22).trans le32).trans le36).trans le176).trans le194)) X X X Tryz.isAgg3 X<|M X X (d := 94) X<|zN (L := LInt) (xs := [(d.of_)]) (cs := [.int .i64 (d.of_)]) st195 (Enc.cons (L := LInt) (vs := [.int .i64 (d.of_)]) (x := (d.of_)) (h := h193) (X) Enc.nil) X X X Tryz.underlying42 Tryz.info3 X X X t_kr ?_
         intro v198 w199 h202 le203 f200 st201
         refine M X X (d := 94) X<|zi st201 X X X Tryz.call135 X (c_stem_in st201.sub _ _ f200) ?_
         intro r204 w205 h206 le207 st208 q209
         obtain rfl := q209
         refine M X X (d := 90) X<|v_pickF (v := (.bool _)) X X X<|v_pickT (v := (.bool _)) X X X<|v_asB X X<|Y<|zo<|za Tryz.results138 ?_
         refine ⟨h206, _, rfl, st208.done, ?_⟩
         refine zj ?_
         exact dec4_t ht hk40 c39 g197
        ·
         replace g197 := of_decide_eq_false g197
         refine Z X X X X X<|Z X X X X X<|Z X X X X X<|Z X X X X X<|zd X X (d := 65) X X<|zd X X (d := 65) X X<|zd X X (d := 65) X X<|Z X X X X X<|v_pickF (v := (.bool _)) X X X<|v_mvB X X<|Z X X X X X<|Z X X X X X<|Z X X X X X<|Z X X X X X<|zd X X (d := 75) X X<|zd X X (d := 75) X X<|Z X X X X X<|v_pickF (v := (.bool _)) X X X<|v_mvB X X<|Z X X X X X<|Z X X X X X<|Z X X X X X<|Z X X X X X<|zd X X (d := 84) X X<|zd X X (d := 84) X X<|zd X X (d := 84) X X<|Z X X X X X<|v_pickF (v := (.bool _)) X X X<|v_mvB X X<|Z X X X X X ?_
         refine Z X X X X X<|Z X X X X X<|Z X X X X X<|zd X X (d := 94) X X<|zd X X (d := 94) X X<|zd X X (d := 94) X X<|zd X X (d := 94) X X<|zd X X (d := 94) X X<|zd X X (d := 94) X X<|zd X X (d := 94) X X<|Z X X X X X<|v_pickF (v := (.bool _)) X X X<|v_asB X X<|Y<|zo<|za Tryz.results138 ?_
         refine ⟨h193, _, rfl, st195.done, ?_⟩
         refine zj ?_
         exact dec4_n ht hk40 c39 g197
       ·
        cases c188
end Go.Pk

namespace Go.Pk
open Go Go.RowKit Go.Proofs
set_option maxRecDepth 4000 in
theorem c_stem_all_api_Rule_st {xs : List Rule} {v : Value} {g : FuncId} {caps : List Value} (S : Nat → Heap → World → Prop) (p : Nat → Bool)
  (hS : ∀ k h w, S k h w → Sub h w ∧ Sl LRule h v xs) (hup : ∀ k h w h' w', S k h w → St h w h' w' [] → S k h' w')
  (hf : ∀ k x h w vs, S k h w → xs[k]? = some x → LRule.R h vs x → Calls Tryz.prog g (.agg vs.toArray :: caps).toArray w (fun e w' => ∃ h', e = .returned (.bool (p k)) ∧ Le h h' ∧ S (k + 1) h' w'))
  (hg : ∀ a w, (callFunc g a).run Tryz.prog w = .ok (.enter g a) w) {h : Heap} {w : World} (h0 : S 0 h w) :
  Calls Tryz.prog 132 #[v, .func (.func g) #[] caps.toArray] w (fun e w' => ∃ h' k b, e = .returned (.bool b) ∧ S k h' w' ∧ (b = true ↔ ∀ j, j < xs.length → p j = true)) := by
 refine zz (n := 9) (args := [v, .func (.func g) #[] caps.toArray]) Tryz.func132 X X X ?_
 have st0 : St h w h w [] := St.start (hS _ _ _ h0).1
 refine W.sr<|zy st0 (v := .func (.func g) #[] caps.toArray) (cs := [.func (.func g) #[] caps.toArray]) X X X ?_
 intro b w1 h1 le1 hc st1
 have h1S := hup _ _ _ _ _ h0 st1
 refine v_asB X X<|Y<|W.sr<|v_move (v := v) X X<|v_make_func X X X ?_
 have con := c_slices_ContainsFunc_Lapi_Rule_api_Rule_st (v := v) (g := 180) (caps := [.pointer (some ⟨b, 0, none⟩)]) (fun k h w => S k h w ∧ Cells h b 0 [.func (.func g) #[] caps.toArray]) (fun k => !p k) (fun k h w hs => hS k h w hs.1) (fun k x h2 w2 vs hs hx hr u hu => by
  subst hu
  obtain ⟨hs, hc2⟩ := hs
  refine zz (n := 8) (args := [.agg vs.toArray, .pointer (some ⟨b, 0, none⟩)]) Tryz.func180 X X X ?_
  have st2 : St h2 w2 h2 w2 [] := St.start (hS _ _ _ hs).1
  refine W.sr<|zy st2 (v := .agg vs.toArray) (cs := vs) X X X ?_
  intro b3 w3 h3 le3 hc3 st3
  have hs3 := hup _ _ _ _ _ hs st3
  refine v_asB X X<|Y<|W.sr<|v_load_cells1 (j := 0) st3.sub (hc2.up le3) X X X Tryz.isAgg210 X<|v_load_call st3.sub hc3 X Tryz.isAgg68 Tryz.sizeOf68 (LRule.len hr) X ?_
  refine zX rfl rfl (zac (fs := []) (cs := caps) rfl rfl hg rfl) ((hf k x h3 w3 vs hs3 hx (LRule.up hr le3)).mono ?_)
  rintro e w4 ⟨h4, rfl, le4, hs4⟩
  refine ⟨_, rfl, ?_⟩
  refine v_not X X<|v_asB X X<|Y<|zo<|za Tryz.results180 ?_
  exact ⟨h4, rfl, hs4, hc2.up (le3.trans le4)⟩) Tryz.call180 ⟨h1S, hc⟩
 refine zX rfl rfl (zT rfl Tryz.call179 rfl) (con.mono ?_)
 rintro e w2 ⟨h2, k, rfl, q1, q2, q3, q4⟩
 refine ⟨_, rfl, ?_⟩
 refine v_not X X<|v_asB X X<|Y<|zo<|za Tryz.results132 ?_
 refine ⟨h2, _, _, rfl, q4.1, ?_⟩
 simp only [Bool.not_eq_true', decide_eq_false_iff_not, Bool.not_eq_false', Bool.not_eq_true] at q2 q3 ⊢
 constructor
 ·intro hk j hj
  exact q2 j (by omega)
 ·intro hall hk
  have := q3 hk
  rw [hall k hk] at this; cases this
/-- a test that hangs on no memory of its own -/
theorem c_stem_all_api_Rule {xs : List Rule} {v : Value} {g : FuncId} {caps : List Value} {h : Heap} {w : World} (hs : Sub h w) (hx : Sl LRule h v xs) (q : Rule → Bool)
  (hf : ∀ x h' w' vs, Le h h' → Sub h' w' → x ∈ xs → LRule.R h' vs x → ∀ u, u = .agg vs.toArray → Calls Tryz.prog g (u :: caps).toArray w' (Rets h' w' fun _ _ r => r = .bool (q x)))
  (hg : ∀ a w, (callFunc g a).run Tryz.prog w = .ok (.enter g a) w) :
  Calls Tryz.prog 132 #[v, .func (.func g) #[] caps.toArray] w (Rets h w fun _ _ r => r = .bool (xs.all q)) := by
 refine (c_stem_all_api_Rule_st (xs := xs) (v := v) (fun _ h' w' => St h w h' w' []) (fun k => ((xs[k]?).map q).getD true) (fun k h' w' s => ⟨s.sub, hx.up s.le⟩) (fun k h1 w1 h2 w2 s1 s2 => s1.call0 s2) (fun k x h1 w1 vs s1 hk hr => ?_) hg (St.start hs)).mono ?_
 ·refine (hf x h1 w1 vs s1.le s1.sub (List.mem_of_getElem? hk) hr _ rfl).mono ?_
  rintro e w2 ⟨h2, r, rfl, s2, rfl⟩
  refine ⟨h2, ?_, s2.le, s1.call0 s2⟩
  rw [hk]; rfl
 ·rintro e w2 ⟨h2, k, b, rfl, s2, hb⟩
  refine ⟨h2, _, rfl, s2, congrArg Value.bool ?_⟩
  rw [Bool.eq_iff_iff, hb, List.all_eq_true]
  constructor
  ·intro hall x hx'
   obtain ⟨j, hj⟩ := List.mem_iff_getElem?.1 hx'
   have := hall j (List.getElem?_eq_some_iff.1 hj).1
   rw [hj] at this; exact this
  ·intro hall j hj
   rw [List.getElem?_eq_getElem hj]
   exact hall _ (List.getElem_mem hj)
set_option maxRecDepth 4000 in
theorem c_stem_all_api_Decision_st {xs : List Decision} {v : Value} {g : FuncId} {caps : List Value} (S : Nat → Heap → World → Prop) (p : Nat → Bool)
  (hS : ∀ k h w, S k h w → Sub h w ∧ Sl LDecision h v xs) (hup : ∀ k h w h' w', S k h w → St h w h' w' [] → S k h' w')
  (hf : ∀ k x h w vs, S k h w → xs[k]? = some x → LDecision.R h vs x → Calls Tryz.prog g (.agg vs.toArray :: caps).toArray w (fun e w' => ∃ h', e = .returned (.bool (p k)) ∧ Le h h' ∧ S (k + 1) h' w'))
  (hg : ∀ a w, (callFunc g a).run Tryz.prog w = .ok (.enter g a) w) {h : Heap} {w : World} (h0 : S 0 h w) :
  Calls Tryz.prog 136 #[v, .func (.func g) #[] caps.toArray] w (fun e w' => ∃ h' k b, e = .returned (.bool b) ∧ S k h' w' ∧ (b = true ↔ ∀ j, j < xs.length → p j = true)) := by
 refine zz (n := 9) (args := [v, .func (.func g) #[] caps.toArray]) Tryz.func136 X X X ?_
 have st0 : St h w h w [] := St.start (hS _ _ _ h0).1
 refine W.sr<|zy st0 (v := .func (.func g) #[] caps.toArray) (cs := [.func (.func g) #[] caps.toArray]) X X X ?_
 intro b w1 h1 le1 hc st1
 have h1S := hup _ _ _ _ _ h0 st1
 refine v_asB X X<|Y<|W.sr<|v_move (v := v) X X<|v_make_func X X X ?_
 have con := c_slices_ContainsFunc_Lapi_Decision_api_Decision_st (v := v) (g := 185) (caps := [.pointer (some ⟨b, 0, none⟩)]) (fun k h w => S k h w ∧ Cells h b 0 [.func (.func g) #[] caps.toArray]) (fun k => !p k) (fun k h w hs => hS k h w hs.1) (fun k x h2 w2 vs hs hx hr u hu => by
  subst hu
  obtain ⟨hs, hc2⟩ := hs
  refine zz (n := 8) (args := [.agg vs.toArray, .pointer (some ⟨b, 0, none⟩)]) Tryz.func185 X X X ?_
  have st2 : St h2 w2 h2 w2 [] := St.start (hS _ _ _ hs).1
  refine W.sr<|zy st2 (v := .agg vs.toArray) (cs := vs) X X X ?_
  intro b3 w3 h3 le3 hc3 st3
  have hs3 := hup _ _ _ _ _ hs st3
  refine v_asB X X<|Y<|W.sr<|v_load_cells1 (j := 0) st3.sub (hc2.up le3) X X X Tryz.isAgg213 X<|v_load_call st3.sub hc3 X Tryz.isAgg74 Tryz.sizeOf74 (LDecision.len hr) X ?_
  refine zX rfl rfl (zac (fs := []) (cs := caps) rfl rfl hg rfl) ((hf k x h3 w3 vs hs3 hx (LDecision.up hr le3)).mono ?_)
  rintro e w4 ⟨h4, rfl, le4, hs4⟩
  refine ⟨_, rfl, ?_⟩
  refine v_not X X<|v_asB X X<|Y<|zo<|za Tryz.results185 ?_
  exact ⟨h4, rfl, hs4, hc2.up (le3.trans le4)⟩) Tryz.call185 ⟨h1S, hc⟩
 refine zX rfl rfl (zT rfl Tryz.call184 rfl) (con.mono ?_)
 rintro e w2 ⟨h2, k, rfl, q1, q2, q3, q4⟩
 refine ⟨_, rfl, ?_⟩
 refine v_not X X<|v_asB X X<|Y<|zo<|za Tryz.results136 ?_
 refine ⟨h2, _, _, rfl, q4.1, ?_⟩
 simp only [Bool.not_eq_true', decide_eq_false_iff_not, Bool.not_eq_false', Bool.not_eq_true] at q2 q3 ⊢
 constructor
 ·intro hk j hj
  exact q2 j (by omega)
 ·intro hall hk
  have := q3 hk
  rw [hall k hk] at this; cases this
end Go.Pk

namespace Go.Pk
open Go Go.RowKit Go.Proofs
set_option maxRecDepth 4000 in
theorem c_stem_Check_1 {h : Heap} {w : World} (hs : Sub h w) {r : Rule} (r_l1 : r.cut.length ≤ 281474976710656) (r_l2 : r.put.length ≤ 281474976710656) : Calls Tryz.prog 133 #[.agg #[strV r.cut, strV r.put, .int .i64 r.least]] w (Rets h w (fun _ _ res_ => res_ = .bool (ruleB r))) := by
 refine zz (n := 24) (args := [.agg #[strV r.cut, strV r.put, .int .i64 r.least]]) Tryz.func133 X X X ?_
 have st0 : St h w h w [] := St.start hs
 refine W.sr<|zy st0 (cs := [strV (r.cut), strV (r.put), .int .i64 (r.least)]) X X X ?_
 intro b1 w2 h3 le4 hc5 st6
 refine v_asB X X<|Y<|W.sr<|v_field_addr X Tryz.underlying68 X Tryz.sizeOf9 X X<|v_load_cells1 (j := 0) st6.sub hc5 X X X Tryz.isAgg9 X<|zi st6 X X X Tryz.call134 X (c_stem_letters st6.sub _ t_str _) ?_
 intro r7 w8 h9 le10 st11 q12
 obtain rfl := q12
 refine v_mvB X X ?_
 refine zx (d := 6) rfl (fun g13 => ?_) (fun g13 => ?_)
 ·
  refine M X X (d := 6) X<|v_field_addr X Tryz.underlying68 X Tryz.sizeOf9 X X<|M X X (d := 6) X<|v_load_cells1 (j := 1) st11.sub (hc5.up le10) X X X Tryz.isAgg9 X<|M X X (d := 6) X<|zi st11 X X X Tryz.call134 X (c_stem_letters st11.sub _ t_str _) ?_
  intro r14 w15 h16 le17 st18 q19
  obtain rfl := q19
  refine v_pickT (v := (.bool _)) X X X<|v_mvB X X ?_
  refine zx (d := 11) rfl (fun g20 => ?_) (fun g20 => ?_)
  ·
   refine M X X (d := 11) X<|v_field_addr X Tryz.underlying68 X Tryz.sizeOf9 X X<|M X X (d := 11) X<|v_load_cells1 (j := 0) st18.sub (hc5.up (le10.trans le17)) X X X Tryz.isAgg9 X<|M X X (d := 11) X<|v_field_addr X Tryz.underlying68 X Tryz.sizeOf9 X X<|M X X (d := 11) X<|v_load_cells1 (j := 1) st18.sub (hc5.up (le10.trans le17)) X X X Tryz.isAgg9 X<|M X X (d := 11) X<|zk X X (r_sneq X X)<|v_pickT (v := (.bool _)) X X X<|v_mvB X X ?_
   refine zx (d := 18) rfl (fun g21 => ?_) (fun g21 => ?_)
   ·
    replace g21 := of_decide_eq_true g21
    refine M X X (d := 18) X<|v_field_addr X Tryz.underlying68 X Tryz.sizeOf3 X X<|M X X (d := 18) X<|v_load_cells1 (j := 2) st18.sub (hc5.up (le10.trans le17)) X X X Tryz.isAgg3 X<|M X X (d := 18) X<|zN (L := LInt) (xs := [(r.least)]) (cs := [.int .i64 (r.least)]) st18 (Enc.cons (L := LInt) (vs := [.int .i64 (r.least)]) (x := (r.least)) (h := h16) (X) Enc.nil) X X X Tryz.underlying42 Tryz.info3 X X X t_kr ?_
    intro v22 w23 h26 le27 f24 st25
    refine M X X (d := 18) X<|zi st25 X X X Tryz.call135 X (c_stem_in st25.sub _ _ f24) ?_
    intro r28 w29 h30 le31 st32 q33
    obtain rfl := q33
    refine v_pickT (v := (.bool _)) X X X<|v_asB X X<|Y<|zo<|za Tryz.results133 ?_
    refine ⟨h30, _, rfl, st32.done, ?_⟩
    refine zj ?_
    simp_all [ruleB, inAll_one]
   ·
    replace g21 := of_decide_eq_false g21
    refine Z X X X X X<|Z X X X X X<|Z X X X X X<|Z X X X X X<|v_pickF (v := (.bool _)) X X X<|v_asB X X<|Y<|zo<|za Tryz.results133 ?_
    refine ⟨h16, _, rfl, st18.done, ?_⟩
    refine zj ?_
    simp_all [ruleB, inAll_one]
  ·
   refine Z X X X X X<|Z X X X X X<|Z X X X X X<|Z X X X X X<|Z X X X X X<|v_pickF (v := (.bool _)) X X X<|v_mvB X X<|Z X X X X X<|Z X X X X X<|Z X X X X X<|Z X X X X X<|v_pickF (v := (.bool _)) X X X<|v_asB X X<|Y<|zo<|za Tryz.results133 ?_
   refine ⟨h16, _, rfl, st18.done, ?_⟩
   refine zj ?_
   simp_all [ruleB, inAll_one]
 ·
  refine Z X X X X X<|Z X X X X X<|Z X X X X X<|v_pickF (v := (.bool _)) X X X<|v_mvB X X<|Z X X X X X<|Z X X X X X<|Z X X X X X<|Z X X X X X<|Z X X X X X<|v_pickF (v := (.bool _)) X X X<|v_mvB X X<|Z X X X X X<|Z X X X X X<|Z X X X X X<|Z X X X X X<|v_pickF (v := (.bool _)) X X X<|v_asB X X<|Y<|zo<|za Tryz.results133 ?_
  refine ⟨h9, _, rfl, st11.done, ?_⟩
  refine zj ?_
  simp_all [ruleB, inAll_one]
set_option maxRecDepth 4000 in
theorem c_stem_Check_2 {h0 h : Heap} {w0 w : World} {rest : Own} {m : List (Int × Bool)} {m_o : List (Nat × Obj)} {m_v : Value} (m_M : OM (fun n : Int => .int .i64 n) (fun b : Bool => .bool b) m m_o m_v) (m_N : (m.map (·.1)).Nodup) {d : Decision} (d_l2 : 0 ≤ d.kind ∧ d.kind ≤ 255) (d_l3 : d.form.length ≤ 281474976710656) (d_l7 : d.to.stem.length ≤ 281474976710656) (d_l8 : 0 ≤ d.to.mark ∧ d.to.mark ≤ 255) {numbers_b : Nat} (numbers_c : Cells h numbers_b 0 [m_v]) {t_b : Nat} {t : Text} {t_v0 : Value} (t_f0 : Sl LChapter h t_v0 t.chapters) (t_c : Cells h t_b 0 [t_v0]) (K1 : Cells h 1 0 Tryz.glob1) (ht : textB t = true) (st0 : St h0 w0 h w (m_o :: rest)) : Calls Tryz.prog 137 #[.agg #[.int .i64 d.number, .int .u8 d.kind, strV d.form, .int .i64 d.at_.chapter, .int .i64 d.at_.line, .int .i64 d.at_.word, strV d.to.stem, .int .u8 d.to.mark, .int .i64 d.of_], .pointer (some ⟨numbers_b, 0, none⟩), .pointer (some ⟨t_b, 0, none⟩)] w (fun e_ w' => ∃ h' res_ m_o', e_ = .returned res_ ∧ Le h h' ∧ St h0 w0 h' w' (m_o' :: rest) ∧ OM (fun n : Int => .int .i64 n) (fun b : Bool => .bool b) (putM m d.number true) m_o' m_v ∧ ((putM m d.number true).map (·.1)).Nodup ∧ (res_ = .bool ((!((look m d.number).getD false) && decisionB t d)))) := by
 refine zz (n := 20) (args := [.agg #[.int .i64 d.number, .int .u8 d.kind, strV d.form, .int .i64 d.at_.chapter, .int .i64 d.at_.line, .int .i64 d.at_.word, strV d.to.stem, .int .u8 d.to.mark, .int .i64 d.of_], .pointer (some ⟨numbers_b, 0, none⟩), .pointer (some ⟨t_b, 0, none⟩)]) Tryz.func137 X X X ?_
 have t_f0_b := t_f0.le
 refine W.sr<|zy st0 (cs := [.int .i64 (d.number), .int .u8 (d.kind), strV (d.form), .int .i64 (d.at_.chapter), .int .i64 (d.at_.line), .int .i64 (d.at_.word), strV (d.to.stem), .int .u8 (d.to.mark), .int .i64 (d.of_)]) X X X ?_
 intro b1 w2 h3 le4 hc5 st6
 refine v_asB X X<|Y<|W.sr<|v_load_cells1 (j := 0) st6.sub (numbers_c.up le4) X X X Tryz.isAgg207 X<|v_field_addr X Tryz.underlying74 X Tryz.sizeOf3 X X<|v_load_cells1 (j := 0) st6.sub hc5 X X X Tryz.isAgg3 X<|zk X X (r_look (k := (d.number)) (zu := false) (key_int Tryz.underlying3) Tryz.underlying207 m_M (st6.ent (k := 0) X) Tryz.zeroValue4 X X X)<|v_asB X X<|Y<|W.sr<|v_load_cells1 (j := 0) st6.sub (numbers_c.up le4) X X X Tryz.isAgg207 X<|v_field_addr X Tryz.underlying74 X Tryz.sizeOf3 X X<|v_load_cells1 (j := 0) st6.sub hc5 X X X Tryz.isAgg3 X<|OpsL.mapUpdate (i := 0) st6 m_M X m_N (key_int Tryz.underlying3) Tryz.underlying207 X (k := (d.number)) X (u := true) X ?_
 intro o7 w8 _ e9 f10 nd11 st12
 subst e9
 refine Y<|W.sr<|v_mvB X X<|v_not X X<|v_mvB X X ?_
 refine zx (d := 15) rfl (fun g13 => ?_) (fun g13 => ?_)
 ·
  refine M X X (d := 15) X<|v_load_call st12.sub (t_c.up le4) X Tryz.isAgg24 Tryz.sizeOf24 X X<|M X X (d := 15) X<|v_load_call st12.sub hc5 X Tryz.isAgg74 Tryz.sizeOf74 X X<|M X X (d := 15) X ?_
  refine zi st12 rfl rfl rfl Tryz.call138 rfl (c_stem_decided st12.sub (t := t) (t_f0.up le4) (d := d) t_u8 t_str t_str t_u8 (K1.up le4) (by assumption)) ?_
  intro r14 w15 h16 le17 st18 q19
  obtain rfl := q19
  refine v_pickT (v := (.bool _)) X X X<|v_asB X X<|Y<|zo<|za Tryz.results137 ?_
  refine ⟨h16, _, o7, rfl, (le4.trans le17), st18, f10, nd11, ?_⟩
  refine zj ?_
  simp_all
 ·
  refine Z X X X X X<|Z X X X X X<|Z X X X X X<|v_pickF (v := (.bool _)) X X X<|v_asB X X<|Y<|zo<|za Tryz.results137 ?_
  refine ⟨h3, _, o7, rfl, le4, st12, f10, nd11, ?_⟩
  refine zj ?_
  simp_all
set_option maxRecDepth 4000 in
theorem c_stem_Check {h : Heap} {w : World} (hs : Sub h w) {t : Text} {t_v0 : Value} (t_f0 : Sl LChapter h t_v0 t.chapters) {x : Lexicon} {x_v0 : Value} (x_f0 : Sl LRule h x_v0 x.rules) {x_v1 : Value} (x_f1 : Sl LDecision h x_v1 x.decisions) (K1 : Cells h 1 0 Tryz.glob1) : Calls Tryz.prog 96 #[.agg #[t_v0], .agg #[x_v0, x_v1]] w (Rets h w (fun _ _ res_ => res_ = .int .i64 (checkN t x))) := by
 refine zz (n := 40) (args := [.agg #[t_v0], .agg #[x_v0, x_v1]]) Tryz.func96 X X X ?_
 have st0 : St h w h w [] := St.start hs
 have t_f0_b := t_f0.le
 have x_f0_b := x_f0.le
 have x_f1_b := x_f1.le
 refine W.sr<|zy st0 (cs := [t_v0]) X X X ?_
 intro b1 w2 h3 le4 hc5 st6
 refine zy st6 (cs := [x_v0, x_v1]) X X X ?_
 intro b7 w8 h9 le10 hc11 st12
 refine v_asI X X<|Y<|zf<|W.sr<|v_load_call st12.sub (hc5.up le10) X Tryz.isAgg24 Tryz.sizeOf24 X X<|zi st12 X X X Tryz.call131 X (c_leaf_Check st12.sub (t := t) (t_f0.up (le4.trans le10))) ?_
 intro r13 w14 h15 le16 st17 q18
 obtain rfl := q18
 refine v_asI X X<|Y<|W.sr<|v_mvI X X<|v_neq X X X<|Y ?_
 refine zh rfl (fun c19 => ?_) (fun c19 => ?_)
 ·
  replace c19 := of_decide_eq_true c19
  refine W.sr<|v_mvI X X<|v_asI X X<|Y<|zo<|E<|za Tryz.results96 ?_
  refine ⟨h15, _, rfl, st17.done, ?_⟩
  refine zB ?_
  first | (simp_all [checkN, lexiconB]; done) | (simp_all [checkN, lexiconB]; omega) | (simp [checkN, ht, lexiconB]; intros; omega)
 ·
  replace c19 := of_decide_eq_false c19
  refine zr<|U<|W.sr<|OpsL.makeMap (κ := Int) (υ := Bool) (ek := (fun n : Int => .int .i64 n)) (eu := (fun b : Bool => .bool b)) st17 X ?_
  intro v20 o21 w22 f23 st24
  obtain ⟨mb25, rfl⟩ := f23.form
  have nd26 : (([] : List (Int × Bool)).map (·.1)).Nodup := by simp
  refine zD st24 Tryz.zeroValue207 X X ?_
  intro b27 w28 st29
  refine zO st29 (k := 1) X X (v := (.map (some mb25))) X f23.one Tryz.sizeOf207 X X X ?_
  intro w30 st31
  obtain ⟨h32, le33, hb34, st36⟩ := st31.freeze (k := 1) rfl
  have hc35 := Cells.of hb34
  refine Y<|W.sr<|v_field_addr X Tryz.underlying28 X Tryz.sizeOf25 X X<|v_load_cells1 (j := 0) st36.sub (hc11.up (le16.trans le33)) X X X Tryz.isAgg25 X ?_
  refine zi st36 rfl rfl rfl Tryz.call132 rfl (c_stem_all_api_Rule st36.sub (x_f0.up (((le4.trans le10).trans le16).trans le33)) (fun x_ => ruleB (x_)) (fun x_ h_ w_ vs_ le_ hs_ hx_ hr_ u_ hu_ => by obtain ⟨rfl, f0_, f1_⟩ := hr_; cases hu_; simp only [big] at *; exact c_stem_Check_1 hs_ (r := x_) f0_ f1_) Tryz.call133) ?_
  intro r37 w38 h39 le40 st41 q42
  obtain rfl := q42
  refine v_asB X X<|Y<|W.sr<|v_field_addr X Tryz.underlying28 X Tryz.sizeOf26 X X<|v_load_cells1 (j := 1) st41.sub (hc11.up ((le16.trans le33).trans le40)) X X X Tryz.isAgg26 X<|v_make_func X X X ?_
  have ht : textB t = true := by
   have q := c19
   cases e : textB t with
   | true => rfl
   | false => rw [e] at q; simp at q
  have con := c_stem_all_api_Decision_st (xs := x.decisions) (v := x_v1) (g := 137) (caps := [.pointer (some ⟨b27, 0, none⟩), .pointer (some ⟨b1, 0, none⟩)]) (fun (k_ : Nat) (h_ : Heap) (w_ : World) => ∃ (m_ : List (Int × Bool)) (o_ : List (Nat × Obj)), Le h39 h_ ∧ St h w h_ w_ [o_, []] ∧ OM (fun n : Int => .int .i64 n) (fun b : Bool => .bool b) m_ o_ (.map (some mb25)) ∧ (m_.map (·.1)).Nodup ∧ (∀ n_, (look m_ n_).getD false = decide (n_ ∈ ((x.decisions).take k_).map (·.number)))) (decP t x.decisions) ?_ ?_ ?_ Tryz.call137 ⟨[], _, Le.refl _, st41, f23, nd26, by simp [look]⟩
  rotate_left
  ·rintro k_ h_ w_ ⟨m_, o_, l_, s_, _⟩
   exact ⟨s_.sub, (x_f1.up ((((le4.trans le10).trans le16).trans le33).trans le40)).up l_⟩
  ·rintro k_ h_ w_ h2_ w2_ ⟨m_, o_, l_, s_, q_⟩ s2_
   exact ⟨m_, o_, l_.trans s2_.le, s_.call0 s2_, q_⟩
  ·rintro k_ d_ h_ w_ vs_ ⟨m_, o_, l_, s_, hM_, hN_, hm_⟩ hx_ hr_
   obtain ⟨rfl, f0_, f1_, f2_, f3_⟩ := hr_
   simp only [big] at *
   refine (c_stem_Check_2 hM_ hN_ (d := d_) f0_ f1_ f2_ f3_ ((hc35.up le40).up l_) (t := t) ((t_f0.up ((((le4.trans le10).trans le16).trans le33).trans le40)).up l_) ((hc5.up (((le10.trans le16).trans le33).trans le40)).up l_) ((K1.up ((((le4.trans le10).trans le16).trans le33).trans le40)).up l_) (by assumption) s_).mono ?_
   rintro e_ w3_ ⟨h3_, res_, o3_, rfl, l3_, s3_, hM3_, hN3_, rfl⟩
   refine ⟨h3_, ?_, l3_, _, _, l_.trans l3_, s3_, hM3_, hN3_, ?_⟩
   ·rw [decP_some hx_, hm_]
   ·intro n_
    rw [look_putM, take_snoc hx_, List.map_append]
    by_cases e_ : n_ = d_.number
    ·simp [e_]
    ·simp only [if_neg e_, hm_]; simp [e_]
  refine zX rfl rfl (zT rfl Tryz.call136 rfl) (con.mono ?_)
  rintro _ w44 ⟨h45, k50, bb49, rfl, ⟨m51, o52, le53, st47, hM54, hN55, hm56⟩, hb48⟩
  refine ⟨_, rfl, ?_⟩
  clear con
  have hdB := decisions_iff hb48
  clear hb48
  subst hdB
  refine v_asB X X<|Y<|zf<|W.sr<|v_mvB X X<|v_not X X<|v_mvB X X ?_
  refine zx (d := 24) rfl (fun g57 => ?_) (fun g57 => ?_)
  ·
   refine Z X X X X X<|Z X X X X X<|v_pickT (v := (.bool _)) X X X<|v_mvB X X<|Z X X X X X<|Z X X X X X<|Z X X X X X<|Z X X X X X<|v_pickT (v := (.bool _)) X X X<|v_mvB X X<|Z X X X X X<|Z X X X X X<|Z X X X X X<|Z X X X X X<|v_pickT (v := (.bool _)) X X X<|Y ?_
   refine zh rfl (fun c58 => ?_) (fun c58 => ?_)
   ·
    refine W.sr<|v_asI X X<|Y<|zo<|E<|za Tryz.results96 ?_
    refine ⟨h45, _, rfl, st47.done, ?_⟩
    refine zB ?_
    cases e : x.rules.all ruleB with
    | true => exact absurd g57 (by rw [e]; simp)
    | false => simp only [checkN, ht, lexiconB, e]; simp
   ·
    cases c58
  ·
   refine M X X (d := 24) X<|v_mvB X X<|M X X (d := 24) X<|v_not X X<|v_pickF (v := (.bool _)) X X X<|v_mvB X X ?_
   refine zx (d := 28) rfl (fun g59 => ?_) (fun g59 => ?_)
   ·
    refine Z X X X X X<|Z X X X X X<|Z X X X X X<|Z X X X X X<|v_pickT (v := (.bool _)) X X X<|v_mvB X X<|Z X X X X X<|Z X X X X X<|Z X X X X X<|Z X X X X X<|v_pickT (v := (.bool _)) X X X<|Y ?_
    refine zh rfl (fun c60 => ?_) (fun c60 => ?_)
    ·
     refine W.sr<|v_asI X X<|Y<|zo<|E<|za Tryz.results96 ?_
     refine ⟨h45, _, rfl, st47.done, ?_⟩
     refine zB ?_
     have q : (x.decisions.all (decisionB t) && decide (x.decisions.map (·.number)).Nodup) = false := by
      cases e : (x.decisions.all (decisionB t) && decide (x.decisions.map (·.number)).Nodup) with
      | true => exact absurd g59 (by rw [e]; simp)
      | false => rfl
     rw [checkN, show lexiconB t x = (decide (x.rules.length ≤ 12) && (decide (x.decisions.length ≤ 20) && (x.rules.all ruleB && (x.decisions.all (decisionB t) && decide (x.decisions.map (·.number)).Nodup)))) from by simp only [lexiconB, Bool.and_assoc], q]
     simp [ht]
    ·
     cases c60
   ·
    refine M X X (d := 28) X<|v_field_addr X Tryz.underlying28 X Tryz.sizeOf25 X X<|M X X (d := 28) X<|v_load_cells1 (j := 0) st47.sub (hc11.up (((le16.trans le33).trans le40).trans le53)) X X X Tryz.isAgg25 X<|M X X (d := 28) X<|v_len (x_f0.up (((((le4.trans le10).trans le16).trans le33).trans le40).trans le53)) X Tryz.underlying25 X<|M X X (d := 28) X<|v_gtr X X X<|v_pickF (v := (.bool _)) X X X<|v_mvB X X ?_
    refine zx (d := 34) rfl (fun g61 => ?_) (fun g61 => ?_)
    ·
     replace g61 := of_decide_eq_true g61
     refine Z X X X X X<|Z X X X X X<|Z X X X X X<|Z X X X X X<|v_pickT (v := (.bool _)) X X X<|Y ?_
     refine zh rfl (fun c62 => ?_) (fun c62 => ?_)
     ·
      refine W.sr<|v_asI X X<|Y<|zo<|E<|za Tryz.results96 ?_
      refine ⟨h45, _, rfl, st47.done, ?_⟩
      refine zB ?_
      first | (simp_all [checkN, lexiconB]; done) | (simp_all [checkN, lexiconB]; omega) | (simp [checkN, ht, lexiconB]; intros; omega)
     ·
      cases c62
    ·
     replace g61 := of_decide_eq_false g61
     refine M X X (d := 34) X<|v_field_addr X Tryz.underlying28 X Tryz.sizeOf26 X X<|M X X (d := 34) X<|v_load_cells1 (j := 1) st47.sub (hc11.up (((le16.trans le33).trans le40).trans le53)) X X X Tryz.isAgg26 X<|M X X (d := 34) X<|v_len (x_f1.up (((((le4.trans le10).trans le16).trans le33).trans le40).trans le53)) X Tryz.underlying26 X<|M X X (d := 34) X<|v_gtr X X X<|v_pickF (v := (.bool _)) X X X<|Y ?_
     refine zh rfl (fun c63 => ?_) (fun c63 => ?_)
     ·
      replace c63 := of_decide_eq_true c63
      refine W.sr<|v_asI X X<|Y<|zo<|E<|za Tryz.results96 ?_
      refine ⟨h45, _, rfl, st47.done, ?_⟩
      refine zB ?_
      first | (simp_all [checkN, lexiconB]; done) | (simp_all [checkN, lexiconB]; omega) | (simp [checkN, ht, lexiconB]; intros; omega)
     ·
      replace c63 := of_decide_eq_false c63
      refine zr<|U<|W.sr<|v_asI X X<|Y<|zo<|za Tryz.results96 ?_
      refine ⟨h45, _, rfl, st47.done, ?_⟩
      refine zB ?_
      first | (simp_all [checkN, lexiconB]; done) | (simp_all [checkN, lexiconB]; omega) | (simp [checkN, ht, lexiconB]; intros; omega)
end Go.Pk

namespace Go.Pk
open Go Go.RowKit Go.Proofs
end Go.Pk
