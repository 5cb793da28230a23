/- A PART OF THE PROOF: contracts of functions, each walked once (much of it printed by a program of the author's own). -/
import Derived.Test.YtfeechoaiiohhaaGreatDoorT4
import Derived.Test.YtfeechoaiiohhaaGreatDoorT2
import Derived.Test.YtfeechoaiiohhaaGreatDoorT1
import Derived.Test.YtfeechoaiiohhaaGreatDoorT7
import Derived.Test.YtfeechoaiiohhaaGreatDoorT6
set_option linter.unusedSimpArgs false
set_option linter.unusedVariables false
namespace Go.Pk
open Go Go.RowKit Go.Proofs
set_option maxRecDepth 4000 in
theorem c_postilref01_Great {h : Heap} {w : World} (hs : Sub h w) {t : Text} {t_v0 : Value} (t_f0 : Sl LChapter h t_v0 t.chapters) : Calls Tryz.prog 34 #[.agg #[t_v0]] w (Rets h w (fun _ _ res_ => res_ = .bool ((!smallT t)))) := by
 refine zA (n := 75) (args := [.agg #[t_v0]]) Tryz.func34 X X X ?_
 have st0 : St h w h w [] := St.start hs
 have t_f0_b := t_f0.le
 refine W.sr<|zz st0 (cs := [t_v0]) X X X ?_
 intro b1 w2 h3 le4 hc5 st6
 refine v_asB X X<|Z<|zj<|W.sr<|v_field_addr X Tryz.underlying24 X Tryz.sizeOf22 X X<|v_load_cells1 (j := 0) st6.sub hc5 X X X Tryz.isAgg22 X<|v_len (t_f0.up le4) X Tryz.underlying22 X<|v_gtr X X X<|Z ?_
 refine zk rfl (fun c7 => ?_) (fun c7 => ?_)
 ·
  replace c7 := of_decide_eq_true c7
  refine W.sr<|v_asB X X<|Z<|zm<|za<|zb Tryz.results34 ?_
  refine ⟨h3, _, rfl, st6.done, ?_⟩
  refine zf ?_
  simp [smallT]; intros; omega
 ·
  replace c7 := of_decide_eq_false c7
  refine zq<|U<|zj<|W.sr<|v_asI X X<|Z<|zt ?_
  refine zJ [2, 3, 4, 5, 10, 11, 12, 13, 14, 15, 16, 17, 18, 19, 20, 21, 22, 23, 24, 25, 26, 27, 28, 29, 30, 31, 32, 33, 34, 35, 36, 37, 38, 39, 40, 41, 42, 43, 44, 45, 46, 47, 48, 49, 50, 51, 52, 53, 54, 55, 56, 57, 58, 59, 60, 61, 62, 63, 64, 65, 66, 67, 68, 69, 70, 71, 72, 73, 74] (G := Nat × Heap) (fun ⟨i, h8⟩ => [(3, .int .i64 (i : Int))]) (fun ⟨i, h8⟩ w' => Le h3 h8 ∧ St h w h8 w' [] ∧ (i ≤ t.chapters.length) ∧ ((t.chapters.take i).all smallC = true)) (fun ⟨i, h8⟩ => t.chapters.length - i) ⟨0, h3⟩ ⟨rfl, trivial⟩ ⟨Le.refl _, st6, zO, zO⟩ ?_
  rintro ⟨i, h8⟩ _ w11 ⟨le9, st10, hi, hA⟩
  refine zj<|W.sr<|v_mvI X X<|v_field_addr X Tryz.underlying24 X Tryz.sizeOf22 X X<|v_load_cells1 (j := 0) st10.sub (hc5.up le9) X X X Tryz.isAgg22 X<|v_len (t_f0.up (le4.trans le9)) X Tryz.underlying22 X<|v_lss X X X<|Z ?_
  refine zk rfl (fun c12 => ?_) (fun c12 => ?_)
  ·
   replace c12 := of_decide_eq_true c12
   refine zq<|U<|zj<|zt<|zj<|W.sr<|v_field_addr X Tryz.underlying24 X Tryz.sizeOf22 X X<|v_load_cells1 (j := 0) st10.sub (hc5.up le9) X X X Tryz.isAgg22 X<|v_mvI X X ?_
   have hc : ∃ y_, (t.chapters)[i]? = some y_ := ⟨_, List.getElem?_eq_getElem (by omega)⟩
   obtain ⟨c, hc⟩ := hc
   obtain ⟨b13, o14, _, he16, hc15, hr_c⟩ := Sl.elem (t_f0.up (le4.trans le9)) hc
   obtain ⟨v17, rfl, f18⟩ := hr_c
   have f18_b := f18.le
   refine v_index_el he16 X X (hk := X) (hu := Tryz.underlying22) (hz := Tryz.sizeOf148) X<|v_field_addr X Tryz.underlying148 X Tryz.sizeOf146 X X<|v_load_cells1 (j := 1) st10.sub hc15 X X X Tryz.isAgg146 X<|v_len f18 X Tryz.underlying146 X<|v_gtr X X X<|Z ?_
   refine zk rfl (fun c19 => ?_) (fun c19 => ?_)
   ·
    replace c19 := of_decide_eq_true c19
    refine W.sr<|v_asB X X<|Z<|zm<|za<|zl<|za<|za<|zl<|za<|zb Tryz.results34 ?_
    refine ⟨h8, _, rfl, st10.done, ?_⟩
    refine zf ?_
    have q0 : smallC c = false := by simp [smallC]; intros; omega
    have q := not_all (p := smallC) hc q0
    simp [smallT, q]
   ·
    replace c19 := of_decide_eq_false c19
    refine zq<|U<|W.sr<|v_asI X X<|Z<|zt ?_
    refine zJ [2, 4, 5, 25, 26, 27, 28, 29, 30, 31, 32, 33, 34, 35, 36, 37, 38, 39, 40, 41, 42, 43, 44, 45, 46, 47, 48, 49, 50, 51, 52, 53, 54, 55, 56, 57, 58, 59, 60, 61, 62, 63, 64, 65, 66, 67, 68, 69, 70, 71, 72, 73, 74] (G := Nat × Heap) (fun ⟨k, h20⟩ => [(4, .int .i64 (k : Int))]) (fun ⟨k, h20⟩ w' => Le h8 h20 ∧ St h w h20 w' [] ∧ (k ≤ c.lines.length) ∧ ((c.lines.take k).all smallL = true)) (fun ⟨k, h20⟩ => c.lines.length - k) ⟨0, h8⟩ ⟨rfl, trivial⟩ ⟨Le.refl _, st10, zO, zO⟩ ?_
    rintro ⟨k, h20⟩ _ w23 ⟨le21, st22, hk, hB⟩
    refine zj<|W.sr<|v_mvI X X<|v_field_addr X Tryz.underlying24 X Tryz.sizeOf22 X X<|v_load_cells1 (j := 0) st22.sub (hc5.up (le9.trans le21)) X X X Tryz.isAgg22 X<|v_mvI X X<|v_index_el he16 X X (hk := X) (hu := Tryz.underlying22) (hz := Tryz.sizeOf148) X<|v_field_addr X Tryz.underlying148 X Tryz.sizeOf146 X X<|v_load_cells1 (j := 1) st22.sub (hc15.up le21) X X X Tryz.isAgg146 X<|v_len (f18.up le21) X Tryz.underlying146 X<|v_lss X X X<|Z ?_
    refine zk rfl (fun c24 => ?_) (fun c24 => ?_)
    ·
     replace c24 := of_decide_eq_true c24
     refine zq<|U<|zj<|zt<|zj<|W.sr<|v_field_addr X Tryz.underlying24 X Tryz.sizeOf22 X X<|v_load_cells1 (j := 0) st22.sub (hc5.up (le9.trans le21)) X X X Tryz.isAgg22 X<|v_mvI X X<|v_index_el he16 X X (hk := X) (hu := Tryz.underlying22) (hz := Tryz.sizeOf148) X<|v_field_addr X Tryz.underlying148 X Tryz.sizeOf146 X X<|v_load_cells1 (j := 1) st22.sub (hc15.up le21) X X X Tryz.isAgg146 X<|v_mvI X X ?_
     have hln : ∃ y_, (c.lines)[k]? = some y_ := ⟨_, List.getElem?_eq_getElem (by omega)⟩
     obtain ⟨ln, hln⟩ := hln
     obtain ⟨b25, o26, _, he28, hc27, hr_ln⟩ := Sl.elem (f18.up le21) hln
     obtain ⟨v29, rfl, f30⟩ := hr_ln
     have f30_b := f30.le
     refine v_index_el he28 X X (hk := X) (hu := Tryz.underlying146) (hz := Tryz.sizeOf63) X<|v_load_cells1 (j := 0) st22.sub hc27 X X X Tryz.isAgg63 X<|v_len f30 X Tryz.underlying63 X<|v_gtr X X X<|Z ?_
     refine zk rfl (fun c31 => ?_) (fun c31 => ?_)
     ·
      replace c31 := of_decide_eq_true c31
      refine W.sr<|v_asB X X<|Z<|zm<|za<|zl<|za<|za<|zl<|zl<|za<|za<|zl<|za<|zb Tryz.results34 ?_
      refine ⟨h20, _, rfl, st22.done, ?_⟩
      refine zf ?_
      have q1 : smallL ln = false := by simp [smallL]; intros; omega
      have q2 := not_all (p := smallL) hln q1
      have q0 : smallC c = false := by simp [smallC, q2]
      have q := not_all (p := smallC) hc q0
      simp [smallT, q]
     ·
      replace c31 := of_decide_eq_false c31
      refine zq<|U<|W.sr<|v_asI X X<|Z<|zt ?_
      refine zJ [2, 5, 47, 48, 49, 50, 51, 52, 53, 54, 55, 56, 57, 58, 59, 60, 61, 62, 63, 64, 65, 66, 67, 68, 69, 70, 71, 72, 73, 74] (G := Nat × Heap) (fun ⟨m, h32⟩ => [(5, .int .i64 (m : Int))]) (fun ⟨m, h32⟩ w' => Le h20 h32 ∧ St h w h32 w' [] ∧ (m ≤ ln.length) ∧ ((ln.take m).all smallW = true)) (fun ⟨m, h32⟩ => ln.length - m) ⟨0, h20⟩ ⟨rfl, trivial⟩ ⟨Le.refl _, st22, zO, zO⟩ ?_
      rintro ⟨m, h32⟩ _ w35 ⟨le33, st34, hm, hC⟩
      refine zj<|W.sr<|v_mvI X X<|v_field_addr X Tryz.underlying24 X Tryz.sizeOf22 X X<|v_load_cells1 (j := 0) st34.sub (hc5.up ((le9.trans le21).trans le33)) X X X Tryz.isAgg22 X<|v_mvI X X<|v_index_el he16 X X (hk := X) (hu := Tryz.underlying22) (hz := Tryz.sizeOf148) X<|v_field_addr X Tryz.underlying148 X Tryz.sizeOf146 X X<|v_load_cells1 (j := 1) st34.sub (hc15.up (le21.trans le33)) X X X Tryz.isAgg146 X<|v_mvI X X<|v_index_el he28 X X (hk := X) (hu := Tryz.underlying146) (hz := Tryz.sizeOf63) X<|v_load_cells1 (j := 0) st34.sub (hc27.up le33) X X X Tryz.isAgg63 X<|v_len (f30.up le33) X Tryz.underlying63 X<|v_lss X X X<|Z ?_
      refine zk rfl (fun c36 => ?_) (fun c36 => ?_)
      ·
       replace c36 := of_decide_eq_true c36
       refine zq<|U<|zj<|zt<|W.sr<|v_field_addr X Tryz.underlying24 X Tryz.sizeOf22 X X<|v_load_cells1 (j := 0) st34.sub (hc5.up ((le9.trans le21).trans le33)) X X X Tryz.isAgg22 X<|v_mvI X X<|v_index_el he16 X X (hk := X) (hu := Tryz.underlying22) (hz := Tryz.sizeOf148) X<|v_field_addr X Tryz.underlying148 X Tryz.sizeOf146 X X<|v_load_cells1 (j := 1) st34.sub (hc15.up (le21.trans le33)) X X X Tryz.isAgg146 X<|v_mvI X X<|v_index_el he28 X X (hk := X) (hu := Tryz.underlying146) (hz := Tryz.sizeOf63) X<|v_load_cells1 (j := 0) st34.sub (hc27.up le33) X X X Tryz.isAgg63 X<|v_mvI X X ?_
       have hwd : ∃ y_, (ln)[m]? = some y_ := ⟨_, List.getElem?_eq_getElem (by omega)⟩
       obtain ⟨wd, hwd⟩ := hwd
       obtain ⟨b37, o38, _, he40, hc39, hr_wd⟩ := Sl.elem (f30.up le33) hwd
       obtain ⟨rfl, ls41⟩ := hr_wd
       simp only [big] at ls41
       refine v_index_el he40 X X (hk := X) (hu := Tryz.underlying63) (hz := Tryz.sizeOf9) X<|v_load_cells1 (j := 0) st34.sub hc39 X X X Tryz.isAgg9 X<|v_len_str X Tryz.underlying9 X<|v_gtr X X X<|Z ?_
       refine zk rfl (fun c42 => ?_) (fun c42 => ?_)
       ·
        replace c42 := of_decide_eq_true c42
        refine W.sr<|v_asB X X<|Z<|zm<|zl<|za<|za<|zl<|zl<|za<|za<|zl<|zl<|za<|za<|zl<|za<|zb Tryz.results34 ?_
        refine ⟨h32, _, rfl, st34.done, ?_⟩
        refine zf ?_
        have q3 := not_all (p := smallW) hwd (by simp [smallW]; omega)
        have q1 : smallL ln = false := by simp [smallL, q3]
        have q2 := not_all (p := smallL) hln q1
        have q0 : smallC c = false := by simp [smallC, q2]
        have q := not_all (p := smallC) hc q0
        simp [smallT, q]
       ·
        replace c42 := of_decide_eq_false c42
        refine zq<|zy<|U<|zo<|v_mvI X X<|v_add X X t_om X<|v_asI X X<|Z ?_
        refine ⟨⟨m + 1, h32⟩, ⟨rfl, trivial⟩, ?_, ⟨le33, st34, ?_, ?_⟩, ?_⟩
        ·exact zL
        ·first | omega | (simp; omega)
        ·exact all_take_succ hC hwd (by have q := c42; simp [smallW]; omega)
        ·show ln.length - ((m + 1)) < ln.length - m
         omega
      ·
       replace c36 := of_decide_eq_false c36
       refine zM<|zh<|zh<|zF<|zy<|U<|zo<|v_mvI X X<|v_add X X t_om X<|v_asI X X<|Z ?_
       have HL : smallL ln = true := by
        have q := all_of_take hC (by omega)
        have q1 := c36
        simp [smallL, q]; omega
       refine ⟨⟨k + 1, h32⟩, ⟨rfl, trivial⟩, ?_, ⟨(le21.trans le33), st34, ?_, ?_⟩, ?_⟩
       ·exact zL
       ·first | omega | (simp; omega)
       ·exact all_take_succ hB hln HL
       ·show c.lines.length - ((k + 1)) < c.lines.length - k
        omega
    ·
     replace c24 := of_decide_eq_false c24
     refine zM<|zh<|zh<|zF<|zy<|U<|zo<|v_mvI X X<|v_add X X t_om X<|v_asI X X<|Z ?_
     have HC : smallC c = true := by
      have q := all_of_take hB (by omega)
      have q1 := c24
      simp [smallC, q]; omega
     refine ⟨⟨i + 1, h20⟩, ⟨rfl, trivial⟩, ?_, ⟨(le9.trans le21), st22, ?_, ?_⟩, ?_⟩
     ·exact zL
     ·first | omega | (simp; omega)
     ·exact all_take_succ hA hc HC
     ·show t.chapters.length - ((i + 1)) < t.chapters.length - i
      omega
  ·
   replace c12 := of_decide_eq_false c12
   refine zM<|zh<|zh<|zF<|U<|W.sr<|v_asB X X<|Z<|zm<|zb Tryz.results34 ?_
   refine ⟨h8, _, rfl, st10.done, ?_⟩
   refine zf ?_
   have q := all_of_take hA (by omega)
   simp [smallT, q]; omega
set_option maxRecDepth 4000 in
theorem c_postilref04_Great {h : Heap} {w : World} (hs : Sub h w) {x : Lexicon} {x_v0 : Value} (x_f0 : Sl LRule h x_v0 x.rules) {x_v1 : Value} (x_f1 : Sl LDecision h x_v1 x.decisions) : Calls Tryz.prog 35 #[.agg #[x_v0, x_v1]] w (Rets h w (fun _ _ res_ => res_ = .bool ((!smallX x)))) := by
 refine zA (n := 64) (args := [.agg #[x_v0, x_v1]]) Tryz.func35 X X X ?_
 have st0 : St h w h w [] := St.start hs
 have x_f0_b := x_f0.le
 have x_f1_b := x_f1.le
 refine W.sr<|zz st0 (cs := [x_v0, x_v1]) X X X ?_
 intro b1 w2 h3 le4 hc5 st6
 refine v_asB X X<|Z<|zj<|W.sr<|v_field_addr X Tryz.underlying28 X Tryz.sizeOf25 X X<|v_load_cells1 (j := 0) st6.sub hc5 X X X Tryz.isAgg25 X<|v_len (x_f0.up le4) X Tryz.underlying25 X<|v_gtr X X X<|v_mvB X X ?_
 refine zw (d := 10) rfl (fun g7 => ?_) (fun g7 => ?_)
 ·
  replace g7 := of_decide_eq_true g7
  refine Y X X X X X<|Y X X X X X<|Y X X X X X<|Y X X X X X<|v_pickT (v := (.bool _)) X X X<|Z ?_
  refine zk rfl (fun c8 => ?_) (fun c8 => ?_)
  ·
   refine W.sr<|v_asB X X<|Z<|zm<|za<|zb Tryz.results35 ?_
   refine ⟨h3, _, rfl, st6.done, ?_⟩
   refine zf ?_
   first | (simp [smallX]; intros; omega) | (simp [smallX, not_all (p := smallR) hr (by simp [smallR]; intros; omega)]; done) | (simp [smallX, not_all (p := smallD) hd (by simp [smallD]; intros; omega)]; done) | (simp [smallX, all_of_take hA (by omega), all_of_take hB (by omega)]; omega)
  ·
   cases c8
 ·
  replace g7 := of_decide_eq_false g7
  refine M X X (d := 10) X<|v_field_addr X Tryz.underlying28 X Tryz.sizeOf26 X X<|M X X (d := 10) X<|v_load_cells1 (j := 1) st6.sub hc5 X X X Tryz.isAgg26 X<|M X X (d := 10) X<|v_len (x_f1.up le4) X Tryz.underlying26 X<|M X X (d := 10) X<|v_gtr X X X<|v_pickF (v := (.bool _)) X X X<|Z ?_
  refine zk rfl (fun c9 => ?_) (fun c9 => ?_)
  ·
   replace c9 := of_decide_eq_true c9
   refine W.sr<|v_asB X X<|Z<|zm<|za<|zb Tryz.results35 ?_
   refine ⟨h3, _, rfl, st6.done, ?_⟩
   refine zf ?_
   first | (simp [smallX]; intros; omega) | (simp [smallX, not_all (p := smallR) hr (by simp [smallR]; intros; omega)]; done) | (simp [smallX, not_all (p := smallD) hd (by simp [smallD]; intros; omega)]; done) | (simp [smallX, all_of_take hA (by omega), all_of_take hB (by omega)]; omega)
  ·
   replace c9 := of_decide_eq_false c9
   refine zq<|U<|zj<|W.sr<|v_asI X X<|Z<|zt ?_
   refine zJ [2, 3, 16, 17, 18, 19, 20, 21, 22, 23, 24, 25, 26, 27, 28, 29, 30, 31, 32, 33, 34, 35, 36, 37, 38, 39, 40] (G := Nat × Heap) (fun ⟨i, h10⟩ => [(3, .int .i64 (i : Int))]) (fun ⟨i, h10⟩ w' => Le h3 h10 ∧ St h w h10 w' [] ∧ (i ≤ x.rules.length) ∧ ((x.rules.take i).all smallR = true)) (fun ⟨i, h10⟩ => x.rules.length - i) ⟨0, h3⟩ ⟨rfl, trivial⟩ ⟨Le.refl _, st6, zO, zO⟩ ?_
   rintro ⟨i, h10⟩ _ w13 ⟨le11, st12, hi, hA⟩
   refine zj<|W.sr<|v_mvI X X<|v_field_addr X Tryz.underlying28 X Tryz.sizeOf25 X X<|v_load_cells1 (j := 0) st12.sub (hc5.up le11) X X X Tryz.isAgg25 X<|v_len (x_f0.up (le4.trans le11)) X Tryz.underlying25 X<|v_lss X X X<|Z ?_
   refine zk rfl (fun c14 => ?_) (fun c14 => ?_)
   ·
    replace c14 := of_decide_eq_true c14
    refine zq<|U<|zj<|zt<|W.sr<|v_field_addr X Tryz.underlying28 X Tryz.sizeOf25 X X<|v_load_cells1 (j := 0) st12.sub (hc5.up le11) X X X Tryz.isAgg25 X<|v_mvI X X ?_
    have hr : ∃ y_, (x.rules)[i]? = some y_ := ⟨_, List.getElem?_eq_getElem (by omega)⟩
    obtain ⟨r, hr⟩ := hr
    obtain ⟨b15, o16, _, he18, hc17, hr_r⟩ := Sl.elem (x_f0.up (le4.trans le11)) hr
    obtain ⟨rfl, ls19, ls20⟩ := hr_r
    simp only [big] at ls19
    simp only [big] at ls20
    refine v_index_el he18 X X (hk := X) (hu := Tryz.underlying25) (hz := Tryz.sizeOf71) X<|v_field_addr X Tryz.underlying71 X Tryz.sizeOf9 X X<|v_load_cells1 (j := 0) st12.sub hc17 X X X Tryz.isAgg9 X<|v_len_str X Tryz.underlying9 X<|v_gtr X X X<|v_mvB X X ?_
    refine zw (d := 31) rfl (fun g21 => ?_) (fun g21 => ?_)
    ·
     replace g21 := of_decide_eq_true g21
     refine Y X X X X X<|Y X X X X X<|Y X X X X X<|Y X X X X X<|Y X X X X X<|Y X X X X X<|Y X X X X X<|Y X X X X X<|v_pickT (v := (.bool _)) X X X<|Z ?_
     refine zk rfl (fun c22 => ?_) (fun c22 => ?_)
     ·
      refine W.sr<|v_asB X X<|Z<|zm<|zl<|za<|za<|zl<|za<|zb Tryz.results35 ?_
      refine ⟨h10, _, rfl, st12.done, ?_⟩
      refine zf ?_
      first | (simp [smallX]; intros; omega) | (simp [smallX, not_all (p := smallR) hr (by simp [smallR]; intros; omega)]; done) | (simp [smallX, not_all (p := smallD) hd (by simp [smallD]; intros; omega)]; done) | (simp [smallX, all_of_take hA (by omega), all_of_take hB (by omega)]; omega)
     ·
      cases c22
    ·
     replace g21 := of_decide_eq_false g21
     refine M X X (d := 31) X<|v_field_addr X Tryz.underlying28 X Tryz.sizeOf25 X X<|M X X (d := 31) X<|v_load_cells1 (j := 0) st12.sub (hc5.up le11) X X X Tryz.isAgg25 X<|M X X (d := 31) X<|v_mvI X X<|M X X (d := 31) X<|v_index_el he18 X X (hk := X) (hu := Tryz.underlying25) (hz := Tryz.sizeOf71) X<|M X X (d := 31) X<|v_field_addr X Tryz.underlying71 X Tryz.sizeOf9 X X<|M X X (d := 31) X<|v_load_cells1 (j := 1) st12.sub hc17 X X X Tryz.isAgg9 X<|M X X (d := 31) X<|v_len_str X Tryz.underlying9 X<|M X X (d := 31) X<|v_gtr X X X<|v_pickF (v := (.bool _)) X X X<|Z ?_
     refine zk rfl (fun c23 => ?_) (fun c23 => ?_)
     ·
      replace c23 := of_decide_eq_true c23
      refine W.sr<|v_asB X X<|Z<|zm<|zl<|za<|za<|zl<|za<|zb Tryz.results35 ?_
      refine ⟨h10, _, rfl, st12.done, ?_⟩
      refine zf ?_
      first | (simp [smallX]; intros; omega) | (simp [smallX, not_all (p := smallR) hr (by simp [smallR]; intros; omega)]; done) | (simp [smallX, not_all (p := smallD) hd (by simp [smallD]; intros; omega)]; done) | (simp [smallX, all_of_take hA (by omega), all_of_take hB (by omega)]; omega)
     ·
      replace c23 := of_decide_eq_false c23
      refine zq<|zy<|U<|zo<|v_mvI X X<|v_add X X t_om X<|v_asI X X<|Z ?_
      refine ⟨⟨i + 1, h10⟩, ⟨rfl, trivial⟩, ?_, ⟨le11, st12, ?_, ?_⟩, ?_⟩
      ·exact zL
      ·first | omega | (simp; omega)
      ·exact all_take_succ hA hr (by have q := g21; have q2 := c23; simp [smallR]; omega)
      ·show x.rules.length - ((i + 1)) < x.rules.length - i
       omega
   ·
    replace c14 := of_decide_eq_false c14
    refine zM<|zh<|zh<|zF<|U<|zj<|W.sr<|v_asI X X<|Z<|zt ?_
    refine zJ [2, 4, 5, 41, 42, 43, 44, 45, 46, 47, 48, 49, 50, 51, 52, 53, 54, 55, 56, 57, 58, 59, 60, 61, 62, 63] (G := Nat × Heap) (fun ⟨k, h24⟩ => [(4, .int .i64 (k : Int))]) (fun ⟨k, h24⟩ w' => Le h10 h24 ∧ St h w h24 w' [] ∧ (k ≤ x.decisions.length) ∧ ((x.decisions.take k).all smallD = true)) (fun ⟨k, h24⟩ => x.decisions.length - k) ⟨0, h10⟩ ⟨rfl, trivial⟩ ⟨Le.refl _, st12, zO, zO⟩ ?_
    rintro ⟨k, h24⟩ _ w27 ⟨le25, st26, hk, hB⟩
    refine zj<|W.sr<|v_mvI X X<|v_field_addr X Tryz.underlying28 X Tryz.sizeOf26 X X<|v_load_cells1 (j := 1) st26.sub (hc5.up (le11.trans le25)) X X X Tryz.isAgg26 X<|v_len (x_f1.up ((le4.trans le11).trans le25)) X Tryz.underlying26 X<|v_lss X X X<|Z ?_
    refine zk rfl (fun c28 => ?_) (fun c28 => ?_)
    ·
     replace c28 := of_decide_eq_true c28
     refine zq<|U<|zj<|zt<|W.sr<|v_field_addr X Tryz.underlying28 X Tryz.sizeOf26 X X<|v_load_cells1 (j := 1) st26.sub (hc5.up (le11.trans le25)) X X X Tryz.isAgg26 X<|v_mvI X X ?_
     have hd : ∃ y_, (x.decisions)[k]? = some y_ := ⟨_, List.getElem?_eq_getElem (by omega)⟩
     obtain ⟨d, hd⟩ := hd
     obtain ⟨b29, o30, _, he32, hc31, hr_d⟩ := Sl.elem (x_f1.up ((le4.trans le11).trans le25)) hd
     obtain ⟨rfl, lu33, ls34, ls35, lu36⟩ := hr_d
     simp only [big] at ls34
     simp only [big] at ls35
     refine v_index_el he32 X X (hk := X) (hu := Tryz.underlying26) (hz := Tryz.sizeOf77) X<|v_load_call st26.sub hc31 X Tryz.isAgg77 Tryz.sizeOf77 X X<|zI st26 Tryz.zeroValue77 X X ?_
     intro b37 w38 st39
     refine zC st39 (k := 0) X X X (zn X (zn X (zn X (zn X (zn X (zn X (zn X (zn X (zn X zX))))))))) Tryz.sizeOf77 X X X ?_
     intro w40 st41
     obtain ⟨h42, le43, hb44, st46⟩ := st41.freeze (k := 0) rfl
     have hc45 := Cells.of hb44
     refine Z<|W.sr<|v_field_addr X Tryz.underlying77 X Tryz.sizeOf9 X X<|v_load_cells1 (j := 2) st46.sub hc45 X X X Tryz.isAgg9 X<|v_len_str X Tryz.underlying9 X<|v_gtr X X X<|v_mvB X X ?_
     refine zw (d := 57) rfl (fun g47 => ?_) (fun g47 => ?_)
     ·
      replace g47 := of_decide_eq_true g47
      refine Y X X X X X<|Y X X X X X<|Y X X X X X<|Y X X X X X<|Y X X X X X<|v_pickT (v := (.bool _)) X X X<|Z ?_
      refine zk rfl (fun c48 => ?_) (fun c48 => ?_)
      ·
       refine W.sr<|v_asB X X<|Z<|zm<|zl<|za<|za<|zl<|za<|zb Tryz.results35 ?_
       refine ⟨h42, _, rfl, st46.done, ?_⟩
       refine zf ?_
       first | (simp [smallX]; intros; omega) | (simp [smallX, not_all (p := smallR) hr (by simp [smallR]; intros; omega)]; done) | (simp [smallX, not_all (p := smallD) hd (by simp [smallD]; intros; omega)]; done) | (simp [smallX, all_of_take hA (by omega), all_of_take hB (by omega)]; omega)
      ·
       cases c48
     ·
      replace g47 := of_decide_eq_false g47
      refine M X X (d := 57) X<|v_field_addr X Tryz.underlying77 X Tryz.sizeOf75 X X<|M X X (d := 57) X<|v_field_addr X Tryz.underlying75 X Tryz.sizeOf9 X X<|M X X (d := 57) X<|v_load_cells1 (j := 6) st46.sub hc45 X X X Tryz.isAgg9 X<|M X X (d := 57) X<|v_len_str X Tryz.underlying9 X<|M X X (d := 57) X<|v_gtr X X X<|v_pickF (v := (.bool _)) X X X<|Z ?_
      refine zk rfl (fun c49 => ?_) (fun c49 => ?_)
      ·
       replace c49 := of_decide_eq_true c49
       refine W.sr<|v_asB X X<|Z<|zm<|zl<|za<|za<|zl<|za<|zb Tryz.results35 ?_
       refine ⟨h42, _, rfl, st46.done, ?_⟩
       refine zf ?_
       first | (simp [smallX]; intros; omega) | (simp [smallX, not_all (p := smallR) hr (by simp [smallR]; intros; omega)]; done) | (simp [smallX, not_all (p := smallD) hd (by simp [smallD]; intros; omega)]; done) | (simp [smallX, all_of_take hA (by omega), all_of_take hB (by omega)]; omega)
      ·
       replace c49 := of_decide_eq_false c49
       refine zq<|zy<|U<|zo<|v_mvI X X<|v_add X X t_om X<|v_asI X X<|Z ?_
       refine ⟨⟨k + 1, h42⟩, ⟨rfl, trivial⟩, ?_, ⟨(le25.trans le43), st46.take 0, ?_, ?_⟩, ?_⟩
       ·exact zL
       ·first | omega | (simp; omega)
       ·exact all_take_succ hB hd (by have q := g47; have q2 := c49; simp [smallD]; omega)
       ·show x.decisions.length - ((k + 1)) < x.decisions.length - k
        omega
    ·
     replace c28 := of_decide_eq_false c28
     refine zM<|zh<|zh<|zF<|U<|W.sr<|v_asB X X<|Z<|zm<|zb Tryz.results35 ?_
     refine ⟨h24, _, rfl, st26.done, ?_⟩
     refine zf ?_
     first | (simp [smallX]; intros; omega) | (simp [smallX, not_all (p := smallR) hr (by simp [smallR]; intros; omega)]; done) | (simp [smallX, not_all (p := smallD) hd (by simp [smallD]; intros; omega)]; done) | (simp [smallX, all_of_take hA (by omega), all_of_take hB (by omega)]; omega)
end Go.Pk

namespace Go.Pk
open Go Go.RowKit Go.Proofs
set_option maxRecDepth 4000 in
theorem c_postilref01_Twin {h : Heap} {w : World} (hs : Sub h w) {t : Text} {t_v0 : Value} (t_f0 : Sl LChapter h t_v0 t.chapters) (hsm : smallT t = true) : Calls Tryz.prog 36 #[.agg #[t_v0]] w (Rets h w (fun h' _ res_ => ∃ u0, res_ = .agg #[u0] ∧ Sl LChapter h' u0 (t).chapters)) := by
 refine zA (n := 55) (args := [.agg #[t_v0]]) Tryz.func36 X X X ?_
 have st0 : St h w h w [] := St.start hs
 have t_f0_b := t_f0.le
 refine W.sr<|zz st0 (cs := [t_v0]) X X X ?_
 intro b1 w2 h3 le4 hc5 st6
 refine zI st6 Tryz.zeroValue24 X X ?_
 intro b7 w8 st9
 refine Z<|W.sr<|zI st9 Tryz.zeroValue24 X X ?_
 intro b10 w11 st12
 refine Z<|zj<|W.sr<|v_asI X X<|Z<|zt ?_
 have st16 := st12.snoc
 have f17 := OSl.nil LChapter 148 h3
 refine zJ [4, 5, 6, 7, 8, 9, 10, 11, 12, 13, 14, 15, 16, 17, 18, 19, 20, 21, 22, 23, 24, 25, 26, 27, 28, 29, 30, 31, 32, 33, 34, 35, 36, 37, 38, 39, 40, 41, 42, 43, 44, 45, 46, 47, 48, 49, 50, 51, 52, 53] (G := Nat × Value × List (Nat × Obj) × Heap) (fun ⟨i, v_c1_0, o_c1_0, h13⟩ => [(4, .int .i64 (i : Int))]) (fun ⟨i, v_c1_0, o_c1_0, h13⟩ w' => Le h3 h13 ∧ St h w h13 w' [[(b7, .cells (List.toArray [(.slice none 0 0)]) 24)], [(b10, .cells (List.toArray [v_c1_0]) 24)], o_c1_0] ∧ (OSl LChapter 148 h13 v_c1_0 (t.chapters.take i) o_c1_0) ∧ (i ≤ t.chapters.length)) (fun ⟨i, v_c1_0, o_c1_0, h13⟩ => t.chapters.length - i) ⟨0, (.slice none 0 0), [], h3⟩ ⟨rfl, trivial⟩ ⟨Le.refl _, st16, (OSl.to f17 (by simp)), zO⟩ ?_
 rintro ⟨i, v_c1_0, o_c1_0, h13⟩ _ w18 ⟨le14, st15, hO_c1_0, hi⟩
 refine zj<|W.sr<|v_mvI X X<|v_field_addr X Tryz.underlying24 X Tryz.sizeOf22 X X<|v_load_cells1 (j := 0) st15.sub (hc5.up le14) X X X Tryz.isAgg22 X<|v_len (t_f0.up (le4.trans le14)) X Tryz.underlying22 X<|v_lss X X X<|Z ?_
 refine zk rfl (fun c19 => ?_) (fun c19 => ?_)
 ·
  replace c19 := of_decide_eq_true c19
  refine zq<|U<|zj<|zt<|W.sr<|v_field_addr X Tryz.underlying24 X Tryz.sizeOf22 X X<|v_load_cells1 (j := 0) st15.sub (hc5.up le14) X X X Tryz.isAgg22 X<|v_mvI X X ?_
  have hc : ∃ y_, (t.chapters)[i]? = some y_ := ⟨_, List.getElem?_eq_getElem (by omega)⟩
  obtain ⟨c, hc⟩ := hc
  obtain ⟨b20, o21, _, he23, hc22, hr_c⟩ := Sl.elem (t_f0.up (le4.trans le14)) hc
  obtain ⟨v24, rfl, f25⟩ := hr_c
  have f25_b := f25.le
  refine v_index_el he23 X X (hk := X) (hu := Tryz.underlying22) (hz := Tryz.sizeOf148) X ?_
  have hcl := smallT_c hsm hc
  have htl := smallT_len hsm
  refine v_field_addr X Tryz.underlying148 X Tryz.sizeOf3 X X<|v_load_cells1 (j := 0) st15.sub hc22 X X X Tryz.isAgg3 X<|zr X X (r_build (cs := [.int .i64 (c.id), (.slice none 0 0)]) t_kr)<|zI st15 Tryz.zeroValue148 X X ?_
  intro b26 w27 st28
  refine zC st28 (k := 3) X X X (zn X (zn X zX)) Tryz.sizeOf148 X X X ?_
  intro w29 st30
  refine Z<|zj<|W.sr<|v_asI X X<|Z<|zt ?_
  have st34 := st30.snoc
  have f35 := OSl.nil (LSl LStr) 63 h13
  refine zJ [6, 21, 22, 23, 24, 25, 26, 27, 28, 29, 30, 31, 32, 33, 34, 35, 36, 37, 38, 39, 40, 41, 42, 43, 44, 45, 46, 47] (G := Nat × Value × List (Nat × Obj) × Heap) (fun ⟨n, v_c3_1, o_c3_1, h31⟩ => [(6, .int .i64 (n : Int))]) (fun ⟨n, v_c3_1, o_c3_1, h31⟩ w' => Le h13 h31 ∧ St h w h31 w' [[(b7, .cells (List.toArray [(.slice none 0 0)]) 24)], [(b10, .cells (List.toArray [v_c1_0]) 24)], o_c1_0, [(b26, .cells (List.toArray [.int .i64 (c.id), v_c3_1]) 148)], o_c3_1] ∧ (OSl (LSl LStr) 63 h31 v_c3_1 (c.lines.take n) o_c3_1) ∧ (n ≤ c.lines.length)) (fun ⟨n, v_c3_1, o_c3_1, h31⟩ => c.lines.length - n) ⟨0, (.slice none 0 0), [], h13⟩ ⟨rfl, trivial⟩ ⟨Le.refl _, st34, (OSl.to f35 (by simp)), zO⟩ ?_
  rintro ⟨n, v_c3_1, o_c3_1, h31⟩ _ w36 ⟨le32, st33, hO_c3_1, hn⟩
  refine zj<|W.sr<|v_mvI X X<|v_field_addr X Tryz.underlying24 X Tryz.sizeOf22 X X<|v_load_cells1 (j := 0) st33.sub (hc5.up (le14.trans le32)) X X X Tryz.isAgg22 X<|v_mvI X X<|v_index_el he23 X X (hk := X) (hu := Tryz.underlying22) (hz := Tryz.sizeOf148) X<|v_field_addr X Tryz.underlying148 X Tryz.sizeOf146 X X<|v_load_cells1 (j := 1) st33.sub (hc22.up le32) X X X Tryz.isAgg146 X<|v_len (f25.up le32) X Tryz.underlying146 X<|v_lss X X X<|Z ?_
  refine zk rfl (fun c37 => ?_) (fun c37 => ?_)
  ·
   replace c37 := of_decide_eq_true c37
   refine zq<|U<|zj<|zt ?_
   have hln : ∃ y_, (c.lines)[n]? = some y_ := ⟨_, List.getElem?_eq_getElem (by omega)⟩
   obtain ⟨ln, hln⟩ := hln
   obtain ⟨b38, o39, _, he41, hc40, hr_ln⟩ := Sl.elem (f25.up le32) hln
   obtain ⟨v42, rfl, f43⟩ := hr_ln
   have f43_b := f43.le
   have hll := smallT_l hsm hc hln
   refine W.regionR (er := ([1], [], [], [], 0)) (dsts := [32, 33, 34, 35, 36, 37, 38, 39, 40, 41, 42, 43, 44, 45, 46, 47]) st33 Tryz.mixed<|zp 0 [] X t_kr t_kr X X (fun hD wD τD hL hS hO  => (zB X Tryz.underlying148 X Tryz.sizeOf146 X))<|zp 1 [0] X t_kr t_kr X X (fun hD wD τD hL hS hO _ _ => (r_load_b1 ((hO X).get (k := 3) X) X X Tryz.isAgg146)) ?_
   refine zH 2 (.res (fun _ res_ => ∃ p, res_ = .slice p 0 0) (fun _ _ _ _ f => f)) [] rfl t_kr t_kr ?_ ?_
   ·
    intro hD wD τD hL hS hO 
    have st44 := St.start hS
    refine OpsL.sliceZ st44 X ⟨_, Tryz.sizeOf9⟩ Tryz.underlying63 ?_
    intro v45 w46 f47 st48
    exact zx ⟨_, _, rfl, st48, _, rfl, f47⟩
   refine zp 3 [] X t_kr t_kr X X (fun hD wD τD hL hS hO  => (zB X Tryz.underlying24 X Tryz.sizeOf22 X))<|zp 4 [0] X t_kr t_kr X X (fun hD wD τD hL hS hO _ _ => (zc (j := 0) (hL.sub hS) (hc5.up (le14.trans le32)) X X X Tryz.isAgg22))<|zp 5 [] X t_kr t_kr X X (fun hD wD τD hL hS hO  => (r_mvI X))<|zp 6 [1, 0] X t_kr t_kr X X (fun hD wD τD hL hS hO _ _ _ _ => (zD he23 X X (hk := X) (hu := Tryz.underlying22) (hz := Tryz.sizeOf148)))<|zp 7 [0] X t_kr t_kr X X (fun hD wD τD hL hS hO _ _ => (zB X Tryz.underlying148 X Tryz.sizeOf146 X))<|zp 8 [0] X t_kr t_kr X X (fun hD wD τD hL hS hO _ _ => (zc (j := 1) (hL.sub hS) (hc22.up le32) X X X Tryz.isAgg146))<|zp 9 [] X t_kr t_kr X X (fun hD wD τD hL hS hO  => (r_mvI X))<|zp 10 [1, 0] X t_kr t_kr X X (fun hD wD τD hL hS hO _ _ _ _ => (zD he41 X X (hk := X) (hu := Tryz.underlying146) (hz := Tryz.sizeOf63)))<|zp 11 [0] X t_kr t_kr X X (fun hD wD τD hL hS hO _ _ => (zc (j := 0) (hL.sub hS) hc40 X X X Tryz.isAgg63)) ?_
   refine zH 12 (.res (fun h' res_ => Sl LStr h' res_ ln) (fun _ _ _ hl f => f.up hl)) [9, 0] rfl t_kr t_kr ?_ ?_
   ·
    intro hD wD τD hL hS hO gv2_ gf2_ _ _
    have st49 := St.start hS
    have st50 := st49.snoc
    have f51 := OSl.nil LStr 9 hD
    have f52 := OSl.nil0 LStr 9 hD gf2_
    refine zZ (k := 0) (nb := 16) st50 f52 rfl (f43.up hL) rfl rfl rfl Tryz.underlying63 Tryz.info9 rfl rfl rfl (by decide) rfl (by simp only [List.length_take, List.length_append, List.length_cons, List.length_nil]; omega) (by simp only [List.length_take, List.length_append, List.length_cons, List.length_nil]; omega) ?_
    intro v53 o54 w55 _ e56 f57 st58
    subst e56
    obtain ⟨h59, le60, f61, st62⟩ := OSl.freeze (k := 0) st58 f57 rfl (by simp only [List.length_take, List.length_append, List.length_cons, List.length_nil]; omega)
    exact zx ⟨_, _, rfl, st62.done, _, rfl, f61⟩
   refine zH 13 (.res (fun h' res_ => Sl (LSl LStr) h' res_ ([ln])) (fun _ _ _ hl f => f.up hl)) [0] rfl t_kr t_kr ?_ ?_
   ·
    intro hD wD τD hL hS hO gv12_0 gf12_0
    have st63 := St.start hS
    refine zN (L := (LSl LStr)) (xs := [ln]) (cs := [gv12_0]) st63 (Enc.cons (L := (LSl LStr)) (vs := [gv12_0]) (x := ln) (h := hD) (⟨_, rfl, gf12_0⟩) Enc.nil) rfl rfl rfl Tryz.underlying146 Tryz.info63 rfl rfl rfl (by obtain ⟨_, _, rfl⟩ := Sl.form gf12_0; kernel_rfl) ?_
    intro v64 w65 h68 le69 f66 st67
    exact zx ⟨_, _, rfl, st67, _, rfl, f66⟩
   refine Drw.ch<|zp 15 [14, 13, 12, 11, 10, 9, 8, 7, 6, 5, 4, 3, 2, 1, 0] X t_kr t_kr X X (fun hD wD τD hL hS hO _ _ _ _ gv2_ gf2_ _ _ _ _ _ _ _ _ _ _ _ _ _ _ _ _ _ _ gv12_0 gf12_0 gv13_0 gf13_0 => (zB X Tryz.underlying148 X Tryz.sizeOf146 X))<|Drw.ch<|Drw.nil X X X X X X ⟨t_kr, X, t_kr, X, t_kr, X, X, t_kr, (cx_cons X (cx_cons X cx_nil))⟩ ?_
   intro hE71 w72 _ le73 st74 _ _ gv13_0x70 gf13_0x70 gv12_0x70 gf12_0x70
   refine zZ (k := 4) (nb := 24) st74 (hO_c3_1.up le73) rfl gf13_0x70 rfl rfl rfl Tryz.underlying146 Tryz.info63 rfl rfl rfl (by decide) rfl (by simp only [List.length_take, List.length_append, List.length_cons, List.length_nil]; omega) (by simp only [List.length_take, List.length_append, List.length_cons, List.length_nil]; omega) ?_
   intro v75 o76 w77 _ e78 f79 st80
   subst e78
   refine zx ⟨_, rfl, _, _, Le.refl _, st80, ?_⟩
   intro hE82 w83 _ le84 st85 _ _ _ _ _ _ gv2_x81 gf2_x81 _ _ _ _ _ _ _ _ _ _ _ _ _ _ _ _ _ _ gv12_0x81 gf12_0x81 gv13_0x81 gf13_0x81
   refine OpsL.store1 st85 (k := 3) X X (v := v75) X f79.one Tryz.sizeOf146 X X X ?_
   intro w86 st87
   refine zx ⟨undef, rfl, _, _, Le.refl _, st87, ?_⟩
   intro hE88 w89 _ le90 st91 _ _ _ _ gv2_x92 gf2_x92 _ _ _ _ _ _ _ _ _ _ _ _ _ _ _ _ _ _ gv12_0x92 gf12_0x92 gv13_0x92 gf13_0x92 _ _
   refine AllDeps.fin X<|zy<|U<|zo<|v_mvI X X<|v_add X X t_om X<|v_asI X X<|Z ?_
   refine ⟨⟨n + 1, v75, o76, hE88⟩, ⟨rfl, trivial⟩, ?_, ⟨(((le32.trans le73).trans le84).trans le90), st91, ?_, ?_⟩, ?_⟩
   ·exact zL
   ·refine OSl.to (f79.up (le84.trans le90)) ?_
    rw [take_snoc hln]
   ·first | omega | (simp; omega)
   ·show c.lines.length - ((n + 1)) < c.lines.length - n
    omega
  ·
   replace c37 := of_decide_eq_false c37
   refine zM<|zh<|zh<|zF<|U<|zo<|v_field_addr X Tryz.underlying24 X Tryz.sizeOf22 X X<|v_load_b1 (st33.get (k := 1) X) X X Tryz.isAgg22 X<|v_load_ball (st33.get (k := 3) X) X Tryz.isAgg148 Tryz.sizeOf148 X X ?_
   obtain ⟨h93, le94, f95, st96⟩ := OSl.freeze (k := 4) st33 hO_c3_1 rfl (by simp only [List.length_take, List.length_append, List.length_cons, List.length_nil]; omega)
   refine zN (L := LChapter) (xs := [(Chapter.mk (c.id) (c.lines.take n))]) (cs := [.int .i64 (c.id), v_c3_1]) st96 (Enc.cons (L := LChapter) (vs := [.int .i64 (c.id), v_c3_1]) (x := (Chapter.mk (c.id) (c.lines.take n))) (h := h93) (⟨_, X, f95⟩) Enc.nil) X X X Tryz.underlying22 Tryz.info148 X X X t_kr ?_
   intro v97 w98 h101 le102 f99 st100
   refine zZ (k := 2) (nb := 32) st100 (hO_c1_0.up ((le32.trans le94).trans le102)) rfl f99 rfl rfl rfl Tryz.underlying22 Tryz.info148 rfl rfl rfl (by decide) rfl (by simp only [List.length_take, List.length_append, List.length_cons, List.length_nil]; omega) (by simp only [List.length_take, List.length_append, List.length_cons, List.length_nil]; omega) ?_
   intro v103 o104 w105 _ e106 f107 st108
   subst e106
   refine v_field_addr X Tryz.underlying24 X Tryz.sizeOf22 X X<|OpsL.store1 st108 (k := 1) X X (v := v103) X f107.one Tryz.sizeOf22 X X X ?_
   intro w109 st110
   refine zx<|zy<|U<|zo<|v_mvI X X<|v_add X X t_om X<|v_asI X X<|Z ?_
   refine ⟨⟨i + 1, v103, o104, h101⟩, ⟨rfl, trivial⟩, ?_, ⟨(((le14.trans le32).trans le94).trans le102), st110.take 3, ?_, ?_⟩, ?_⟩
   ·exact zL
   ·refine OSl.to f107 ?_
    rw [take_snoc hc, List.take_of_length_le (show c.lines.length ≤ n by omega)]
   ·first | omega | (simp; omega)
   ·show t.chapters.length - ((i + 1)) < t.chapters.length - i
    omega
 ·
  replace c19 := of_decide_eq_false c19
  refine zM<|zh<|zh<|zF<|U<|W.sr<|v_load_ball (st15.get (k := 1) X) X Tryz.isAgg24 Tryz.sizeOf24 X X<|zC st15 (k := 0) X X X (zn hO_c1_0.one zX) Tryz.sizeOf24 X X X ?_
  intro w111 st112
  obtain ⟨h113, le114, hb115, st117⟩ := st112.freeze (k := 0) rfl
  have hc116 := Cells.of hb115
  refine Z<|zm<|Post.retcellF Tryz.results36 X Tryz.isAgg24 Tryz.sizeOf24 X st117.sub hc116 ?_
  obtain ⟨h118, le119, f120, st121⟩ := OSl.freeze (k := 2) st117 (hO_c1_0.up le114) rfl (by simp only [List.length_take, List.length_append, List.length_cons, List.length_nil]; omega)
  refine ⟨h118, _, rfl, st121.done, ?_⟩
  refine ⟨_, ?_, Sl.to f120 ?_⟩
  ·rfl
  ·rw [List.take_of_length_le (by omega)]
set_option maxRecDepth 4000 in
theorem c_postilref04_Twin {h : Heap} {w : World} (hs : Sub h w) {x : Lexicon} {x_v0 : Value} (x_f0 : Sl LRule h x_v0 x.rules) {x_v1 : Value} (x_f1 : Sl LDecision h x_v1 x.decisions) (hsm : smallX x = true) : Calls Tryz.prog 37 #[.agg #[x_v0, x_v1]] w (Rets h w (fun h' _ res_ => ∃ u0 u1, res_ = .agg #[u0, u1] ∧ Sl LRule h' u0 (x).rules ∧ Sl LDecision h' u1 (x).decisions)) := by
 refine zA (n := 14) (args := [.agg #[x_v0, x_v1]]) Tryz.func37 X X X ?_
 have st0 : St h w h w [] := St.start hs
 have x_f0_b := x_f0.le
 have x_f1_b := x_f1.le
 refine W.sr<|OpsL.boxO st0 (cs := [x_v0, x_v1]) X X X ?_
 intro b1 w2 st3
 refine zI st3 Tryz.zeroValue28 X X ?_
 intro b4 w5 st6
 refine Z<|W.sr<|OpsL.sliceE (L := LRule) st6 X ⟨_, Tryz.sizeOf71⟩ Tryz.underlying25 ?_
 intro v7 o8 w9 f10 st11
 refine v_field_addr X Tryz.underlying28 X Tryz.sizeOf25 X X<|v_load_b1 (st11.get (k := 0) X) X X Tryz.isAgg25 X ?_
 have hln := smallX_len hsm
 refine zZ (k := 2) (nb := 40) st11 f10 rfl x_f0 rfl rfl rfl Tryz.underlying25 Tryz.info71 rfl rfl rfl (by decide) rfl (by simp only [List.length_nil, List.nil_append]; omega) (by simp only [List.length_nil, List.nil_append]; omega) ?_
 intro v12 o13 w14 _ e15 f16 st17
 subst e15
 refine v_field_addr X Tryz.underlying28 X Tryz.sizeOf25 X X<|OpsL.store1 st17 (k := 0) X X (v := v12) X f16.one Tryz.sizeOf25 X X X ?_
 intro w18 st19
 refine Z<|W.sr<|OpsL.sliceE (L := LDecision) st19 X ⟨_, Tryz.sizeOf77⟩ Tryz.underlying26 ?_
 intro v20 o21 w22 f23 st24
 refine v_field_addr X Tryz.underlying28 X Tryz.sizeOf26 X X<|v_load_b1 (st24.get (k := 0) X) X X Tryz.isAgg26 X ?_
 refine zZ (k := 3) (nb := 88) st24 f23 rfl x_f1 rfl rfl rfl Tryz.underlying26 Tryz.info77 rfl rfl rfl (by decide) rfl (by simp only [List.length_nil, List.nil_append]; omega) (by simp only [List.length_nil, List.nil_append]; omega) ?_
 intro v25 o26 w27 _ e28 f29 st30
 subst e28
 refine v_field_addr X Tryz.underlying28 X Tryz.sizeOf26 X X<|OpsL.store1 st30 (k := 0) X X (v := v25) X f29.one Tryz.sizeOf26 X X X ?_
 intro w31 st32
 refine Z<|W.sr<|v_load_ball (st32.get (k := 0) X) X Tryz.isAgg28 Tryz.sizeOf28 X X<|zC st32 (k := 1) X X X (zn f16.one (zn f29.one zX)) Tryz.sizeOf28 X X X ?_
 intro w33 st34
 obtain ⟨h35, le36, hb37, st39⟩ := st34.freeze (k := 1) rfl
 have hc38 := Cells.of hb37
 refine Z<|zm<|Post.retcellF Tryz.results37 X Tryz.isAgg28 Tryz.sizeOf28 X st39.sub hc38 ?_
 obtain ⟨h40, le41, f42, st43⟩ := OSl.freeze (k := 2) st39 (f16.up le36) rfl (by simp only [List.nil_append]; omega)
 obtain ⟨h44, le45, f46, st47⟩ := OSl.freeze (k := 3) st43 (f29.up (le36.trans le41)) rfl (by simp only [List.nil_append]; omega)
 refine ⟨h44, _, rfl, st47.done, ?_⟩
 refine ⟨_, _, ?_, Sl.to (f42.up le45) ?_, Sl.to f46 ?_⟩
 ·rfl
 ·simp
 ·simp
end Go.Pk

namespace Go.Pk
open Go Go.RowKit Go.Proofs
set_option maxRecDepth 4000 in
theorem c_cmp_isNaN_int {h : Heap} {w : World} (hs : Sub h w) (x : Int) : Calls Tryz.prog 132 #[.int .i64 x] w (Rets h w (fun _ _ res_ => res_ = .bool (false))) := by
 refine zA (n := 6) (args := [.int .i64 x]) Tryz.func132 X X X ?_
 have st0 : St h w h w [] := St.start hs
 refine W.sr<|v_asB X X<|Z<|W.sr<|v_mvI X X<|v_mvI X X<|v_neq X X X<|v_asB X X<|Z<|zm<|zb Tryz.results132 ?_
 refine ⟨h, _, rfl, st0.done, ?_⟩
 refine zf ?_
 simp
set_option maxRecDepth 4000 in
theorem c_cmp_Compare_int {h : Heap} {w : World} (hs : Sub h w) (a : Int) (b : Int) : Calls Tryz.prog 88 #[.int .i64 a, .int .i64 b] w (Rets h w (fun _ _ res_ => res_ = .int .i64 (cmpI a b))) := by
 refine zA (n := 20) (args := [.int .i64 a, .int .i64 b]) Tryz.func88 X X X ?_
 have st0 : St h w h w [] := St.start hs
 refine W.sr<|v_asI X X<|Z<|W.sr<|v_mvI X X<|zi st0 X X X Tryz.call132 X (c_cmp_isNaN_int st0.sub _) ?_
 intro r1 w2 h3 le4 st5 q6
 obtain rfl := q6
 refine v_asB X X<|Z<|W.sr<|v_mvI X X<|zi st5 X X X Tryz.call132 X (c_cmp_isNaN_int st5.sub _) ?_
 intro r7 w8 h9 le10 st11 q12
 obtain rfl := q12
 refine v_asB X X<|Z<|zj<|W.sr<|v_mvB X X<|Z ?_
 refine zk rfl (fun c13 => ?_) (fun c13 => ?_)
 ·
  refine zj<|W.sr<|v_mvB X X<|Z ?_
  refine zk rfl (fun c14 => ?_) (fun c14 => ?_)
  ·
   refine W.sr<|v_asI X X<|Z<|zm<|za<|za<|zb Tryz.results88 ?_
   refine ⟨h9, _, rfl, st11.done, ?_⟩
   refine zE ?_
   all_goals (unfold cmpI; repeat' split)
   all_goals (first | omega | simp_all | rfl)
  ·
   refine zq<|U<|W.sr<|v_asI X X<|Z<|zm<|za<|zb Tryz.results88 ?_
   refine ⟨h9, _, rfl, st11.done, ?_⟩
   refine zE ?_
   all_goals (unfold cmpI; repeat' split)
   all_goals (first | omega | simp_all | rfl)
 ·
  refine zq<|U<|zj<|W.sr<|v_mvB X X<|Z ?_
  refine zk rfl (fun c15 => ?_) (fun c15 => ?_)
  ·
   refine W.sr<|v_asI X X<|Z<|zm<|za<|zb Tryz.results88 ?_
   refine ⟨h9, _, rfl, st11.done, ?_⟩
   refine zE ?_
   all_goals (unfold cmpI; repeat' split)
   all_goals (first | omega | simp_all | rfl)
  ·
   refine zq<|U<|zj<|W.sr<|v_mvI X X<|v_mvI X X<|v_lss X X X<|Z ?_
   refine zk rfl (fun c16 => ?_) (fun c16 => ?_)
   ·
    replace c16 := of_decide_eq_true c16
    refine W.sr<|v_asI X X<|Z<|zm<|za<|zb Tryz.results88 ?_
    refine ⟨h9, _, rfl, st11.done, ?_⟩
    refine zE ?_
    all_goals (unfold cmpI; repeat' split)
    all_goals (first | omega | simp_all | rfl)
   ·
    replace c16 := of_decide_eq_false c16
    refine zq<|U<|zj<|W.sr<|v_mvI X X<|v_mvI X X<|v_gtr X X X<|Z ?_
    refine zk rfl (fun c17 => ?_) (fun c17 => ?_)
    ·
     replace c17 := of_decide_eq_true c17
     refine W.sr<|v_asI X X<|Z<|zm<|za<|zb Tryz.results88 ?_
     refine ⟨h9, _, rfl, st11.done, ?_⟩
     refine zE ?_
     all_goals (unfold cmpI; repeat' split)
     all_goals (first | omega | simp_all | rfl)
    ·
     replace c17 := of_decide_eq_false c17
     refine zq<|U<|W.sr<|v_asI X X<|Z<|zm<|zb Tryz.results88 ?_
     refine ⟨h9, _, rfl, st11.done, ?_⟩
     refine zE ?_
     all_goals (unfold cmpI; repeat' split)
     all_goals (first | omega | simp_all | rfl)
end Go.Pk

namespace Go.Pk
open Go Go.RowKit Go.Proofs
set_option maxRecDepth 4000 in
theorem c_postilref04_Less {h : Heap} {w : World} (hs : Sub h w) {a : Head} (a_l1 : a.stem.length ≤ 281474976710656) (a_l2 : 0 ≤ a.mark ∧ a.mark ≤ 255) {b : Head} (b_l1 : b.stem.length ≤ 281474976710656) (b_l2 : 0 ≤ b.mark ∧ b.mark ≤ 255) : Calls Tryz.prog 114 #[.agg #[strV a.stem, .int .u8 a.mark], .agg #[strV b.stem, .int .u8 b.mark]] w (Rets h w (fun _ _ res_ => res_ = .bool (headLt a b))) := by
 refine zA (n := 24) (args := [.agg #[strV a.stem, .int .u8 a.mark], .agg #[strV b.stem, .int .u8 b.mark]]) Tryz.func114 X X X ?_
 have st0 : St h w h w [] := St.start hs
 refine W.sr<|zz st0 (cs := [strV (a.stem), .int .u8 (a.mark)]) X X X ?_
 intro b1 w2 h3 le4 hc5 st6
 refine zz st6 (cs := [strV (b.stem), .int .u8 (b.mark)]) X X X ?_
 intro b7 w8 h9 le10 hc11 st12
 refine v_asB X X<|Z<|W.sr<|v_field_addr X Tryz.underlying75 X Tryz.sizeOf9 X X<|v_load_cells1 (j := 0) st12.sub (hc5.up le10) X X X Tryz.isAgg9 X<|v_field_addr X Tryz.underlying75 X Tryz.sizeOf9 X X<|v_load_cells1 (j := 0) st12.sub hc11 X X X Tryz.isAgg9 X<|zr X X (r_slss X X)<|v_mvB X X ?_
 refine zw (d := 10) rfl (fun g13 => ?_) (fun g13 => ?_)
 ·
  refine Y X X X X X<|Y X X X X X<|Y X X X X X<|Y X X X X X<|Y X X X X X<|Y X X X X X<|zd X X (d := 16) X X<|zd X X (d := 16) X X<|zd X X (d := 16) X X<|zd X X (d := 16) X X<|zd X X (d := 16) X X<|Y X X X X X<|v_pickT (v := (.bool _)) X X X<|v_asB X X<|Z<|zm<|zb Tryz.results114 ?_
  refine ⟨h9, _, rfl, st12.done, ?_⟩
  refine zf ?_
  simp_all [headLt, sLt]
 ·
  refine M X X (d := 10) X<|v_field_addr X Tryz.underlying75 X Tryz.sizeOf9 X X<|M X X (d := 10) X<|v_load_cells1 (j := 0) st12.sub (hc5.up le10) X X X Tryz.isAgg9 X<|M X X (d := 10) X<|v_field_addr X Tryz.underlying75 X Tryz.sizeOf9 X X<|M X X (d := 10) X<|v_load_cells1 (j := 0) st12.sub hc11 X X X Tryz.isAgg9 X<|M X X (d := 10) X<|v_seql X X X<|M X X (d := 10) X<|v_mvB X X ?_
  refine zw (d := 16) rfl (fun g14 => ?_) (fun g14 => ?_)
  ·
   replace g14 := of_decide_eq_true g14
   refine M X X (d := 16) X<|v_field_addr X Tryz.underlying75 X Tryz.sizeOf5 X X<|M X X (d := 16) X<|v_load_cells1 (j := 1) st12.sub (hc5.up le10) X X X Tryz.isAgg5 X<|M X X (d := 16) X<|v_field_addr X Tryz.underlying75 X Tryz.sizeOf5 X X<|M X X (d := 16) X<|v_load_cells1 (j := 1) st12.sub hc11 X X X Tryz.isAgg5 X<|M X X (d := 16) X<|v_lss X X X<|M X X (d := 10) X<|v_pickT (v := (.bool _)) X X X<|v_pickF (v := (.bool _)) X X X<|v_asB X X<|Z<|zm<|zb Tryz.results114 ?_
   refine ⟨h9, _, rfl, st12.done, ?_⟩
   refine zf ?_
   simp_all [headLt, sLt]
  ·
   replace g14 := of_decide_eq_false g14
   refine Y X X X X X<|Y X X X X X<|Y X X X X X<|Y X X X X X<|Y X X X X X<|M X X (d := 10) X<|v_pickF (v := (.bool _)) X X X<|v_pickF (v := (.bool _)) X X X<|v_asB X X<|Z<|zm<|zb Tryz.results114 ?_
   refine ⟨h9, _, rfl, st12.done, ?_⟩
   refine zf ?_
   simp_all [headLt, sLt]
set_option maxRecDepth 4000 in
theorem c_postilref04_SameHeads {h : Heap} {w : World} (hs : Sub h w) {a_v : Value} {a : (List Head)} (a_f : Sl LHead h a_v a) {b_v : Value} {b : (List Head)} (b_f : Sl LHead h b_v b) : Calls Tryz.prog 59 #[a_v, b_v] w (Rets h w (fun _ _ res_ => res_ = .bool (decide (a = b)))) := by
 refine zA (n := 26) (args := [a_v, b_v]) Tryz.func59 X X X ?_
 have st0 : St h w h w [] := St.start hs
 have a_f_b := a_f.le
 have b_f_b := b_f.le
 refine W.sr<|v_asB X X<|Z<|zj<|W.sr<|v_move (v := a_v) X X<|v_len a_f X Tryz.underlying80 X<|v_move (v := b_v) X X<|v_len b_f X Tryz.underlying80 X<|v_neq X X X<|Z ?_
 refine zk rfl (fun c1 => ?_) (fun c1 => ?_)
 ·
  replace c1 := of_decide_eq_true c1
  refine W.sr<|v_asB X X<|Z<|zm<|za<|zb Tryz.results59 ?_
  refine ⟨h, _, rfl, st0.done, ?_⟩
  refine zf ?_
  have q : a ≠ b := by
   rintro rfl
   simp_all
  simp [q]
 ·
  replace c1 := of_decide_eq_false c1
  refine zq<|U<|zj<|W.sr<|v_asI X X<|Z<|zt ?_
  refine zJ [4, 5, 11, 12, 13, 14, 15, 16, 17, 18, 19, 20, 21, 22, 23, 24, 25] (G := Nat × Heap) (fun ⟨k, h2⟩ => [(5, .int .i64 (k : Int))]) (fun ⟨k, h2⟩ w' => Le h h2 ∧ St h w h2 w' [] ∧ (k ≤ a.length) ∧ (a.take k = b.take k)) (fun ⟨k, h2⟩ => a.length - k) ⟨0, h⟩ ⟨rfl, trivial⟩ ⟨Le.refl _, st0, zO, zO⟩ ?_
  rintro ⟨k, h2⟩ _ w5 ⟨le3, st4, hk, he⟩
  refine zj<|W.sr<|v_mvI X X<|v_move (v := a_v) X X<|v_len (a_f.up le3) X Tryz.underlying80 X<|v_lss X X X<|Z ?_
  refine zk rfl (fun c6 => ?_) (fun c6 => ?_)
  ·
   replace c6 := of_decide_eq_true c6
   refine zq<|U<|zj<|zt<|zj<|zT Tryz.mixed t_kr (Cls h2 _) (Cls.drew st4)<|u_move (v := a_v) X X<|u_mvI X X ?_
   have hx : ∃ y_, (a)[k]? = some y_ := ⟨_, List.getElem?_eq_getElem (by omega)⟩
   obtain ⟨x, hx⟩ := hx
   obtain ⟨b7, o8, _, he10, hc9, hr_x⟩ := Sl.elem (a_f.up le3) hx
   obtain ⟨rfl, ls11, lu12⟩ := hr_x
   simp only [big] at ls11
   refine u_index_el he10 X X (hk := X) (hu := Tryz.underlying80) (hz := Tryz.sizeOf75) X<|zg X X (fun _ hC => (zK hC.sub hc9 X Tryz.isAgg75 Tryz.sizeOf75 X))<|u_move (v := b_v) X X<|u_mvI X X ?_
   have hy : ∃ y_, (b)[k]? = some y_ := ⟨_, List.getElem?_eq_getElem (by omega)⟩
   obtain ⟨y, hy⟩ := hy
   obtain ⟨b13, o14, _, he16, hc15, hr_y⟩ := Sl.elem (b_f.up le3) hy
   obtain ⟨rfl, ls17, lu18⟩ := hr_y
   simp only [big] at ls17
   refine u_index_el he16 X X (hk := X) (hu := Tryz.underlying80) (hz := Tryz.sizeOf75) X<|zg X X (fun _ hC => (zK hC.sub hc15 X Tryz.isAgg75 Tryz.sizeOf75 X))<|zg X X (fun _ _ => (r_stneq X X Tryz.eqGuardType75 (Tryz.eq_Head x y)))<|zG ?_
   rintro w19 ⟨h20, s21⟩
   have st22 := st4.call0 s21
   refine U ?_
   refine zk rfl (fun c23 => ?_) (fun c23 => ?_)
   ·
    replace c23 := of_decide_eq_true c23
    refine W.sr<|v_asB X X<|Z<|zm<|zl<|za<|za<|zl<|za<|zb Tryz.results59 ?_
    refine ⟨h20, _, rfl, st22.done, ?_⟩
    refine zf ?_
    have q := ne_of_get hx hy (by simpa using c23)
    simp [q]
   ·
    replace c23 := of_decide_eq_false c23
    refine zq<|zy<|U<|zo<|v_mvI X X<|v_add X X t_om X<|v_asI X X<|Z ?_
    refine ⟨⟨k + 1, h20⟩, ⟨rfl, trivial⟩, ?_, ⟨(le3.trans s21.le), st22, ?_, ?_⟩, ?_⟩
    ·exact zL
    ·first | omega | (simp; omega)
    ·exact eq_take_succ he hx hy (by simpa using c23)
    ·show a.length - ((k + 1)) < a.length - k
     omega
  ·
   replace c6 := of_decide_eq_false c6
   refine zM<|zh<|zh<|zF<|U<|W.sr<|v_asB X X<|Z<|zm<|zb Tryz.results59 ?_
   refine ⟨h2, _, rfl, st4.done, ?_⟩
   refine zf ?_
   have q := eq_of_take he (by omega) (by omega)
   simp [q]
end Go.Pk

namespace Go.Pk
open Go Go.RowKit Go.Proofs
set_option maxRecDepth 4000 in
theorem c_slices_Compact_Lint_int {h0 h : Heap} {w0 w : World} {rest : Own} {s : (List Int)} {s_o : List (Nat × Obj)} {s_v : Value} (s_f : OSl LInt 3 h s_v s s_o) (hb : s.length ≤ 281474976710656) (st0 : St h0 w0 h w (s_o :: rest)) : Calls Tryz.prog 71 #[s_v] w (fun e_ w' => ∃ h' s_o' v', e_ = .returned v' ∧ Le h h' ∧ St h0 w0 h' w' (s_o' :: rest) ∧ OSl LInt 3 h' v' (compactL s) s_o') := by
 refine zA (n := 61) (args := [s_v]) Tryz.func71 X X X<|W.sr<|v_asL X X<|Z<|zj<|W.sr<|v_move (v := s_v) X X<|v_len_own s_f X Tryz.underlying42 X<|v_lss X X X<|Z ?_
 refine zk rfl (fun c1 => ?_) (fun c1 => ?_)
 ·
  replace c1 := of_decide_eq_true c1
  refine W.sr<|v_move (v := s_v) X X<|v_assign (v := s_v) X X<|Z<|zm<|za<|zb Tryz.results71 ?_
  refine ⟨h, _, _, rfl, (Le.refl _), st0, OSl.to s_f ?_⟩
  exact (comp_short (by omega)).symm
 ·
  replace c1 := of_decide_eq_false c1
  refine zq<|U<|zj<|W.sr<|v_asI X X<|Z<|zt ?_
  refine zJ [2, 3, 4, 5, 10, 11, 12, 13, 14, 15, 16, 17, 18, 19, 20, 21, 22, 23, 24, 25, 26, 27, 28, 29, 30, 31, 32, 33, 34, 35, 36, 37, 38, 39, 40, 41, 42, 43, 44, 45, 46, 47, 48, 49, 50, 51, 52, 53, 54, 55, 56, 57, 58, 59] (G := Nat × List (Nat × Obj) × Heap) (fun ⟨k, o_0, h2⟩ => [(3, .int .i64 (k : Int))]) (fun ⟨k, o_0, h2⟩ w' => Le h h2 ∧ St h0 w0 h2 w' (o_0 :: rest) ∧ (OSl LInt 3 h2 s_v (s) o_0) ∧ (1 ≤ k ∧ k ≤ s.length) ∧ (compactL (s.take k) = s.take k)) (fun ⟨k, o_0, h2⟩ => s.length - k) ⟨1, s_o, h⟩ ⟨rfl, trivial⟩ ⟨Le.refl _, st0, (OSl.to s_f (by rfl)), (by exact ⟨by omega, by omega⟩), (by exact comp_one (by omega))⟩ ?_
  rintro ⟨k, o_0, h2⟩ _ w5 ⟨le3, st4, hO_0, hk, hc⟩
  refine zj<|W.sr<|v_mvI X X<|v_move (v := s_v) X X<|v_len_own hO_0 X Tryz.underlying42 X<|v_lss X X X<|Z ?_
  refine zk rfl (fun c6 => ?_) (fun c6 => ?_)
  ·
   replace c6 := of_decide_eq_true c6
   refine zq<|U<|zj<|zt<|zj<|zT Tryz.mixed t_kr (Cls h2 _) (Cls.drew st4)<|u_move (v := s_v) X X<|u_mvI X X ?_
   have hy : ∃ y_, (s)[k]? = some y_ := ⟨_, List.getElem?_eq_getElem (by omega)⟩
   obtain ⟨y, hy⟩ := hy
   obtain ⟨b7, o8, cur9, _, e12, he10, hr_y, hc11⟩ := OSl.elem hO_0 hy
   subst e12
   obtain rfl := hr_y
   refine u_index_el he10 X X (hk := X) (hu := Tryz.underlying42) (hz := Tryz.sizeOf3) X<|zg X X (fun _ hC => (r_load_cur1 (j := 0) (hC.block (st4.get (k := 0) X)) hc11 X X X Tryz.isAgg3))<|u_move (v := s_v) X X<|u_mvI X X<|u_sub X X t_om X ?_
   have hz : ∃ y_, (s)[k - 1]? = some y_ := ⟨_, List.getElem?_eq_getElem (by omega)⟩
   obtain ⟨z, hz⟩ := hz
   obtain ⟨b13, o14, cur15, _, e18, he16, hr_z, hc17⟩ := OSl.elem hO_0 hz
   obtain ⟨hb19, hc20⟩ : b7 = b13 ∧ cur9 = cur15 := by cases e18; exact ⟨rfl, rfl⟩
   subst hb19
   subst hc20
   obtain rfl := hr_z
   refine zg rfl rfl (fun _ _ => (zD he16 rfl rfl (hk := (show _ = ((k - 1 : Nat) : Int) by omega)) (hu := Tryz.underlying42) (hz := Tryz.sizeOf3))) ?_
   refine zg X X (fun _ hC => (r_load_cur1 (j := 0) (hC.block (st4.get (k := 0) X)) hc17 X X X Tryz.isAgg3))<|u_eql X X X<|zG ?_
   rintro w21 ⟨h22, s23⟩
   have st24 := st4.call0 s23
   refine U ?_
   refine zk rfl (fun c25 => ?_) (fun c25 => ?_)
   ·
    replace c25 := of_decide_eq_true c25
    refine W.sr<|v_move (v := s_v) X X<|v_mvI X X ?_
    refine zr rfl rfl (r_slice_from_own (hO_0.up s23.le) rfl rfl (hk := (show _ = ((k : Nat) : Int) by omega)) (by omega) Tryz.underlying42 Tryz.sizeOf3) ?_
    refine v_assign (v := (vdrop 1 s_v (k))) X X<|Z<|zj<|W.sr<|v_asI X X<|Z<|zt ?_
    refine zJ [3, 5, 29, 30, 31, 32, 33, 34, 35, 36, 37, 38, 39, 40, 41, 42, 43, 44, 45, 46, 47, 48, 49, 50, 51, 52, 53] (G := Nat × Nat × List Int × List (Nat × Obj) × Heap) (fun ⟨i, k2, ys, o_0, h26⟩ => [(3, .int .i64 (i : Int)), (5, .int .i64 (k2 : Int))]) (fun ⟨i, k2, ys, o_0, h26⟩ w' => Le h22 h26 ∧ St h0 w0 h26 w' (o_0 :: rest) ∧ (OSl LInt 3 h26 s_v (ys) o_0) ∧ (1 ≤ k2 ∧ k + k2 ≤ s.length ∧ ys.length = s.length ∧ i + 1 ≤ k + k2) ∧ (Comp s ys i (k + k2))) (fun ⟨i, k2, ys, o_0, h26⟩ => s.length - (k + k2)) ⟨k, 1, s, [(b7, .cells cur9 3)], h22⟩ ⟨rfl, rfl, trivial⟩ ⟨Le.refl _, st24, (OSl.to (hO_0.up s23.le) (by rfl)), (by exact ⟨by omega, by omega, rfl, by omega⟩), (by exact Comp.start hz hy hk.1 hc (by simpa using c25))⟩ ?_
    rintro ⟨i, k2, ys, o_0, h26⟩ _ w29 ⟨le27, st28, hO_0, hk2, hD⟩
    refine zj<|W.sr<|v_mvI X X<|v_move (v := (vdrop 1 s_v (k))) X X<|zr X X (r_len_vdrop X (OSl.form hO_0) Tryz.underlying42)<|v_lss X X X<|Z ?_
    refine zk rfl (fun c30 => ?_) (fun c30 => ?_)
    ·
     replace c30 := of_decide_eq_true c30
     refine zq<|U<|zj<|zt<|zj<|zT Tryz.mixed t_kr (Cls h26 _) (Cls.drew st28)<|u_move (v := (vdrop 1 s_v (k))) X X<|u_mvI X X ?_
     have hy2 : ∃ y_, (ys)[k + k2]? = some y_ := ⟨_, List.getElem?_eq_getElem (by omega)⟩
     obtain ⟨y2, hy2⟩ := hy2
     obtain ⟨b31, o32, cur33, _, e36, he34, hr_y2, hc35⟩ := OSl.elem hO_0 hy2
     subst e36
     obtain rfl := hr_y2
     refine zg rfl rfl (fun _ _ => (zD (Elem.drop' (k := k) (j := k2) he34 (by omega) (OSl.caps hO_0)) rfl rfl (hk := rfl) (hu := Tryz.underlying42) (hz := Tryz.sizeOf3))) ?_
     refine zg X X (fun _ hC => (r_load_cur1 (j := 0) (hC.block (st28.get (k := 0) X)) hc35 X X X Tryz.isAgg3))<|u_move (v := (vdrop 1 s_v (k))) X X<|u_mvI X X<|u_sub X X t_om X ?_
     have hz2 : ∃ y_, (ys)[k + k2 - 1]? = some y_ := ⟨_, List.getElem?_eq_getElem (by omega)⟩
     obtain ⟨z2, hz2⟩ := hz2
     obtain ⟨b37, o38, cur39, _, e42, he40, hr_z2, hc41⟩ := OSl.elem hO_0 hz2
     obtain ⟨hb43, hc44⟩ : b31 = b37 ∧ cur33 = cur39 := by cases e42; exact ⟨rfl, rfl⟩
     subst hb43
     subst hc44
     obtain rfl := hr_z2
     refine zg rfl rfl (fun _ _ => (zD (Elem.drop' (k := k) (j := k2 - 1) he40 (by omega) (OSl.caps hO_0)) rfl rfl (hk := (show _ = ((k2 - 1 : Nat) : Int) by omega)) (hu := Tryz.underlying42) (hz := Tryz.sizeOf3))) ?_
     refine zg X X (fun _ hC => (r_load_cur1 (j := 0) (hC.block (st28.get (k := 0) X)) hc41 X X X Tryz.isAgg3))<|u_neq X X X<|zG ?_
     rintro w45 ⟨h46, s47⟩
     have st48 := st28.call0 s47
     refine U ?_
     refine zk rfl (fun c49 => ?_) (fun c49 => ?_)
     ·
      replace c49 := of_decide_eq_true c49
      refine W.sr<|v_move (v := s_v) X X<|v_mvI X X<|v_move (v := (vdrop 1 s_v (k))) X X<|v_mvI X X ?_
      obtain ⟨b50, o51, cur52, _, e55, he53, hr_y2, hc54⟩ := OSl.elem (hO_0.up s47.le) hy2
      obtain ⟨hb56, hc57⟩ : b31 = b50 ∧ cur33 = cur52 := by cases e55; exact ⟨rfl, rfl⟩
      subst hb56
      subst hc57
      obtain rfl := hr_y2
      refine zr rfl rfl (zD (Elem.drop' (k := k) (j := k2) he53 (by omega) (OSl.caps (hO_0.up s47.le))) rfl rfl (hk := rfl) (hu := Tryz.underlying42) (hz := Tryz.sizeOf3)) ?_
      refine zr X X (r_load_cur1 (j := 0) (st48.get (k := 0) X) hc54 X X X Tryz.isAgg3) ?_
      have hu2 : ∃ y_, (ys)[i]? = some y_ := ⟨_, List.getElem?_eq_getElem (by omega)⟩
      obtain ⟨u2, hu2⟩ := hu2
      obtain ⟨b58, o59, cur60, _, e63, he61, hr_u2, hc62⟩ := OSl.elem (hO_0.up s47.le) hu2
      obtain ⟨hb64, hc65⟩ : b31 = b58 ∧ cur33 = cur60 := by cases e63; exact ⟨rfl, rfl⟩
      subst hb64
      subst hc65
      obtain rfl := hr_u2
      refine zr rfl rfl (zD he61 rfl rfl (hk := (show _ = ((i : Nat) : Int) by omega)) (hu := Tryz.underlying42) (hz := Tryz.sizeOf3)) ?_
      refine OpsL.storeEl1 (k := 0) st48 (hO_0.up s47.le) rfl (by omega) he61 rfl rfl (rfl) Tryz.sizeOf3 ?_
      intro o66 w67 _ e68 f69 st70
      subst e68
      refine Z<|zo<|v_mvI X X<|v_add X X t_om X<|v_asI X X<|zx<|zy<|U<|zo<|v_mvI X X<|v_add X X t_om X<|v_asI X X<|Z ?_
      refine ⟨⟨i + 1, k2 + 1, (ys.set i y2), o66, h46⟩, ⟨rfl, rfl, trivial⟩, ?_, ⟨(le27.trans s47.le), st70, ?_, ?_, ?_⟩, ?_⟩
      ·exact zL
      ·refine OSl.to f69 ?_
       rfl
      ·refine ⟨by omega, by omega, by first | (rw [List.length_set]; omega) | omega, by omega⟩
      ·exact hD.keep hy2 hz2 (by simpa using c49)
      ·show s.length - (k + ((k2 + 1))) < s.length - (k + k2)
       omega
     ·
      replace c49 := of_decide_eq_false c49
      refine zq<|zy<|U<|zo<|v_mvI X X<|v_add X X t_om X<|v_asI X X<|Z ?_
      refine ⟨⟨i, k2 + 1, ys, [(b31, .cells cur33 3)], h46⟩, ⟨rfl, rfl, trivial⟩, ?_, ⟨(le27.trans s47.le), st48, ?_, ?_, ?_⟩, ?_⟩
      ·exact zL
      ·refine OSl.to (hO_0.up s47.le) ?_
       rfl
      ·refine ⟨by omega, by omega, by first | (rw [List.length_set]; omega) | omega, by omega⟩
      ·exact hD.skip hy2 hz2 (by simpa using c49)
      ·show s.length - (k + ((k2 + 1))) < s.length - (k + k2)
       omega
    ·
     replace c30 := of_decide_eq_false c30
     refine zM<|zh<|zh<|zF<|U<|W.sr<|v_move (v := s_v) X X<|v_mvI X X ?_
     refine zr rfl rfl (r_slice_from_own hO_0 rfl rfl (hk := (show _ = ((i : Nat) : Int) by omega)) (by omega) Tryz.underlying42 Tryz.sizeOf3) ?_
     refine OpsL.clearTail (k := 0) (j := i) st28 hO_0 rfl (by omega) rfl Tryz.underlying42 Tryz.zeroValue3 rfl (by decide) ?_
     intro o71 w72 _ e73 f74 st75
     subst e73
     refine Z<|W.sr<|v_move (v := s_v) X X<|v_mvI X X ?_
     refine zr rfl rfl (r_slice_to_own hO_0 rfl rfl (hk := (show _ = ((i : Nat) : Int) by omega)) (by omega) Tryz.underlying42 Tryz.sizeOf3) ?_
     refine v_assign (v := (vtake s_v (i))) X X<|Z<|zm<|zl<|za<|za<|zl<|za<|zb Tryz.results71 ?_
     refine ⟨h26, _, _, rfl, ((le3.trans s23.le).trans le27), st75, OSl.to f74 ?_⟩
     exact hD.fin (by omega)
   ·
    replace c25 := of_decide_eq_false c25
    refine zq<|zy<|U<|zo<|v_mvI X X<|v_add X X t_om X<|v_asI X X<|Z ?_
    refine ⟨⟨k + 1, [(b7, .cells cur9 3)], h22⟩, ⟨rfl, trivial⟩, ?_, ⟨(le3.trans s23.le), st24, ?_, ?_, ?_⟩, ?_⟩
    ·exact zL
    ·refine OSl.to (hO_0.up s23.le) ?_
     rfl
    ·exact ⟨by omega, by omega⟩
    ·exact comp_more hz hy hk.1 hc (by simpa using c25)
    ·show s.length - ((k + 1)) < s.length - k
     omega
  ·
   replace c6 := of_decide_eq_false c6
   refine zM<|zh<|zh<|zF<|U<|W.sr<|v_move (v := s_v) X X<|v_assign (v := s_v) X X<|Z<|zm<|zb Tryz.results71 ?_
   refine ⟨h2, _, _, rfl, le3, st4, OSl.to hO_0 ?_⟩
   rw [List.take_of_length_le (by omega)] at hc; exact hc.symm
end Go.Pk
