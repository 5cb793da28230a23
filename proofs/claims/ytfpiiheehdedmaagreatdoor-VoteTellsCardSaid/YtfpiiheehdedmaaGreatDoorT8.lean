/- A PART OF THE PROOF: contracts of functions, each walked once (much of it printed by a program of the author's own). -/
import Derived.Test.YtfpiiheehdedmaaGreatDoorT4
import Derived.Test.YtfpiiheehdedmaaGreatDoorT2
import Derived.Test.YtfpiiheehdedmaaGreatDoorT1
import Derived.Test.YtfpiiheehdedmaaGreatDoorT7
import Derived.Test.YtfpiiheehdedmaaGreatDoorT6
set_option linter.unusedSimpArgs false
set_option linter.unusedVariables false
namespace Go.Pk
open Go Go.RowKit Go.Proofs
set_option maxRecDepth 4000 in
theorem c_postilref01_Great {h : Heap} {w : World} (hs : Sub h w) {t : Text} {t_v0 : Value} (t_f0 : Sl LChapter h t_v0 t.chapters) : Calls Tryz.prog 50 #[.agg #[t_v0]] w (Rets h w (fun _ _ res_ => res_ = .bool ((!smallT t)))) := by
 refine zz (n := 75) (args := [.agg #[t_v0]]) Tryz.func50 X X X ?_
 have st0 : St h w h w [] := St.start hs
 have t_f0_b := t_f0.le
 refine W.sr<|zy st0 (cs := [t_v0]) X X X ?_
 intro b1 w2 h3 le4 hc5 st6
 refine v_asB X X<|Y<|zf<|W.sr<|v_field_addr X Tryz.underlying24 X Tryz.sizeOf22 X X<|v_load_cells1 (j := 0) st6.sub hc5 X X X Tryz.isAgg22 X<|v_len (t_f0.up le4) X Tryz.underlying22 X<|v_gtr X X X<|Y ?_
 refine zh rfl (fun c7 => ?_) (fun c7 => ?_)
 ·
  replace c7 := of_decide_eq_true c7
  refine W.sr<|v_asB X X<|Y<|zo<|E<|za Tryz.results50 ?_
  refine ⟨h3, _, rfl, st6.done, ?_⟩
  refine zj ?_
  simp [smallT]; intros; omega
 ·
  replace c7 := of_decide_eq_false c7
  refine zr<|U<|zf<|W.sr<|v_asI X X<|Y<|zs ?_
  refine zG [2, 3, 4, 5, 10, 11, 12, 13, 14, 15, 16, 17, 18, 19, 20, 21, 22, 23, 24, 25, 26, 27, 28, 29, 30, 31, 32, 33, 34, 35, 36, 37, 38, 39, 40, 41, 42, 43, 44, 45, 46, 47, 48, 49, 50, 51, 52, 53, 54, 55, 56, 57, 58, 59, 60, 61, 62, 63, 64, 65, 66, 67, 68, 69, 70, 71, 72, 73, 74] (G := Nat × Heap) (fun ⟨i, h8⟩ => [(3, .int .i64 (i : Int))]) (fun ⟨i, h8⟩ w' => Le h3 h8 ∧ St h w h8 w' [] ∧ (i ≤ t.chapters.length) ∧ ((t.chapters.take i).all smallC = true)) (fun ⟨i, h8⟩ => t.chapters.length - i) ⟨0, h3⟩ ⟨rfl, trivial⟩ ⟨Le.refl _, st6, zK, zK⟩ ?_
  rintro ⟨i, h8⟩ _ w11 ⟨le9, st10, hi, hA⟩
  refine zf<|W.sr<|v_mvI X X<|v_field_addr X Tryz.underlying24 X Tryz.sizeOf22 X X<|v_load_cells1 (j := 0) st10.sub (hc5.up le9) X X X Tryz.isAgg22 X<|v_len (t_f0.up (le4.trans le9)) X Tryz.underlying22 X<|v_lss X X X<|Y ?_
  refine zh rfl (fun c12 => ?_) (fun c12 => ?_)
  ·
   replace c12 := of_decide_eq_true c12
   refine zr<|U<|zf<|zs<|zf<|W.sr<|v_field_addr X Tryz.underlying24 X Tryz.sizeOf22 X X<|v_load_cells1 (j := 0) st10.sub (hc5.up le9) X X X Tryz.isAgg22 X<|v_mvI X X ?_
   have hc : ∃ y_, (t.chapters)[i]? = some y_ := ⟨_, List.getElem?_eq_getElem (by omega)⟩
   obtain ⟨c, hc⟩ := hc
   obtain ⟨b13, o14, _, he16, hc15, hr_c⟩ := Sl.elem (t_f0.up (le4.trans le9)) hc
   obtain ⟨v17, rfl, f18⟩ := hr_c
   have f18_b := f18.le
   refine v_index_el he16 X X (hk := X) (hu := Tryz.underlying22) (hz := Tryz.sizeOf152) X<|v_field_addr X Tryz.underlying152 X Tryz.sizeOf150 X X<|v_load_cells1 (j := 1) st10.sub hc15 X X X Tryz.isAgg150 X<|v_len f18 X Tryz.underlying150 X<|v_gtr X X X<|Y ?_
   refine zh rfl (fun c19 => ?_) (fun c19 => ?_)
   ·
    replace c19 := of_decide_eq_true c19
    refine W.sr<|v_asB X X<|Y<|zo<|E<|zn<|E<|E<|zn<|E<|za Tryz.results50 ?_
    refine ⟨h8, _, rfl, st10.done, ?_⟩
    refine zj ?_
    have q0 : smallC c = false := by simp [smallC]; intros; omega
    have q := not_all (p := smallC) hc q0
    simp [smallT, q]
   ·
    replace c19 := of_decide_eq_false c19
    refine zr<|U<|W.sr<|v_asI X X<|Y<|zs ?_
    refine zG [2, 4, 5, 25, 26, 27, 28, 29, 30, 31, 32, 33, 34, 35, 36, 37, 38, 39, 40, 41, 42, 43, 44, 45, 46, 47, 48, 49, 50, 51, 52, 53, 54, 55, 56, 57, 58, 59, 60, 61, 62, 63, 64, 65, 66, 67, 68, 69, 70, 71, 72, 73, 74] (G := Nat × Heap) (fun ⟨k, h20⟩ => [(4, .int .i64 (k : Int))]) (fun ⟨k, h20⟩ w' => Le h8 h20 ∧ St h w h20 w' [] ∧ (k ≤ c.lines.length) ∧ ((c.lines.take k).all smallL = true)) (fun ⟨k, h20⟩ => c.lines.length - k) ⟨0, h8⟩ ⟨rfl, trivial⟩ ⟨Le.refl _, st10, zK, zK⟩ ?_
    rintro ⟨k, h20⟩ _ w23 ⟨le21, st22, hk, hB⟩
    refine zf<|W.sr<|v_mvI X X<|v_field_addr X Tryz.underlying24 X Tryz.sizeOf22 X X<|v_load_cells1 (j := 0) st22.sub (hc5.up (le9.trans le21)) X X X Tryz.isAgg22 X<|v_mvI X X<|v_index_el he16 X X (hk := X) (hu := Tryz.underlying22) (hz := Tryz.sizeOf152) X<|v_field_addr X Tryz.underlying152 X Tryz.sizeOf150 X X<|v_load_cells1 (j := 1) st22.sub (hc15.up le21) X X X Tryz.isAgg150 X<|v_len (f18.up le21) X Tryz.underlying150 X<|v_lss X X X<|Y ?_
    refine zh rfl (fun c24 => ?_) (fun c24 => ?_)
    ·
     replace c24 := of_decide_eq_true c24
     refine zr<|U<|zf<|zs<|zf<|W.sr<|v_field_addr X Tryz.underlying24 X Tryz.sizeOf22 X X<|v_load_cells1 (j := 0) st22.sub (hc5.up (le9.trans le21)) X X X Tryz.isAgg22 X<|v_mvI X X<|v_index_el he16 X X (hk := X) (hu := Tryz.underlying22) (hz := Tryz.sizeOf152) X<|v_field_addr X Tryz.underlying152 X Tryz.sizeOf150 X X<|v_load_cells1 (j := 1) st22.sub (hc15.up le21) X X X Tryz.isAgg150 X<|v_mvI X X ?_
     have hln : ∃ y_, (c.lines)[k]? = some y_ := ⟨_, List.getElem?_eq_getElem (by omega)⟩
     obtain ⟨ln, hln⟩ := hln
     obtain ⟨b25, o26, _, he28, hc27, hr_ln⟩ := Sl.elem (f18.up le21) hln
     obtain ⟨v29, rfl, f30⟩ := hr_ln
     have f30_b := f30.le
     refine v_index_el he28 X X (hk := X) (hu := Tryz.underlying150) (hz := Tryz.sizeOf60) X<|v_load_cells1 (j := 0) st22.sub hc27 X X X Tryz.isAgg60 X<|v_len f30 X Tryz.underlying60 X<|v_gtr X X X<|Y ?_
     refine zh rfl (fun c31 => ?_) (fun c31 => ?_)
     ·
      replace c31 := of_decide_eq_true c31
      refine W.sr<|v_asB X X<|Y<|zo<|E<|zn<|E<|E<|zn<|zn<|E<|E<|zn<|E<|za Tryz.results50 ?_
      refine ⟨h20, _, rfl, st22.done, ?_⟩
      refine zj ?_
      have q1 : smallL ln = false := by simp [smallL]; intros; omega
      have q2 := not_all (p := smallL) hln q1
      have q0 : smallC c = false := by simp [smallC, q2]
      have q := not_all (p := smallC) hc q0
      simp [smallT, q]
     ·
      replace c31 := of_decide_eq_false c31
      refine zr<|U<|W.sr<|v_asI X X<|Y<|zs ?_
      refine zG [2, 5, 47, 48, 49, 50, 51, 52, 53, 54, 55, 56, 57, 58, 59, 60, 61, 62, 63, 64, 65, 66, 67, 68, 69, 70, 71, 72, 73, 74] (G := Nat × Heap) (fun ⟨m, h32⟩ => [(5, .int .i64 (m : Int))]) (fun ⟨m, h32⟩ w' => Le h20 h32 ∧ St h w h32 w' [] ∧ (m ≤ ln.length) ∧ ((ln.take m).all smallW = true)) (fun ⟨m, h32⟩ => ln.length - m) ⟨0, h20⟩ ⟨rfl, trivial⟩ ⟨Le.refl _, st22, zK, zK⟩ ?_
      rintro ⟨m, h32⟩ _ w35 ⟨le33, st34, hm, hC⟩
      refine zf<|W.sr<|v_mvI X X<|v_field_addr X Tryz.underlying24 X Tryz.sizeOf22 X X<|v_load_cells1 (j := 0) st34.sub (hc5.up ((le9.trans le21).trans le33)) X X X Tryz.isAgg22 X<|v_mvI X X<|v_index_el he16 X X (hk := X) (hu := Tryz.underlying22) (hz := Tryz.sizeOf152) X<|v_field_addr X Tryz.underlying152 X Tryz.sizeOf150 X X<|v_load_cells1 (j := 1) st34.sub (hc15.up (le21.trans le33)) X X X Tryz.isAgg150 X<|v_mvI X X<|v_index_el he28 X X (hk := X) (hu := Tryz.underlying150) (hz := Tryz.sizeOf60) X<|v_load_cells1 (j := 0) st34.sub (hc27.up le33) X X X Tryz.isAgg60 X<|v_len (f30.up le33) X Tryz.underlying60 X<|v_lss X X X<|Y ?_
      refine zh rfl (fun c36 => ?_) (fun c36 => ?_)
      ·
       replace c36 := of_decide_eq_true c36
       refine zr<|U<|zf<|zs<|W.sr<|v_field_addr X Tryz.underlying24 X Tryz.sizeOf22 X X<|v_load_cells1 (j := 0) st34.sub (hc5.up ((le9.trans le21).trans le33)) X X X Tryz.isAgg22 X<|v_mvI X X<|v_index_el he16 X X (hk := X) (hu := Tryz.underlying22) (hz := Tryz.sizeOf152) X<|v_field_addr X Tryz.underlying152 X Tryz.sizeOf150 X X<|v_load_cells1 (j := 1) st34.sub (hc15.up (le21.trans le33)) X X X Tryz.isAgg150 X<|v_mvI X X<|v_index_el he28 X X (hk := X) (hu := Tryz.underlying150) (hz := Tryz.sizeOf60) X<|v_load_cells1 (j := 0) st34.sub (hc27.up le33) X X X Tryz.isAgg60 X<|v_mvI X X ?_
       have hwd : ∃ y_, (ln)[m]? = some y_ := ⟨_, List.getElem?_eq_getElem (by omega)⟩
       obtain ⟨wd, hwd⟩ := hwd
       obtain ⟨b37, o38, _, he40, hc39, hr_wd⟩ := Sl.elem (f30.up le33) hwd
       obtain ⟨rfl, ls41⟩ := hr_wd
       simp only [big] at ls41
       refine v_index_el he40 X X (hk := X) (hu := Tryz.underlying60) (hz := Tryz.sizeOf9) X<|v_load_cells1 (j := 0) st34.sub hc39 X X X Tryz.isAgg9 X<|v_len_str X Tryz.underlying9 X<|v_gtr X X X<|Y ?_
       refine zh rfl (fun c42 => ?_) (fun c42 => ?_)
       ·
        replace c42 := of_decide_eq_true c42
        refine W.sr<|v_asB X X<|Y<|zo<|zn<|E<|E<|zn<|zn<|E<|E<|zn<|zn<|E<|E<|zn<|E<|za Tryz.results50 ?_
        refine ⟨h32, _, rfl, st34.done, ?_⟩
        refine zj ?_
        have q3 := not_all (p := smallW) hwd (by simp [smallW]; omega)
        have q1 : smallL ln = false := by simp [smallL, q3]
        have q2 := not_all (p := smallL) hln q1
        have q0 : smallC c = false := by simp [smallC, q2]
        have q := not_all (p := smallC) hc q0
        simp [smallT, q]
       ·
        replace c42 := of_decide_eq_false c42
        refine zr<|zw<|U<|zg<|v_mvI X X<|v_add X X t_om X<|v_asI X X<|Y ?_
        refine ⟨⟨m + 1, h32⟩, ⟨rfl, trivial⟩, ?_, ⟨le33, st34, ?_, ?_⟩, ?_⟩
        ·exact zH
        ·first | omega | (simp; omega)
        ·exact all_take_succ hC hwd (by have q := c42; simp [smallW]; omega)
        ·show ln.length - ((m + 1)) < ln.length - m
         omega
      ·
       replace c36 := of_decide_eq_false c36
       refine zL<|ze<|ze<|zF<|zw<|U<|zg<|v_mvI X X<|v_add X X t_om X<|v_asI X X<|Y ?_
       have HL : smallL ln = true := by
        have q := all_of_take hC (by omega)
        have q1 := c36
        simp [smallL, q]; omega
       refine ⟨⟨k + 1, h32⟩, ⟨rfl, trivial⟩, ?_, ⟨(le21.trans le33), st34, ?_, ?_⟩, ?_⟩
       ·exact zH
       ·first | omega | (simp; omega)
       ·exact all_take_succ hB hln HL
       ·show c.lines.length - ((k + 1)) < c.lines.length - k
        omega
    ·
     replace c24 := of_decide_eq_false c24
     refine zL<|ze<|ze<|zF<|zw<|U<|zg<|v_mvI X X<|v_add X X t_om X<|v_asI X X<|Y ?_
     have HC : smallC c = true := by
      have q := all_of_take hB (by omega)
      have q1 := c24
      simp [smallC, q]; omega
     refine ⟨⟨i + 1, h20⟩, ⟨rfl, trivial⟩, ?_, ⟨(le9.trans le21), st22, ?_, ?_⟩, ?_⟩
     ·exact zH
     ·first | omega | (simp; omega)
     ·exact all_take_succ hA hc HC
     ·show t.chapters.length - ((i + 1)) < t.chapters.length - i
      omega
  ·
   replace c12 := of_decide_eq_false c12
   refine zL<|ze<|ze<|zF<|U<|W.sr<|v_asB X X<|Y<|zo<|za Tryz.results50 ?_
   refine ⟨h8, _, rfl, st10.done, ?_⟩
   refine zj ?_
   have q := all_of_take hA (by omega)
   simp [smallT, q]; omega
set_option maxRecDepth 4000 in
theorem c_postilref04_Great {h : Heap} {w : World} (hs : Sub h w) {x : Lexicon} {x_v0 : Value} (x_f0 : Sl LRule h x_v0 x.rules) {x_v1 : Value} (x_f1 : Sl LDecision h x_v1 x.decisions) : Calls Tryz.prog 51 #[.agg #[x_v0, x_v1]] w (Rets h w (fun _ _ res_ => res_ = .bool ((!smallX x)))) := by
 refine zz (n := 64) (args := [.agg #[x_v0, x_v1]]) Tryz.func51 X X X ?_
 have st0 : St h w h w [] := St.start hs
 have x_f0_b := x_f0.le
 have x_f1_b := x_f1.le
 refine W.sr<|zy st0 (cs := [x_v0, x_v1]) X X X ?_
 intro b1 w2 h3 le4 hc5 st6
 refine v_asB X X<|Y<|zf<|W.sr<|v_field_addr X Tryz.underlying28 X Tryz.sizeOf25 X X<|v_load_cells1 (j := 0) st6.sub hc5 X X X Tryz.isAgg25 X<|v_len (x_f0.up le4) X Tryz.underlying25 X<|v_gtr X X X<|v_mvB X X ?_
 refine zx (d := 10) rfl (fun g7 => ?_) (fun g7 => ?_)
 ·
  replace g7 := of_decide_eq_true g7
  refine Z X X X X X<|Z X X X X X<|Z X X X X X<|Z X X X X X<|v_pickT (v := (.bool _)) X X X<|Y ?_
  refine zh rfl (fun c8 => ?_) (fun c8 => ?_)
  ·
   refine W.sr<|v_asB X X<|Y<|zo<|E<|za Tryz.results51 ?_
   refine ⟨h3, _, rfl, st6.done, ?_⟩
   refine zj ?_
   first | (simp [smallX]; intros; omega) | (simp [smallX, not_all (p := smallR) hr (by simp [smallR]; intros; omega)]; done) | (simp [smallX, not_all (p := smallD) hd (by simp [smallD]; intros; omega)]; done) | (simp [smallX, all_of_take hA (by omega), all_of_take hB (by omega)]; omega)
  ·
   cases c8
 ·
  replace g7 := of_decide_eq_false g7
  refine M X X (d := 10) X<|v_field_addr X Tryz.underlying28 X Tryz.sizeOf26 X X<|M X X (d := 10) X<|v_load_cells1 (j := 1) st6.sub hc5 X X X Tryz.isAgg26 X<|M X X (d := 10) X<|v_len (x_f1.up le4) X Tryz.underlying26 X<|M X X (d := 10) X<|v_gtr X X X<|v_pickF (v := (.bool _)) X X X<|Y ?_
  refine zh rfl (fun c9 => ?_) (fun c9 => ?_)
  ·
   replace c9 := of_decide_eq_true c9
   refine W.sr<|v_asB X X<|Y<|zo<|E<|za Tryz.results51 ?_
   refine ⟨h3, _, rfl, st6.done, ?_⟩
   refine zj ?_
   first | (simp [smallX]; intros; omega) | (simp [smallX, not_all (p := smallR) hr (by simp [smallR]; intros; omega)]; done) | (simp [smallX, not_all (p := smallD) hd (by simp [smallD]; intros; omega)]; done) | (simp [smallX, all_of_take hA (by omega), all_of_take hB (by omega)]; omega)
  ·
   replace c9 := of_decide_eq_false c9
   refine zr<|U<|zf<|W.sr<|v_asI X X<|Y<|zs ?_
   refine zG [2, 3, 16, 17, 18, 19, 20, 21, 22, 23, 24, 25, 26, 27, 28, 29, 30, 31, 32, 33, 34, 35, 36, 37, 38, 39, 40] (G := Nat × Heap) (fun ⟨i, h10⟩ => [(3, .int .i64 (i : Int))]) (fun ⟨i, h10⟩ w' => Le h3 h10 ∧ St h w h10 w' [] ∧ (i ≤ x.rules.length) ∧ ((x.rules.take i).all smallR = true)) (fun ⟨i, h10⟩ => x.rules.length - i) ⟨0, h3⟩ ⟨rfl, trivial⟩ ⟨Le.refl _, st6, zK, zK⟩ ?_
   rintro ⟨i, h10⟩ _ w13 ⟨le11, st12, hi, hA⟩
   refine zf<|W.sr<|v_mvI X X<|v_field_addr X Tryz.underlying28 X Tryz.sizeOf25 X X<|v_load_cells1 (j := 0) st12.sub (hc5.up le11) X X X Tryz.isAgg25 X<|v_len (x_f0.up (le4.trans le11)) X Tryz.underlying25 X<|v_lss X X X<|Y ?_
   refine zh rfl (fun c14 => ?_) (fun c14 => ?_)
   ·
    replace c14 := of_decide_eq_true c14
    refine zr<|U<|zf<|zs<|W.sr<|v_field_addr X Tryz.underlying28 X Tryz.sizeOf25 X X<|v_load_cells1 (j := 0) st12.sub (hc5.up le11) X X X Tryz.isAgg25 X<|v_mvI X X ?_
    have hr : ∃ y_, (x.rules)[i]? = some y_ := ⟨_, List.getElem?_eq_getElem (by omega)⟩
    obtain ⟨r, hr⟩ := hr
    obtain ⟨b15, o16, _, he18, hc17, hr_r⟩ := Sl.elem (x_f0.up (le4.trans le11)) hr
    obtain ⟨rfl, ls19, ls20⟩ := hr_r
    simp only [big] at ls19
    simp only [big] at ls20
    refine v_index_el he18 X X (hk := X) (hu := Tryz.underlying25) (hz := Tryz.sizeOf68) X<|v_field_addr X Tryz.underlying68 X Tryz.sizeOf9 X X<|v_load_cells1 (j := 0) st12.sub hc17 X X X Tryz.isAgg9 X<|v_len_str X Tryz.underlying9 X<|v_gtr X X X<|v_mvB X X ?_
    refine zx (d := 31) rfl (fun g21 => ?_) (fun g21 => ?_)
    ·
     replace g21 := of_decide_eq_true g21
     refine Z X X X X X<|Z X X X X X<|Z X X X X X<|Z X X X X X<|Z X X X X X<|Z X X X X X<|Z X X X X X<|Z X X X X X<|v_pickT (v := (.bool _)) X X X<|Y ?_
     refine zh rfl (fun c22 => ?_) (fun c22 => ?_)
     ·
      refine W.sr<|v_asB X X<|Y<|zo<|zn<|E<|E<|zn<|E<|za Tryz.results51 ?_
      refine ⟨h10, _, rfl, st12.done, ?_⟩
      refine zj ?_
      first | (simp [smallX]; intros; omega) | (simp [smallX, not_all (p := smallR) hr (by simp [smallR]; intros; omega)]; done) | (simp [smallX, not_all (p := smallD) hd (by simp [smallD]; intros; omega)]; done) | (simp [smallX, all_of_take hA (by omega), all_of_take hB (by omega)]; omega)
     ·
      cases c22
    ·
     replace g21 := of_decide_eq_false g21
     refine M X X (d := 31) X<|v_field_addr X Tryz.underlying28 X Tryz.sizeOf25 X X<|M X X (d := 31) X<|v_load_cells1 (j := 0) st12.sub (hc5.up le11) X X X Tryz.isAgg25 X<|M X X (d := 31) X<|v_mvI X X<|M X X (d := 31) X<|v_index_el he18 X X (hk := X) (hu := Tryz.underlying25) (hz := Tryz.sizeOf68) X<|M X X (d := 31) X<|v_field_addr X Tryz.underlying68 X Tryz.sizeOf9 X X<|M X X (d := 31) X<|v_load_cells1 (j := 1) st12.sub hc17 X X X Tryz.isAgg9 X<|M X X (d := 31) X<|v_len_str X Tryz.underlying9 X<|M X X (d := 31) X<|v_gtr X X X<|v_pickF (v := (.bool _)) X X X<|Y ?_
     refine zh rfl (fun c23 => ?_) (fun c23 => ?_)
     ·
      replace c23 := of_decide_eq_true c23
      refine W.sr<|v_asB X X<|Y<|zo<|zn<|E<|E<|zn<|E<|za Tryz.results51 ?_
      refine ⟨h10, _, rfl, st12.done, ?_⟩
      refine zj ?_
      first | (simp [smallX]; intros; omega) | (simp [smallX, not_all (p := smallR) hr (by simp [smallR]; intros; omega)]; done) | (simp [smallX, not_all (p := smallD) hd (by simp [smallD]; intros; omega)]; done) | (simp [smallX, all_of_take hA (by omega), all_of_take hB (by omega)]; omega)
     ·
      replace c23 := of_decide_eq_false c23
      refine zr<|zw<|U<|zg<|v_mvI X X<|v_add X X t_om X<|v_asI X X<|Y ?_
      refine ⟨⟨i + 1, h10⟩, ⟨rfl, trivial⟩, ?_, ⟨le11, st12, ?_, ?_⟩, ?_⟩
      ·exact zH
      ·first | omega | (simp; omega)
      ·exact all_take_succ hA hr (by have q := g21; have q2 := c23; simp [smallR]; omega)
      ·show x.rules.length - ((i + 1)) < x.rules.length - i
       omega
   ·
    replace c14 := of_decide_eq_false c14
    refine zL<|ze<|ze<|zF<|U<|zf<|W.sr<|v_asI X X<|Y<|zs ?_
    refine zG [2, 4, 5, 41, 42, 43, 44, 45, 46, 47, 48, 49, 50, 51, 52, 53, 54, 55, 56, 57, 58, 59, 60, 61, 62, 63] (G := Nat × Heap) (fun ⟨k, h24⟩ => [(4, .int .i64 (k : Int))]) (fun ⟨k, h24⟩ w' => Le h10 h24 ∧ St h w h24 w' [] ∧ (k ≤ x.decisions.length) ∧ ((x.decisions.take k).all smallD = true)) (fun ⟨k, h24⟩ => x.decisions.length - k) ⟨0, h10⟩ ⟨rfl, trivial⟩ ⟨Le.refl _, st12, zK, zK⟩ ?_
    rintro ⟨k, h24⟩ _ w27 ⟨le25, st26, hk, hB⟩
    refine zf<|W.sr<|v_mvI X X<|v_field_addr X Tryz.underlying28 X Tryz.sizeOf26 X X<|v_load_cells1 (j := 1) st26.sub (hc5.up (le11.trans le25)) X X X Tryz.isAgg26 X<|v_len (x_f1.up ((le4.trans le11).trans le25)) X Tryz.underlying26 X<|v_lss X X X<|Y ?_
    refine zh rfl (fun c28 => ?_) (fun c28 => ?_)
    ·
     replace c28 := of_decide_eq_true c28
     refine zr<|U<|zf<|zs<|W.sr<|v_field_addr X Tryz.underlying28 X Tryz.sizeOf26 X X<|v_load_cells1 (j := 1) st26.sub (hc5.up (le11.trans le25)) X X X Tryz.isAgg26 X<|v_mvI X X ?_
     have hd : ∃ y_, (x.decisions)[k]? = some y_ := ⟨_, List.getElem?_eq_getElem (by omega)⟩
     obtain ⟨d, hd⟩ := hd
     obtain ⟨b29, o30, _, he32, hc31, hr_d⟩ := Sl.elem (x_f1.up ((le4.trans le11).trans le25)) hd
     obtain ⟨rfl, lu33, ls34, ls35, lu36⟩ := hr_d
     simp only [big] at ls34
     simp only [big] at ls35
     refine v_index_el he32 X X (hk := X) (hu := Tryz.underlying26) (hz := Tryz.sizeOf74) X<|v_load_call st26.sub hc31 X Tryz.isAgg74 Tryz.sizeOf74 X X<|zD st26 Tryz.zeroValue74 X X ?_
     intro b37 w38 st39
     refine zC st39 (k := 0) X X X (zp X (zp X (zp X (zp X (zp X (zp X (zp X (zp X (zp X zQ))))))))) Tryz.sizeOf74 X X X ?_
     intro w40 st41
     obtain ⟨h42, le43, hb44, st46⟩ := st41.freeze (k := 0) rfl
     have hc45 := Cells.of hb44
     refine Y<|W.sr<|v_field_addr X Tryz.underlying74 X Tryz.sizeOf9 X X<|v_load_cells1 (j := 2) st46.sub hc45 X X X Tryz.isAgg9 X<|v_len_str X Tryz.underlying9 X<|v_gtr X X X<|v_mvB X X ?_
     refine zx (d := 57) rfl (fun g47 => ?_) (fun g47 => ?_)
     ·
      replace g47 := of_decide_eq_true g47
      refine Z X X X X X<|Z X X X X X<|Z X X X X X<|Z X X X X X<|Z X X X X X<|v_pickT (v := (.bool _)) X X X<|Y ?_
      refine zh rfl (fun c48 => ?_) (fun c48 => ?_)
      ·
       refine W.sr<|v_asB X X<|Y<|zo<|zn<|E<|E<|zn<|E<|za Tryz.results51 ?_
       refine ⟨h42, _, rfl, st46.done, ?_⟩
       refine zj ?_
       first | (simp [smallX]; intros; omega) | (simp [smallX, not_all (p := smallR) hr (by simp [smallR]; intros; omega)]; done) | (simp [smallX, not_all (p := smallD) hd (by simp [smallD]; intros; omega)]; done) | (simp [smallX, all_of_take hA (by omega), all_of_take hB (by omega)]; omega)
      ·
       cases c48
     ·
      replace g47 := of_decide_eq_false g47
      refine M X X (d := 57) X<|v_field_addr X Tryz.underlying74 X Tryz.sizeOf72 X X<|M X X (d := 57) X<|v_field_addr X Tryz.underlying72 X Tryz.sizeOf9 X X<|M X X (d := 57) X<|v_load_cells1 (j := 6) st46.sub hc45 X X X Tryz.isAgg9 X<|M X X (d := 57) X<|v_len_str X Tryz.underlying9 X<|M X X (d := 57) X<|v_gtr X X X<|v_pickF (v := (.bool _)) X X X<|Y ?_
      refine zh rfl (fun c49 => ?_) (fun c49 => ?_)
      ·
       replace c49 := of_decide_eq_true c49
       refine W.sr<|v_asB X X<|Y<|zo<|zn<|E<|E<|zn<|E<|za Tryz.results51 ?_
       refine ⟨h42, _, rfl, st46.done, ?_⟩
       refine zj ?_
       first | (simp [smallX]; intros; omega) | (simp [smallX, not_all (p := smallR) hr (by simp [smallR]; intros; omega)]; done) | (simp [smallX, not_all (p := smallD) hd (by simp [smallD]; intros; omega)]; done) | (simp [smallX, all_of_take hA (by omega), all_of_take hB (by omega)]; omega)
      ·
       replace c49 := of_decide_eq_false c49
       refine zr<|zw<|U<|zg<|v_mvI X X<|v_add X X t_om X<|v_asI X X<|Y ?_
       refine ⟨⟨k + 1, h42⟩, ⟨rfl, trivial⟩, ?_, ⟨(le25.trans le43), st46.take 0, ?_, ?_⟩, ?_⟩
       ·exact zH
       ·first | omega | (simp; omega)
       ·exact all_take_succ hB hd (by have q := g47; have q2 := c49; simp [smallD]; omega)
       ·show x.decisions.length - ((k + 1)) < x.decisions.length - k
        omega
    ·
     replace c28 := of_decide_eq_false c28
     refine zL<|ze<|ze<|zF<|U<|W.sr<|v_asB X X<|Y<|zo<|za Tryz.results51 ?_
     refine ⟨h24, _, rfl, st26.done, ?_⟩
     refine zj ?_
     first | (simp [smallX]; intros; omega) | (simp [smallX, not_all (p := smallR) hr (by simp [smallR]; intros; omega)]; done) | (simp [smallX, not_all (p := smallD) hd (by simp [smallD]; intros; omega)]; done) | (simp [smallX, all_of_take hA (by omega), all_of_take hB (by omega)]; omega)
end Go.Pk

namespace Go.Pk
open Go Go.RowKit Go.Proofs
set_option maxRecDepth 4000 in
theorem c_postilref01_Twin {h : Heap} {w : World} (hs : Sub h w) {t : Text} {t_v0 : Value} (t_f0 : Sl LChapter h t_v0 t.chapters) (hsm : smallT t = true) : Calls Tryz.prog 52 #[.agg #[t_v0]] w (Rets h w (fun h' _ res_ => ∃ u0, res_ = .agg #[u0] ∧ Sl LChapter h' u0 (t).chapters)) := by
 refine zz (n := 55) (args := [.agg #[t_v0]]) Tryz.func52 X X X ?_
 have st0 : St h w h w [] := St.start hs
 have t_f0_b := t_f0.le
 refine W.sr<|zy st0 (cs := [t_v0]) X X X ?_
 intro b1 w2 h3 le4 hc5 st6
 refine zD st6 Tryz.zeroValue24 X X ?_
 intro b7 w8 st9
 refine Y<|W.sr<|zD st9 Tryz.zeroValue24 X X ?_
 intro b10 w11 st12
 refine Y<|zf<|W.sr<|v_asI X X<|Y<|zs ?_
 have st16 := st12.snoc
 have f17 := OSl.nil LChapter 152 h3
 refine zG [4, 5, 6, 7, 8, 9, 10, 11, 12, 13, 14, 15, 16, 17, 18, 19, 20, 21, 22, 23, 24, 25, 26, 27, 28, 29, 30, 31, 32, 33, 34, 35, 36, 37, 38, 39, 40, 41, 42, 43, 44, 45, 46, 47, 48, 49, 50, 51, 52, 53] (G := Nat × Value × List (Nat × Obj) × Heap) (fun ⟨i, v_c1_0, o_c1_0, h13⟩ => [(4, .int .i64 (i : Int))]) (fun ⟨i, v_c1_0, o_c1_0, h13⟩ w' => Le h3 h13 ∧ St h w h13 w' [[(b7, .cells (List.toArray [(.slice none 0 0)]) 24)], [(b10, .cells (List.toArray [v_c1_0]) 24)], o_c1_0] ∧ (OSl LChapter 152 h13 v_c1_0 (t.chapters.take i) o_c1_0) ∧ (i ≤ t.chapters.length)) (fun ⟨i, v_c1_0, o_c1_0, h13⟩ => t.chapters.length - i) ⟨0, (.slice none 0 0), [], h3⟩ ⟨rfl, trivial⟩ ⟨Le.refl _, st16, (OSl.to f17 (by simp)), zK⟩ ?_
 rintro ⟨i, v_c1_0, o_c1_0, h13⟩ _ w18 ⟨le14, st15, hO_c1_0, hi⟩
 refine zf<|W.sr<|v_mvI X X<|v_field_addr X Tryz.underlying24 X Tryz.sizeOf22 X X<|v_load_cells1 (j := 0) st15.sub (hc5.up le14) X X X Tryz.isAgg22 X<|v_len (t_f0.up (le4.trans le14)) X Tryz.underlying22 X<|v_lss X X X<|Y ?_
 refine zh rfl (fun c19 => ?_) (fun c19 => ?_)
 ·
  replace c19 := of_decide_eq_true c19
  refine zr<|U<|zf<|zs<|W.sr<|v_field_addr X Tryz.underlying24 X Tryz.sizeOf22 X X<|v_load_cells1 (j := 0) st15.sub (hc5.up le14) X X X Tryz.isAgg22 X<|v_mvI X X ?_
  have hc : ∃ y_, (t.chapters)[i]? = some y_ := ⟨_, List.getElem?_eq_getElem (by omega)⟩
  obtain ⟨c, hc⟩ := hc
  obtain ⟨b20, o21, _, he23, hc22, hr_c⟩ := Sl.elem (t_f0.up (le4.trans le14)) hc
  obtain ⟨v24, rfl, f25⟩ := hr_c
  have f25_b := f25.le
  refine v_index_el he23 X X (hk := X) (hu := Tryz.underlying22) (hz := Tryz.sizeOf152) X ?_
  have hcl := smallT_c hsm hc
  have htl := smallT_len hsm
  refine v_field_addr X Tryz.underlying152 X Tryz.sizeOf3 X X<|v_load_cells1 (j := 0) st15.sub hc22 X X X Tryz.isAgg3 X<|zk X X (r_build (cs := [.int .i64 (c.id), (.slice none 0 0)]) t_kr)<|zD st15 Tryz.zeroValue152 X X ?_
  intro b26 w27 st28
  refine zC st28 (k := 3) X X X (zp X (zp X zQ)) Tryz.sizeOf152 X X X ?_
  intro w29 st30
  refine Y<|zf<|W.sr<|v_asI X X<|Y<|zs ?_
  have st34 := st30.snoc
  have f35 := OSl.nil (LSl LStr) 60 h13
  refine zG [6, 21, 22, 23, 24, 25, 26, 27, 28, 29, 30, 31, 32, 33, 34, 35, 36, 37, 38, 39, 40, 41, 42, 43, 44, 45, 46, 47] (G := Nat × Value × List (Nat × Obj) × Heap) (fun ⟨n, v_c3_1, o_c3_1, h31⟩ => [(6, .int .i64 (n : Int))]) (fun ⟨n, v_c3_1, o_c3_1, h31⟩ w' => Le h13 h31 ∧ St h w h31 w' [[(b7, .cells (List.toArray [(.slice none 0 0)]) 24)], [(b10, .cells (List.toArray [v_c1_0]) 24)], o_c1_0, [(b26, .cells (List.toArray [.int .i64 (c.id), v_c3_1]) 152)], o_c3_1] ∧ (OSl (LSl LStr) 60 h31 v_c3_1 (c.lines.take n) o_c3_1) ∧ (n ≤ c.lines.length)) (fun ⟨n, v_c3_1, o_c3_1, h31⟩ => c.lines.length - n) ⟨0, (.slice none 0 0), [], h13⟩ ⟨rfl, trivial⟩ ⟨Le.refl _, st34, (OSl.to f35 (by simp)), zK⟩ ?_
  rintro ⟨n, v_c3_1, o_c3_1, h31⟩ _ w36 ⟨le32, st33, hO_c3_1, hn⟩
  refine zf<|W.sr<|v_mvI X X<|v_field_addr X Tryz.underlying24 X Tryz.sizeOf22 X X<|v_load_cells1 (j := 0) st33.sub (hc5.up (le14.trans le32)) X X X Tryz.isAgg22 X<|v_mvI X X<|v_index_el he23 X X (hk := X) (hu := Tryz.underlying22) (hz := Tryz.sizeOf152) X<|v_field_addr X Tryz.underlying152 X Tryz.sizeOf150 X X<|v_load_cells1 (j := 1) st33.sub (hc22.up le32) X X X Tryz.isAgg150 X<|v_len (f25.up le32) X Tryz.underlying150 X<|v_lss X X X<|Y ?_
  refine zh rfl (fun c37 => ?_) (fun c37 => ?_)
  ·
   replace c37 := of_decide_eq_true c37
   refine zr<|U<|zf<|zs ?_
   have hln : ∃ y_, (c.lines)[n]? = some y_ := ⟨_, List.getElem?_eq_getElem (by omega)⟩
   obtain ⟨ln, hln⟩ := hln
   obtain ⟨b38, o39, _, he41, hc40, hr_ln⟩ := Sl.elem (f25.up le32) hln
   obtain ⟨v42, rfl, f43⟩ := hr_ln
   have f43_b := f43.le
   have hll := smallT_l hsm hc hln
   refine zad (er := ([1], [], [], [], 0)) (dsts := [32, 33, 34, 35, 36, 37, 38, 39, 40, 41, 42, 43, 44, 45, 46, 47]) st33 Tryz.mixed<|zq 0 [] X t_kr t_kr X X (fun hD wD τD hL hS hO  => (zA X Tryz.underlying152 X Tryz.sizeOf150 X))<|zq 1 [0] X t_kr t_kr X X (fun hD wD τD hL hS hO _ _ => (r_load_b1 ((hO X).get (k := 3) X) X X Tryz.isAgg150)) ?_
   refine zJ 2 (.res (fun _ res_ => ∃ p, res_ = .slice p 0 0) (fun _ _ _ _ f => f)) [] rfl t_kr t_kr ?_ ?_
   ·
    intro hD wD τD hL hS hO 
    have st44 := St.start hS
    refine OpsL.sliceZ st44 X ⟨_, Tryz.sizeOf9⟩ Tryz.underlying60 ?_
    intro v45 w46 f47 st48
    exact zt ⟨_, _, rfl, st48, _, rfl, f47⟩
   refine zq 3 [] X t_kr t_kr X X (fun hD wD τD hL hS hO  => (zA X Tryz.underlying24 X Tryz.sizeOf22 X))<|zq 4 [0] X t_kr t_kr X X (fun hD wD τD hL hS hO _ _ => (zc (j := 0) (hL.sub hS) (hc5.up (le14.trans le32)) X X X Tryz.isAgg22))<|zq 5 [] X t_kr t_kr X X (fun hD wD τD hL hS hO  => (r_mvI X))<|zq 6 [1, 0] X t_kr t_kr X X (fun hD wD τD hL hS hO _ _ _ _ => (zE he23 X X (hk := X) (hu := Tryz.underlying22) (hz := Tryz.sizeOf152)))<|zq 7 [0] X t_kr t_kr X X (fun hD wD τD hL hS hO _ _ => (zA X Tryz.underlying152 X Tryz.sizeOf150 X))<|zq 8 [0] X t_kr t_kr X X (fun hD wD τD hL hS hO _ _ => (zc (j := 1) (hL.sub hS) (hc22.up le32) X X X Tryz.isAgg150))<|zq 9 [] X t_kr t_kr X X (fun hD wD τD hL hS hO  => (r_mvI X))<|zq 10 [1, 0] X t_kr t_kr X X (fun hD wD τD hL hS hO _ _ _ _ => (zE he41 X X (hk := X) (hu := Tryz.underlying150) (hz := Tryz.sizeOf60)))<|zq 11 [0] X t_kr t_kr X X (fun hD wD τD hL hS hO _ _ => (zc (j := 0) (hL.sub hS) hc40 X X X Tryz.isAgg60)) ?_
   refine zJ 12 (.res (fun h' res_ => Sl LStr h' res_ ln) (fun _ _ _ hl f => f.up hl)) [9, 0] rfl t_kr t_kr ?_ ?_
   ·
    intro hD wD τD hL hS hO gv2_ gf2_ _ _
    have st49 := St.start hS
    have st50 := st49.snoc
    have f51 := OSl.nil LStr 9 hD
    have f52 := OSl.nil0 LStr 9 hD gf2_
    refine zaf (k := 0) (nb := 16) st50 f52 rfl (f43.up hL) rfl rfl rfl Tryz.underlying60 Tryz.info9 rfl rfl rfl (by decide) rfl (by simp only [List.length_take, List.length_append, List.length_cons, List.length_nil]; omega) (by simp only [List.length_take, List.length_append, List.length_cons, List.length_nil]; omega) ?_
    intro v53 o54 w55 _ e56 f57 st58
    subst e56
    obtain ⟨h59, le60, f61, st62⟩ := OSl.freeze (k := 0) st58 f57 rfl (by simp only [List.length_take, List.length_append, List.length_cons, List.length_nil]; omega)
    exact zt ⟨_, _, rfl, st62.done, _, rfl, f61⟩
   refine zJ 13 (.res (fun h' res_ => Sl (LSl LStr) h' res_ ([ln])) (fun _ _ _ hl f => f.up hl)) [0] rfl t_kr t_kr ?_ ?_
   ·
    intro hD wD τD hL hS hO gv12_0 gf12_0
    have st63 := St.start hS
    refine zN (L := (LSl LStr)) (xs := [ln]) (cs := [gv12_0]) st63 (Enc.cons (L := (LSl LStr)) (vs := [gv12_0]) (x := ln) (h := hD) (⟨_, rfl, gf12_0⟩) Enc.nil) rfl rfl rfl Tryz.underlying150 Tryz.info60 rfl rfl rfl (by obtain ⟨_, _, rfl⟩ := Sl.form gf12_0; kernel_rfl) ?_
    intro v64 w65 h68 le69 f66 st67
    exact zt ⟨_, _, rfl, st67, _, rfl, f66⟩
   refine Drw.ch<|zq 15 [14, 13, 12, 11, 10, 9, 8, 7, 6, 5, 4, 3, 2, 1, 0] X t_kr t_kr X X (fun hD wD τD hL hS hO _ _ _ _ gv2_ gf2_ _ _ _ _ _ _ _ _ _ _ _ _ _ _ _ _ _ _ gv12_0 gf12_0 gv13_0 gf13_0 => (zA X Tryz.underlying152 X Tryz.sizeOf150 X))<|Drw.ch<|Drw.nil X X X X X X ⟨t_kr, X, t_kr, X, t_kr, X, X, t_kr, (cx_cons X (cx_cons X cx_nil))⟩ ?_
   intro hE71 w72 _ le73 st74 _ _ gv13_0x70 gf13_0x70 gv12_0x70 gf12_0x70
   refine zaf (k := 4) (nb := 24) st74 (hO_c3_1.up le73) rfl gf13_0x70 rfl rfl rfl Tryz.underlying150 Tryz.info60 rfl rfl rfl (by decide) rfl (by simp only [List.length_take, List.length_append, List.length_cons, List.length_nil]; omega) (by simp only [List.length_take, List.length_append, List.length_cons, List.length_nil]; omega) ?_
   intro v75 o76 w77 _ e78 f79 st80
   subst e78
   refine zt ⟨_, rfl, _, _, Le.refl _, st80, ?_⟩
   intro hE82 w83 _ le84 st85 _ _ _ _ _ _ gv2_x81 gf2_x81 _ _ _ _ _ _ _ _ _ _ _ _ _ _ _ _ _ _ gv12_0x81 gf12_0x81 gv13_0x81 gf13_0x81
   refine zO st85 (k := 3) X X (v := v75) X f79.one Tryz.sizeOf150 X X X ?_
   intro w86 st87
   refine zt ⟨undef, rfl, _, _, Le.refl _, st87, ?_⟩
   intro hE88 w89 _ le90 st91 _ _ _ _ gv2_x92 gf2_x92 _ _ _ _ _ _ _ _ _ _ _ _ _ _ _ _ _ _ gv12_0x92 gf12_0x92 gv13_0x92 gf13_0x92 _ _
   refine AllDeps.fin X<|zw<|U<|zg<|v_mvI X X<|v_add X X t_om X<|v_asI X X<|Y ?_
   refine ⟨⟨n + 1, v75, o76, hE88⟩, ⟨rfl, trivial⟩, ?_, ⟨(((le32.trans le73).trans le84).trans le90), st91, ?_, ?_⟩, ?_⟩
   ·exact zH
   ·refine OSl.to (f79.up (le84.trans le90)) ?_
    rw [take_snoc hln]
   ·first | omega | (simp; omega)
   ·show c.lines.length - ((n + 1)) < c.lines.length - n
    omega
  ·
   replace c37 := of_decide_eq_false c37
   refine zL<|ze<|ze<|zF<|U<|zg<|v_field_addr X Tryz.underlying24 X Tryz.sizeOf22 X X<|v_load_b1 (st33.get (k := 1) X) X X Tryz.isAgg22 X<|v_load_ball (st33.get (k := 3) X) X Tryz.isAgg152 Tryz.sizeOf152 X X ?_
   obtain ⟨h93, le94, f95, st96⟩ := OSl.freeze (k := 4) st33 hO_c3_1 rfl (by simp only [List.length_take, List.length_append, List.length_cons, List.length_nil]; omega)
   refine zN (L := LChapter) (xs := [(Chapter.mk (c.id) (c.lines.take n))]) (cs := [.int .i64 (c.id), v_c3_1]) st96 (Enc.cons (L := LChapter) (vs := [.int .i64 (c.id), v_c3_1]) (x := (Chapter.mk (c.id) (c.lines.take n))) (h := h93) (⟨_, X, f95⟩) Enc.nil) X X X Tryz.underlying22 Tryz.info152 X X X t_kr ?_
   intro v97 w98 h101 le102 f99 st100
   refine zaf (k := 2) (nb := 32) st100 (hO_c1_0.up ((le32.trans le94).trans le102)) rfl f99 rfl rfl rfl Tryz.underlying22 Tryz.info152 rfl rfl rfl (by decide) rfl (by simp only [List.length_take, List.length_append, List.length_cons, List.length_nil]; omega) (by simp only [List.length_take, List.length_append, List.length_cons, List.length_nil]; omega) ?_
   intro v103 o104 w105 _ e106 f107 st108
   subst e106
   refine v_field_addr X Tryz.underlying24 X Tryz.sizeOf22 X X<|zO st108 (k := 1) X X (v := v103) X f107.one Tryz.sizeOf22 X X X ?_
   intro w109 st110
   refine zt<|zw<|U<|zg<|v_mvI X X<|v_add X X t_om X<|v_asI X X<|Y ?_
   refine ⟨⟨i + 1, v103, o104, h101⟩, ⟨rfl, trivial⟩, ?_, ⟨(((le14.trans le32).trans le94).trans le102), st110.take 3, ?_, ?_⟩, ?_⟩
   ·exact zH
   ·refine OSl.to f107 ?_
    rw [take_snoc hc, List.take_of_length_le (show c.lines.length ≤ n by omega)]
   ·first | omega | (simp; omega)
   ·show t.chapters.length - ((i + 1)) < t.chapters.length - i
    omega
 ·
  replace c19 := of_decide_eq_false c19
  refine zL<|ze<|ze<|zF<|U<|W.sr<|v_load_ball (st15.get (k := 1) X) X Tryz.isAgg24 Tryz.sizeOf24 X X<|zC st15 (k := 0) X X X (zp hO_c1_0.one zQ) Tryz.sizeOf24 X X X ?_
  intro w111 st112
  obtain ⟨h113, le114, hb115, st117⟩ := st112.freeze (k := 0) rfl
  have hc116 := Cells.of hb115
  refine Y<|zo<|Post.retcellF Tryz.results52 X Tryz.isAgg24 Tryz.sizeOf24 X st117.sub hc116 ?_
  obtain ⟨h118, le119, f120, st121⟩ := OSl.freeze (k := 2) st117 (hO_c1_0.up le114) rfl (by simp only [List.length_take, List.length_append, List.length_cons, List.length_nil]; omega)
  refine ⟨h118, _, rfl, st121.done, ?_⟩
  refine ⟨_, ?_, Sl.to f120 ?_⟩
  ·rfl
  ·rw [List.take_of_length_le (by omega)]
set_option maxRecDepth 4000 in
theorem c_postilref04_Twin {h : Heap} {w : World} (hs : Sub h w) {x : Lexicon} {x_v0 : Value} (x_f0 : Sl LRule h x_v0 x.rules) {x_v1 : Value} (x_f1 : Sl LDecision h x_v1 x.decisions) (hsm : smallX x = true) : Calls Tryz.prog 53 #[.agg #[x_v0, x_v1]] w (Rets h w (fun h' _ res_ => ∃ u0 u1, res_ = .agg #[u0, u1] ∧ Sl LRule h' u0 (x).rules ∧ Sl LDecision h' u1 (x).decisions)) := by
 refine zz (n := 14) (args := [.agg #[x_v0, x_v1]]) Tryz.func53 X X X ?_
 have st0 : St h w h w [] := St.start hs
 have x_f0_b := x_f0.le
 have x_f1_b := x_f1.le
 refine W.sr<|OpsL.boxO st0 (cs := [x_v0, x_v1]) X X X ?_
 intro b1 w2 st3
 refine zD st3 Tryz.zeroValue28 X X ?_
 intro b4 w5 st6
 refine Y<|W.sr<|OpsL.sliceE (L := LRule) st6 X ⟨_, Tryz.sizeOf68⟩ Tryz.underlying25 ?_
 intro v7 o8 w9 f10 st11
 refine v_field_addr X Tryz.underlying28 X Tryz.sizeOf25 X X<|v_load_b1 (st11.get (k := 0) X) X X Tryz.isAgg25 X ?_
 have hln := smallX_len hsm
 refine zaf (k := 2) (nb := 40) st11 f10 rfl x_f0 rfl rfl rfl Tryz.underlying25 Tryz.info68 rfl rfl rfl (by decide) rfl (by simp only [List.length_nil, List.nil_append]; omega) (by simp only [List.length_nil, List.nil_append]; omega) ?_
 intro v12 o13 w14 _ e15 f16 st17
 subst e15
 refine v_field_addr X Tryz.underlying28 X Tryz.sizeOf25 X X<|zO st17 (k := 0) X X (v := v12) X f16.one Tryz.sizeOf25 X X X ?_
 intro w18 st19
 refine Y<|W.sr<|OpsL.sliceE (L := LDecision) st19 X ⟨_, Tryz.sizeOf74⟩ Tryz.underlying26 ?_
 intro v20 o21 w22 f23 st24
 refine v_field_addr X Tryz.underlying28 X Tryz.sizeOf26 X X<|v_load_b1 (st24.get (k := 0) X) X X Tryz.isAgg26 X ?_
 refine zaf (k := 3) (nb := 88) st24 f23 rfl x_f1 rfl rfl rfl Tryz.underlying26 Tryz.info74 rfl rfl rfl (by decide) rfl (by simp only [List.length_nil, List.nil_append]; omega) (by simp only [List.length_nil, List.nil_append]; omega) ?_
 intro v25 o26 w27 _ e28 f29 st30
 subst e28
 refine v_field_addr X Tryz.underlying28 X Tryz.sizeOf26 X X<|zO st30 (k := 0) X X (v := v25) X f29.one Tryz.sizeOf26 X X X ?_
 intro w31 st32
 refine Y<|W.sr<|v_load_ball (st32.get (k := 0) X) X Tryz.isAgg28 Tryz.sizeOf28 X X<|zC st32 (k := 1) X X X (zp f16.one (zp f29.one zQ)) Tryz.sizeOf28 X X X ?_
 intro w33 st34
 obtain ⟨h35, le36, hb37, st39⟩ := st34.freeze (k := 1) rfl
 have hc38 := Cells.of hb37
 refine Y<|zo<|Post.retcellF Tryz.results53 X Tryz.isAgg28 Tryz.sizeOf28 X st39.sub hc38 ?_
 obtain ⟨h40, le41, f42, st43⟩ := OSl.freeze (k := 2) st39 (f16.up le36) rfl (by simp only [List.nil_append]; omega)
 obtain ⟨h44, le45, f46, st47⟩ := OSl.freeze (k := 3) st43 (f29.up (le36.trans le41)) rfl (by simp only [List.nil_append]; omega)
 refine ⟨h44, _, rfl, st47.done, ?_⟩
 refine ⟨_, _, ?_, Sl.to (f42.up le45) ?_, Sl.to f46 ?_⟩
 ·rfl
 ·simp
 ·simp
end Go.Pk

namespace Go.Pk
open Go Go.RowKit Go.Proofs
set_option maxRecDepth 4000 in
theorem c_cmp_isNaN_int {h : Heap} {w : World} (hs : Sub h w) (x : Int) : Calls Tryz.prog 149 #[.int .i64 x] w (Rets h w (fun _ _ res_ => res_ = .bool (false))) := by
 refine zz (n := 6) (args := [.int .i64 x]) Tryz.func149 X X X ?_
 have st0 : St h w h w [] := St.start hs
 refine W.sr<|v_asB X X<|Y<|W.sr<|v_mvI X X<|v_mvI X X<|v_neq X X X<|v_asB X X<|Y<|zo<|za Tryz.results149 ?_
 refine ⟨h, _, rfl, st0.done, ?_⟩
 refine zj ?_
 simp
set_option maxRecDepth 4000 in
theorem c_cmp_Compare_int {h : Heap} {w : World} (hs : Sub h w) (a : Int) (b : Int) : Calls Tryz.prog 106 #[.int .i64 a, .int .i64 b] w (Rets h w (fun _ _ res_ => res_ = .int .i64 (cmpI a b))) := by
 refine zz (n := 20) (args := [.int .i64 a, .int .i64 b]) Tryz.func106 X X X ?_
 have st0 : St h w h w [] := St.start hs
 refine W.sr<|v_asI X X<|Y<|W.sr<|v_mvI X X<|zi st0 X X X Tryz.call149 X (c_cmp_isNaN_int st0.sub _) ?_
 intro r1 w2 h3 le4 st5 q6
 obtain rfl := q6
 refine v_asB X X<|Y<|W.sr<|v_mvI X X<|zi st5 X X X Tryz.call149 X (c_cmp_isNaN_int st5.sub _) ?_
 intro r7 w8 h9 le10 st11 q12
 obtain rfl := q12
 refine v_asB X X<|Y<|zf<|W.sr<|v_mvB X X<|Y ?_
 refine zh rfl (fun c13 => ?_) (fun c13 => ?_)
 ·
  refine zf<|W.sr<|v_mvB X X<|Y ?_
  refine zh rfl (fun c14 => ?_) (fun c14 => ?_)
  ·
   refine W.sr<|v_asI X X<|Y<|zo<|E<|E<|za Tryz.results106 ?_
   refine ⟨h9, _, rfl, st11.done, ?_⟩
   refine zB ?_
   all_goals (unfold cmpI; repeat' split)
   all_goals (first | omega | simp_all | rfl)
  ·
   refine zr<|U<|W.sr<|v_asI X X<|Y<|zo<|E<|za Tryz.results106 ?_
   refine ⟨h9, _, rfl, st11.done, ?_⟩
   refine zB ?_
   all_goals (unfold cmpI; repeat' split)
   all_goals (first | omega | simp_all | rfl)
 ·
  refine zr<|U<|zf<|W.sr<|v_mvB X X<|Y ?_
  refine zh rfl (fun c15 => ?_) (fun c15 => ?_)
  ·
   refine W.sr<|v_asI X X<|Y<|zo<|E<|za Tryz.results106 ?_
   refine ⟨h9, _, rfl, st11.done, ?_⟩
   refine zB ?_
   all_goals (unfold cmpI; repeat' split)
   all_goals (first | omega | simp_all | rfl)
  ·
   refine zr<|U<|zf<|W.sr<|v_mvI X X<|v_mvI X X<|v_lss X X X<|Y ?_
   refine zh rfl (fun c16 => ?_) (fun c16 => ?_)
   ·
    replace c16 := of_decide_eq_true c16
    refine W.sr<|v_asI X X<|Y<|zo<|E<|za Tryz.results106 ?_
    refine ⟨h9, _, rfl, st11.done, ?_⟩
    refine zB ?_
    all_goals (unfold cmpI; repeat' split)
    all_goals (first | omega | simp_all | rfl)
   ·
    replace c16 := of_decide_eq_false c16
    refine zr<|U<|zf<|W.sr<|v_mvI X X<|v_mvI X X<|v_gtr X X X<|Y ?_
    refine zh rfl (fun c17 => ?_) (fun c17 => ?_)
    ·
     replace c17 := of_decide_eq_true c17
     refine W.sr<|v_asI X X<|Y<|zo<|E<|za Tryz.results106 ?_
     refine ⟨h9, _, rfl, st11.done, ?_⟩
     refine zB ?_
     all_goals (unfold cmpI; repeat' split)
     all_goals (first | omega | simp_all | rfl)
    ·
     replace c17 := of_decide_eq_false c17
     refine zr<|U<|W.sr<|v_asI X X<|Y<|zo<|za Tryz.results106 ?_
     refine ⟨h9, _, rfl, st11.done, ?_⟩
     refine zB ?_
     all_goals (unfold cmpI; repeat' split)
     all_goals (first | omega | simp_all | rfl)
set_option maxRecDepth 4000 in
theorem c_slices_Compare_Lint_int {h : Heap} {w : World} (hs : Sub h w) {a_v : Value} {a : (List Int)} (a_f : Sl LInt h a_v a) {b_v : Value} {b : (List Int)} (b_f : Sl LInt h b_v b) : Calls Tryz.prog 66 #[a_v, b_v] w (Rets h w (fun _ _ res_ => res_ = .int .i64 (cmpL a b))) := by
 refine zz (n := 36) (args := [a_v, b_v]) Tryz.func66 X X X ?_
 have st0 : St h w h w [] := St.start hs
 have a_f_b := a_f.le
 have b_f_b := b_f.le
 refine W.sr<|v_asI X X<|Y<|zf<|W.sr<|v_move (v := a_v) X X<|v_len a_f X Tryz.underlying42 X<|v_mvI X X<|Y<|zs ?_
 refine zG [4, 5, 6, 7, 8, 11, 12, 13, 14, 15, 16, 17, 18, 19, 20, 21, 22, 23, 24, 25, 26, 27, 28, 29, 30] (G := Nat × Heap) (fun ⟨k, h1⟩ => [(11, .int .i64 (k : Int))]) (fun ⟨k, h1⟩ w' => Le h h1 ∧ St h w h1 w' [] ∧ (k ≤ a.length) ∧ (k ≤ b.length) ∧ (cmpL a b = cmpL (a.drop k) (b.drop k))) (fun ⟨k, h1⟩ => a.length - k) ⟨0, h⟩ ⟨rfl, trivial⟩ ⟨Le.refl _, st0, zK, zK, (by rfl)⟩ ?_
 rintro ⟨k, h1⟩ _ w4 ⟨le2, st3, hk, hkb, he⟩
 refine W.sr<|v_lss X X X<|Y<|zf ?_
 refine zh rfl (fun c5 => ?_) (fun c5 => ?_)
 ·
  replace c5 := of_decide_eq_true c5
  refine zr<|U<|zf<|zs<|W.sr<|v_mvI X X ?_
  have hx : ∃ y_, (a)[k]? = some y_ := ⟨_, List.getElem?_eq_getElem (by omega)⟩
  obtain ⟨x, hx⟩ := hx
  obtain ⟨b6, o7, _, he9, hc8, hr_x⟩ := Sl.elem (a_f.up le2) hx
  obtain rfl := hr_x
  refine v_index_el he9 X X (hk := X) (hu := Tryz.underlying42) (hz := Tryz.sizeOf3) X<|v_load_cells1 (j := 0) st3.sub hc8 X X X Tryz.isAgg3 X<|v_asI X X<|v_asI X X<|Y<|zf<|W.sr<|v_mvI X X<|v_move (v := b_v) X X<|v_len (b_f.up le2) X Tryz.underlying42 X<|v_geq X X X<|Y ?_
  refine zh rfl (fun c10 => ?_) (fun c10 => ?_)
  ·
   replace c10 := of_decide_eq_true c10
   refine W.sr<|v_asI X X<|Y<|zo<|E<|zn<|E<|E<|zn<|E<|za Tryz.results66 ?_
   refine ⟨h1, _, rfl, st3.done, ?_⟩
   refine zB ?_
   rw [he, cmpL_cons_nil (List.drop_eq_nil_of_le (by omega)) (by intro q; have := List.drop_eq_nil_iff.1 q; omega)]
  ·
   replace c10 := of_decide_eq_false c10
   refine zr<|U<|W.sr<|v_move (v := b_v) X X<|v_mvI X X ?_
   have hy : ∃ y_, (b)[k]? = some y_ := ⟨_, List.getElem?_eq_getElem (by omega)⟩
   obtain ⟨y, hy⟩ := hy
   obtain ⟨b11, o12, _, he14, hc13, hr_y⟩ := Sl.elem (b_f.up le2) hy
   obtain rfl := hr_y
   refine v_index_el he14 X X (hk := X) (hu := Tryz.underlying42) (hz := Tryz.sizeOf3) X<|v_load_cells1 (j := 0) st3.sub hc13 X X X Tryz.isAgg3 X<|v_asI X X<|Y<|W.sr<|v_mvI X X<|v_mvI X X<|zi st3 X X X Tryz.call106 X (c_cmp_Compare_int st3.sub _ _) ?_
   intro r15 w16 h17 le18 st19 q20
   obtain rfl := q20
   refine v_asI X X<|Y<|W.sr<|v_mvI X X<|v_neq X X X<|Y ?_
   refine zh rfl (fun c21 => ?_) (fun c21 => ?_)
   ·
    replace c21 := of_decide_eq_true c21
    refine W.sr<|v_mvI X X<|v_asI X X<|Y<|zo<|zn<|E<|E<|zn<|E<|za Tryz.results66 ?_
    refine ⟨h17, _, rfl, st19.done, ?_⟩
    refine zB ?_
    rw [he, cmpL_step hx hy, if_pos (by simpa using c21)]
   ·
    replace c21 := of_decide_eq_false c21
    refine zr<|zw<|U<|zg<|v_add X X t_om X<|v_mvI X X<|Y ?_
    refine ⟨⟨k + 1, h17⟩, ⟨rfl, trivial⟩, ?_, ⟨(le2.trans le18), st19, ?_, ?_, ?_⟩, ?_⟩
    ·exact zH
    ·first | omega | (simp; omega)
    ·have := (List.getElem?_eq_some_iff.1 hy).1; omega
    ·rw [he, cmpL_step hx hy, if_neg (by simpa using c21)]
    ·show a.length - ((k + 1)) < a.length - k
     omega
 ·
  replace c5 := of_decide_eq_false c5
  refine zL<|ze<|ze<|zF<|U<|zf<|W.sr<|v_move (v := a_v) X X<|v_len (a_f.up le2) X Tryz.underlying42 X<|v_move (v := b_v) X X<|v_len (b_f.up le2) X Tryz.underlying42 X<|v_lss X X X<|Y ?_
  refine zh rfl (fun c22 => ?_) (fun c22 => ?_)
  ·
   replace c22 := of_decide_eq_true c22
   refine W.sr<|v_asI X X<|Y<|zo<|E<|za Tryz.results66 ?_
   refine ⟨h1, _, rfl, st3.done, ?_⟩
   refine zB ?_
   rw [he, cmpL_nil_cons (List.drop_eq_nil_of_le (by omega)) (by intro q; have := List.drop_eq_nil_iff.1 q; omega)]
  ·
   replace c22 := of_decide_eq_false c22
   refine zr<|U<|W.sr<|v_asI X X<|Y<|zo<|za Tryz.results66 ?_
   refine ⟨h1, _, rfl, st3.done, ?_⟩
   refine zB ?_
   rw [he, List.drop_eq_nil_of_le (by omega), List.drop_eq_nil_of_le (by omega)]; rfl
end Go.Pk

namespace Go.Pk
open Go Go.RowKit Go.Proofs
set_option maxRecDepth 4000 in
theorem c_postilref04_Less {h : Heap} {w : World} (hs : Sub h w) {a : Head} (a_l1 : a.stem.length ≤ 281474976710656) (a_l2 : 0 ≤ a.mark ∧ a.mark ≤ 255) {b : Head} (b_l1 : b.stem.length ≤ 281474976710656) (b_l2 : 0 ≤ b.mark ∧ b.mark ≤ 255) : Calls Tryz.prog 148 #[.agg #[strV a.stem, .int .u8 a.mark], .agg #[strV b.stem, .int .u8 b.mark]] w (Rets h w (fun _ _ res_ => res_ = .bool (headLt a b))) := by
 refine zz (n := 24) (args := [.agg #[strV a.stem, .int .u8 a.mark], .agg #[strV b.stem, .int .u8 b.mark]]) Tryz.func148 X X X ?_
 have st0 : St h w h w [] := St.start hs
 refine W.sr<|zy st0 (cs := [strV (a.stem), .int .u8 (a.mark)]) X X X ?_
 intro b1 w2 h3 le4 hc5 st6
 refine zy st6 (cs := [strV (b.stem), .int .u8 (b.mark)]) X X X ?_
 intro b7 w8 h9 le10 hc11 st12
 refine v_asB X X<|Y<|W.sr<|v_field_addr X Tryz.underlying72 X Tryz.sizeOf9 X X<|v_load_cells1 (j := 0) st12.sub (hc5.up le10) X X X Tryz.isAgg9 X<|v_field_addr X Tryz.underlying72 X Tryz.sizeOf9 X X<|v_load_cells1 (j := 0) st12.sub hc11 X X X Tryz.isAgg9 X<|zk X X (r_slss X X)<|v_mvB X X ?_
 refine zx (d := 10) rfl (fun g13 => ?_) (fun g13 => ?_)
 ·
  refine Z X X X X X<|Z X X X X X<|Z X X X X X<|Z X X X X X<|Z X X X X X<|Z X X X X X<|zd X X (d := 16) X X<|zd X X (d := 16) X X<|zd X X (d := 16) X X<|zd X X (d := 16) X X<|zd X X (d := 16) X X<|Z X X X X X<|v_pickT (v := (.bool _)) X X X<|v_asB X X<|Y<|zo<|za Tryz.results148 ?_
  refine ⟨h9, _, rfl, st12.done, ?_⟩
  refine zj ?_
  simp_all [headLt, sLt]
 ·
  refine M X X (d := 10) X<|v_field_addr X Tryz.underlying72 X Tryz.sizeOf9 X X<|M X X (d := 10) X<|v_load_cells1 (j := 0) st12.sub (hc5.up le10) X X X Tryz.isAgg9 X<|M X X (d := 10) X<|v_field_addr X Tryz.underlying72 X Tryz.sizeOf9 X X<|M X X (d := 10) X<|v_load_cells1 (j := 0) st12.sub hc11 X X X Tryz.isAgg9 X<|M X X (d := 10) X<|v_seql X X X<|M X X (d := 10) X<|v_mvB X X ?_
  refine zx (d := 16) rfl (fun g14 => ?_) (fun g14 => ?_)
  ·
   replace g14 := of_decide_eq_true g14
   refine M X X (d := 16) X<|v_field_addr X Tryz.underlying72 X Tryz.sizeOf5 X X<|M X X (d := 16) X<|v_load_cells1 (j := 1) st12.sub (hc5.up le10) X X X Tryz.isAgg5 X<|M X X (d := 16) X<|v_field_addr X Tryz.underlying72 X Tryz.sizeOf5 X X<|M X X (d := 16) X<|v_load_cells1 (j := 1) st12.sub hc11 X X X Tryz.isAgg5 X<|M X X (d := 16) X<|v_lss X X X<|M X X (d := 10) X<|v_pickT (v := (.bool _)) X X X<|v_pickF (v := (.bool _)) X X X<|v_asB X X<|Y<|zo<|za Tryz.results148 ?_
   refine ⟨h9, _, rfl, st12.done, ?_⟩
   refine zj ?_
   simp_all [headLt, sLt]
  ·
   replace g14 := of_decide_eq_false g14
   refine Z X X X X X<|Z X X X X X<|Z X X X X X<|Z X X X X X<|Z X X X X X<|M X X (d := 10) X<|v_pickF (v := (.bool _)) X X X<|v_pickF (v := (.bool _)) X X X<|v_asB X X<|Y<|zo<|za Tryz.results148 ?_
   refine ⟨h9, _, rfl, st12.done, ?_⟩
   refine zj ?_
   simp_all [headLt, sLt]
set_option maxRecDepth 4000 in
theorem c_postilref04_SameHeads {h : Heap} {w : World} (hs : Sub h w) {a_v : Value} {a : (List Head)} (a_f : Sl LHead h a_v a) {b_v : Value} {b : (List Head)} (b_f : Sl LHead h b_v b) : Calls Tryz.prog 75 #[a_v, b_v] w (Rets h w (fun _ _ res_ => res_ = .bool (decide (a = b)))) := by
 refine zz (n := 26) (args := [a_v, b_v]) Tryz.func75 X X X ?_
 have st0 : St h w h w [] := St.start hs
 have a_f_b := a_f.le
 have b_f_b := b_f.le
 refine W.sr<|v_asB X X<|Y<|zf<|W.sr<|v_move (v := a_v) X X<|v_len a_f X Tryz.underlying82 X<|v_move (v := b_v) X X<|v_len b_f X Tryz.underlying82 X<|v_neq X X X<|Y ?_
 refine zh rfl (fun c1 => ?_) (fun c1 => ?_)
 ·
  replace c1 := of_decide_eq_true c1
  refine W.sr<|v_asB X X<|Y<|zo<|E<|za Tryz.results75 ?_
  refine ⟨h, _, rfl, st0.done, ?_⟩
  refine zj ?_
  have q : a ≠ b := by
   rintro rfl
   simp_all
  simp [q]
 ·
  replace c1 := of_decide_eq_false c1
  refine zr<|U<|zf<|W.sr<|v_asI X X<|Y<|zs ?_
  refine zG [4, 5, 11, 12, 13, 14, 15, 16, 17, 18, 19, 20, 21, 22, 23, 24, 25] (G := Nat × Heap) (fun ⟨k, h2⟩ => [(5, .int .i64 (k : Int))]) (fun ⟨k, h2⟩ w' => Le h h2 ∧ St h w h2 w' [] ∧ (k ≤ a.length) ∧ (a.take k = b.take k)) (fun ⟨k, h2⟩ => a.length - k) ⟨0, h⟩ ⟨rfl, trivial⟩ ⟨Le.refl _, st0, zK, zK⟩ ?_
  rintro ⟨k, h2⟩ _ w5 ⟨le3, st4, hk, he⟩
  refine zf<|W.sr<|v_mvI X X<|v_move (v := a_v) X X<|v_len (a_f.up le3) X Tryz.underlying82 X<|v_lss X X X<|Y ?_
  refine zh rfl (fun c6 => ?_) (fun c6 => ?_)
  ·
   replace c6 := of_decide_eq_true c6
   refine zr<|U<|zf<|zs<|zf<|zS Tryz.mixed t_kr (Cls h2 _) (Cls.drew st4)<|u_move (v := a_v) X X<|u_mvI X X ?_
   have hx : ∃ y_, (a)[k]? = some y_ := ⟨_, List.getElem?_eq_getElem (by omega)⟩
   obtain ⟨x, hx⟩ := hx
   obtain ⟨b7, o8, _, he10, hc9, hr_x⟩ := Sl.elem (a_f.up le3) hx
   obtain ⟨rfl, ls11, lu12⟩ := hr_x
   simp only [big] at ls11
   refine u_index_el he10 X X (hk := X) (hu := Tryz.underlying82) (hz := Tryz.sizeOf72) X<|zm X X (fun _ hC => (zM hC.sub hc9 X Tryz.isAgg72 Tryz.sizeOf72 X))<|u_move (v := b_v) X X<|u_mvI X X ?_
   have hy : ∃ y_, (b)[k]? = some y_ := ⟨_, List.getElem?_eq_getElem (by omega)⟩
   obtain ⟨y, hy⟩ := hy
   obtain ⟨b13, o14, _, he16, hc15, hr_y⟩ := Sl.elem (b_f.up le3) hy
   obtain ⟨rfl, ls17, lu18⟩ := hr_y
   simp only [big] at ls17
   refine u_index_el he16 X X (hk := X) (hu := Tryz.underlying82) (hz := Tryz.sizeOf72) X<|zm X X (fun _ hC => (zM hC.sub hc15 X Tryz.isAgg72 Tryz.sizeOf72 X))<|zm X X (fun _ _ => (r_stneq X X Tryz.eqGuardType72 (Tryz.eq_Head x y)))<|zI ?_
   rintro w19 ⟨h20, s21⟩
   have st22 := st4.call0 s21
   refine U ?_
   refine zh rfl (fun c23 => ?_) (fun c23 => ?_)
   ·
    replace c23 := of_decide_eq_true c23
    refine W.sr<|v_asB X X<|Y<|zo<|zn<|E<|E<|zn<|E<|za Tryz.results75 ?_
    refine ⟨h20, _, rfl, st22.done, ?_⟩
    refine zj ?_
    have q := ne_of_get hx hy (by simpa using c23)
    simp [q]
   ·
    replace c23 := of_decide_eq_false c23
    refine zr<|zw<|U<|zg<|v_mvI X X<|v_add X X t_om X<|v_asI X X<|Y ?_
    refine ⟨⟨k + 1, h20⟩, ⟨rfl, trivial⟩, ?_, ⟨(le3.trans s21.le), st22, ?_, ?_⟩, ?_⟩
    ·exact zH
    ·first | omega | (simp; omega)
    ·exact eq_take_succ he hx hy (by simpa using c23)
    ·show a.length - ((k + 1)) < a.length - k
     omega
  ·
   replace c6 := of_decide_eq_false c6
   refine zL<|ze<|ze<|zF<|U<|W.sr<|v_asB X X<|Y<|zo<|za Tryz.results75 ?_
   refine ⟨h2, _, rfl, st4.done, ?_⟩
   refine zj ?_
   have q := eq_of_take he (by omega) (by omega)
   simp [q]
end Go.Pk

namespace Go.Pk
open Go Go.RowKit Go.Proofs
end Go.Pk
