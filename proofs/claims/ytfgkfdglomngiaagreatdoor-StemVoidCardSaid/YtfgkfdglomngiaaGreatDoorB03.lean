/- A PART OF THE PROOF: contracts of functions, each walked once (much of it printed by a program of the author's own). -/
import Derived.Test.YtfgkfdglomngiaaGreatDoorT10
import Derived.Test.YtfgkfdglomngiaaGreatDoorT3
set_option linter.unusedSimpArgs false
set_option linter.unusedVariables false
namespace Go.Pk
open Go Go.RowKit Go.Proofs
set_option maxRecDepth 4000 in
set_option maxHeartbeats 4000000 in
theorem c_postillaw04_StemVoid {h : Heap} {w : World} (hs : Sub h w) {t : Text} {t_v0 : Value} (t_f0 : Sl LChapter h t_v0 t.chapters) {x : Lexicon} {x_v0 : Value} (x_f0 : Sl LRule h x_v0 x.rules) {x_v1 : Value} (x_f1 : Sl LDecision h x_v1 x.decisions) (which : Int) (which_l : 0 ≤ which ∧ which ≤ 255) (K0 : Cells h 0 0 Tryz.glob0) : Calls Tryz.prog 7 #[.agg #[t_v0], .agg #[x_v0, x_v1], .int .u8 which] w (Rets h w (fun _ _ res_ => res_ = .bool (true))) := by
 refine zB (n := 172) (args := [.agg #[t_v0], .agg #[x_v0, x_v1], .int .u8 which]) Tryz.func7 X X X ?_
 have st0 : St h w h w [] := St.start hs
 have t_f0_b := t_f0.le
 have x_f0_b := x_f0.le
 have x_f1_b := x_f1.le
 refine W.sr<|zn st0 (cs := [t_v0]) X X X ?_
 intro b1 w2 h3 le4 hc5 st6
 refine zn st6 (cs := [x_v0, x_v1]) X X X ?_
 intro b7 w8 h9 le10 hc11 st12
 refine v_asB X X<|M<|W.sr<|O st12 X X X Tryz.call13 X (c_postillaw04_alive st12.sub (K0.up (le4.trans le10))) ?_
 intro r13 w14 h15 le16 st17 q18
 obtain rfl := q18
 refine v_asB X X<|M<|zl<|W.sr<|v_load_call st17.sub (hc5.up (le10.trans le16)) X Tryz.isAgg24 Tryz.sizeOf24 X X<|v_load_call st17.sub (hc11.up le16) X Tryz.isAgg28 Tryz.sizeOf28 X X<|O st17 X X X Tryz.call14 X (zae st17.sub (t := t) (t_f0.up ((le4.trans le10).trans le16)) (x := x) (x_f0.up ((le4.trans le10).trans le16)) (x_f1.up ((le4.trans le10).trans le16))) ?_
 intro r19 w20 h21 le22 st23 q24
 obtain rfl := q24
 refine v_not X X<|v_mvB X X ?_
 refine zk (d := 29) rfl (fun g25 => ?_) (fun g25 => ?_)
 ·
  refine Z X X X X X<|Z X X X X X<|Z X X X X X<|Z X X X X X<|v_pickT (v := (.bool _)) X X X<|v_mvB X X<|Z X X X X X<|Z X X X X X<|Z X X X X X<|Z X X X X X<|v_pickT (v := (.bool _)) X X X<|v_mvB X X<|Z X X X X X<|Z X X X X X<|v_pickT (v := (.bool _)) X X X<|M ?_
  refine zh rfl (fun c26 => ?_) (fun c26 => ?_)
  ·
   refine W.sr<|v_mvB X X<|v_asB X X<|M<|zq<|zc<|za Tryz.results7 ?_
   refine ⟨h21, _, rfl, st23.done, ?_⟩
   refine zj ?_
   simp_all
  ·
   cases c26
 ·
  refine Y X X (d := 29) X<|v_field_addr X Tryz.underlying28 X Tryz.sizeOf26 X X<|Y X X (d := 29) X<|v_load_cells1 (j := 1) st23.sub (hc11.up (le16.trans le22)) X X X Tryz.isAgg26 X<|Y X X (d := 29) X<|v_len (x_f1.up (((le4.trans le10).trans le16).trans le22)) X Tryz.underlying26 X<|Y X X (d := 29) X<|v_eql X X X<|v_pickF (v := (.bool _)) X X X<|v_mvB X X ?_
  refine zk (d := 35) rfl (fun g27 => ?_) (fun g27 => ?_)
  ·
   replace g27 := of_decide_eq_true g27
   refine Z X X X X X<|Z X X X X X<|Z X X X X X<|Z X X X X X<|v_pickT (v := (.bool _)) X X X<|v_mvB X X<|Z X X X X X<|Z X X X X X<|v_pickT (v := (.bool _)) X X X<|M ?_
   refine zh rfl (fun c28 => ?_) (fun c28 => ?_)
   ·
    refine W.sr<|v_mvB X X<|v_asB X X<|M<|zq<|zc<|za Tryz.results7 ?_
    refine ⟨h21, _, rfl, st23.done, ?_⟩
    refine zj ?_
    simp_all
   ·
    cases c28
  ·
   replace g27 := of_decide_eq_false g27
   refine Y X X (d := 35) X<|v_field_addr X Tryz.underlying28 X Tryz.sizeOf26 X X<|Y X X (d := 35) X<|v_load_cells1 (j := 1) st23.sub (hc11.up (le16.trans le22)) X X X Tryz.isAgg26 X<|Y X X (d := 35) X<|v_len (x_f1.up (((le4.trans le10).trans le16).trans le22)) X Tryz.underlying26 X<|Y X X (d := 35) X<|v_gtr X X X<|v_pickF (v := (.bool _)) X X X<|v_mvB X X ?_
   refine zk (d := 41) rfl (fun g29 => ?_) (fun g29 => ?_)
   ·
    replace g29 := of_decide_eq_true g29
    refine Z X X X X X<|Z X X X X X<|v_pickT (v := (.bool _)) X X X<|M ?_
    refine zh rfl (fun c30 => ?_) (fun c30 => ?_)
    ·
     refine W.sr<|v_mvB X X<|v_asB X X<|M<|zq<|zc<|za Tryz.results7 ?_
     refine ⟨h21, _, rfl, st23.done, ?_⟩
     refine zj ?_
     simp_all
    ·
     cases c30
   ·
    replace g29 := of_decide_eq_false g29
    refine Y X X (d := 41) X<|v_mvB X X<|Y X X (d := 41) X<|v_not X X<|v_pickF (v := (.bool _)) X X X<|M ?_
    refine zh rfl (fun c31 => ?_) (fun c31 => ?_)
    ·
     cases c31
    ·
     refine zo<|U<|zl ?_
     obtain ⟨⟨hs1, hs2⟩, hx0⟩ : (smallT t = true ∧ smallX x = true) ∧ checkN t x = 0 := by simpa using g25
     have ht0 := check_text hx0
     have hok := okD_of hx0
     have hpl := places_len ht0
     have hpp := places_pos ht0
     have hdl := lexicon_20 hx0
     have hrl := lexicon_12 hx0
     have hd : ∃ y_, (x.decisions)[(which.toNat % x.decisions.length)]? = some y_ := ⟨_, List.getElem?_eq_getElem (by exact Nat.mod_lt _ (by omega))⟩
     obtain ⟨d, hd⟩ := hd
     obtain ⟨b32, o33, _, he35, hc34, hr_d⟩ := Sl.elem (x_f1.up (((le4.trans le10).trans le16).trans le22)) hd
     obtain ⟨rfl, lu36, ls37, ls38, lu39⟩ := hr_d
     simp only [big] at ls37
     simp only [big] at ls38
     refine zY (er := ([], [], [], [], 0)) (dsts := [46, 47, 48, 49, 50, 51, 52, 53, 54, 55, 8]) st23 Tryz.mixed<|zb 0 [] X t_kr t_kr X X (fun hD wD τD hL hS hO  => (zC X Tryz.underlying28 X Tryz.sizeOf26 X))<|zb 1 [0] X t_kr t_kr X X (fun hD wD τD hL hS hO _ _ => (zf (j := 1) (hL.sub hS) (hc11.up (le16.trans le22)) X X X Tryz.isAgg26))<|zb 2 [] X t_kr t_kr X X (fun hD wD τD hL hS hO  => (r_mvI X)) ?_
     refine zb 3 [0] rfl t_kr t_kr rfl rfl (fun hD wD τD hL hS hO _ _ => (r_conv_int rfl rfl Tryz.underlying3 (IntWalk.i64_in _ (by omega)))) ?_
     refine zb 4 [] X t_kr t_kr X X (fun hD wD τD hL hS hO  => (zC X Tryz.underlying28 X Tryz.sizeOf26 X))<|zb 5 [0] X t_kr t_kr X X (fun hD wD τD hL hS hO _ _ => (zf (j := 1) (hL.sub hS) (hc11.up (le16.trans le22)) X X X Tryz.isAgg26))<|zb 6 [0] X t_kr t_kr X X (fun hD wD τD hL hS hO _ _ => (r_len (x_f1.up (((le4.trans le10).trans le16).trans le22)) X Tryz.underlying26))<|zb 7 [3, 0] X t_kr t_kr X X (fun hD wD τD hL hS hO _ _ _ _ => (r_rem X X t_om)) ?_
     refine zb 8 [6, 0] rfl t_kr t_kr rfl rfl (fun hD wD τD hL hS hO _ _ _ _ => (zR he35 rfl rfl (hk := (show _ = (((which.toNat % x.decisions.length) : Nat) : Int) by exact tmod_nat (by omega))) (hu := Tryz.underlying26) (hz := Tryz.sizeOf34))) ?_
     refine zb 9 [0] X t_kr t_kr X X (fun hD wD τD hL hS hO _ _ => (zA (hL.sub hS) hc34 X Tryz.isAgg34 Tryz.sizeOf34 X))<|Drw.al Tryz.zeroValue34 X<|Drw.ch<|Drw.nil X X X X X X ⟨t_kr, X, t_kr, X, t_kr, X, X, t_kr, (cx_cons X cx_nil)⟩ ?_
     intro b40
     intro hE42 w43 _ le44 st45 _ _ _ _ _ _ _ _ _ _ _ _ _ _ _ _ _ _ _ _
     refine zp st45 (k := 0) X X X (E X (E X (E X (E X (E X (E X (E X (E X (E X zJ))))))))) Tryz.sizeOf34 X X X ?_
     intro w46 st47
     obtain ⟨h48, le49, hb50, st52⟩ := st47.freeze (k := 0) rfl
     have hc51 := Cells.of hb50
     refine zm ⟨undef, rfl, _, _, le49, st52, ?_⟩
     intro hE53 w54 _ le55 st56 _ _ _ _ _ _ _ _ _ _ _ _ _ _ _ _ _ _ _ _
     refine AllDeps.fin X<|U<|zl ?_
     have hdm : d ∈ x.decisions := List.mem_of_getElem? hd
     have hdn := hok.2 d hdm
     refine zg<|v_asI X X<|M<|zl<|W.sr<|v_field_addr X Tryz.underlying28 X Tryz.sizeOf26 X X<|v_load_cells1 (j := 1) st56.sub (hc11.up ((((le16.trans le22).trans le44).trans le49).trans le55)) X X X Tryz.isAgg26 X<|v_len (x_f1.up ((((((le4.trans le10).trans le16).trans le22).trans le44).trans le49).trans le55)) X Tryz.underlying26 X<|v_mvI X X<|M<|zw ?_
     refine zQ [6, 9, 11, 59, 60, 61, 62, 63, 64, 65, 66, 67, 68, 69, 70, 71, 72, 73, 74, 75, 76, 77, 78] (G := Nat × Heap) (fun ⟨k, h58⟩ => [(9, .int .i64 (mostN (x.decisions.take k))), (59, .int .i64 (k : Int))]) (fun ⟨k, h58⟩ w' => Le hE53 h58 ∧ St h w h58 w' [[]] ∧ (k ≤ x.decisions.length) ∧ (∀ o ∈ x.decisions.take k, o.kind = 4 → o.of_ ≠ d.number)) (fun ⟨k, h58⟩ => x.decisions.length - k) ⟨0, hE53⟩ ⟨rfl, rfl, trivial⟩ ⟨Le.refl _, st56, zZ, zZ⟩ ?_
     rintro ⟨k, h58⟩ _ w61 ⟨le59, st60, hk, hno⟩
     refine W.sr<|v_lss X X X<|M<|zl ?_
     refine zh rfl (fun c62 => ?_) (fun c62 => ?_)
     ·
      replace c62 := of_decide_eq_true c62
      refine zo<|U<|zl<|zw<|W.sr ?_
      have ho : ∃ y_, (x.decisions)[k]? = some y_ := ⟨_, List.getElem?_eq_getElem (by omega)⟩
      obtain ⟨o, ho⟩ := ho
      obtain ⟨b63, o64, _, he66, hc65, hr_o⟩ := Sl.elem (x_f1.up (((((((le4.trans le10).trans le16).trans le22).trans le44).trans le49).trans le55).trans le59)) ho
      obtain ⟨rfl, lu67, ls68, ls69, lu70⟩ := hr_o
      simp only [big] at ls68
      simp only [big] at ls69
      refine v_index_el he66 X X (hk := X) (hu := Tryz.underlying26) (hz := Tryz.sizeOf34) X<|v_load_call st60.sub hc65 X Tryz.isAgg34 Tryz.sizeOf34 X X<|zy st60 Tryz.zeroValue34 X X ?_
      intro b71 w72 st73
      refine zp st73 (k := 1) X X X (E X (E X (E X (E X (E X (E X (E X (E X (E X zJ))))))))) Tryz.sizeOf34 X X X ?_
      intro w74 st75
      obtain ⟨h76, le77, hb78, st80⟩ := st75.freeze (k := 1) rfl
      have hc79 := Cells.of hb78
      refine M<|W.sr<|v_mvI X X<|v_field_addr X Tryz.underlying34 X Tryz.sizeOf3 X X<|v_load_cells1 (j := 0) st80.sub hc79 X X X Tryz.isAgg3 X<|ze X X (r_max X X)<|v_asI X X<|M<|W.sr<|v_field_addr X Tryz.underlying34 X Tryz.sizeOf5 X X<|v_load_cells1 (j := 1) st80.sub hc79 X X X Tryz.isAgg5 X<|v_eql X X X<|v_mvB X X ?_
      refine zk (d := 70) rfl (fun g81 => ?_) (fun g81 => ?_)
      ·
       replace g81 := of_decide_eq_true g81
       refine Y X X (d := 70) X<|v_field_addr X Tryz.underlying34 X Tryz.sizeOf3 X X<|Y X X (d := 70) X<|v_load_cells1 (j := 8) st80.sub hc79 X X X Tryz.isAgg3 X<|Y X X (d := 70) X<|v_field_addr X Tryz.underlying34 X Tryz.sizeOf3 X X<|Y X X (d := 70) X<|v_load_cells1 (j := 0) st80.sub (hc51.up ((le55.trans le59).trans le77)) X X X Tryz.isAgg3 X<|Y X X (d := 70) X<|v_eql X X X<|v_pickT (v := (.bool _)) X X X<|M ?_
       refine zh rfl (fun c82 => ?_) (fun c82 => ?_)
       ·
        replace c82 := of_decide_eq_true c82
        refine W.sr<|v_mvB X X<|v_asB X X<|M<|zq<|zz<|zc<|zc<|zz<|zc<|za Tryz.results7 ?_
        refine ⟨h76, _, rfl, st80.done, ?_⟩
        refine zj ?_
        simp_all
       ·
        replace c82 := of_decide_eq_false c82
        refine zo<|zt<|U<|zg<|v_add X X t_om X<|v_mvI X X<|M ?_
        refine ⟨⟨k + 1, h76⟩, ⟨?_, rfl, trivial⟩, ?_, ⟨(le59.trans le77), st80.take 1, ?_, ?_⟩, ?_⟩
        ·exact zP (mostI_snoc ho)
        ·exact zU
        ·first | omega | (simp; omega)
        ·exact all_snoc hno ho (fun _ => c82)
        ·show x.decisions.length - ((k + 1)) < x.decisions.length - k
         omega
      ·
       replace g81 := of_decide_eq_false g81
       refine Z X X X X X<|Z X X X X X<|Z X X X X X<|Z X X X X X<|Z X X X X X<|v_pickF (v := (.bool _)) X X X<|M ?_
       refine zh rfl (fun c83 => ?_) (fun c83 => ?_)
       ·
        cases c83
       ·
        refine zo<|zt<|U<|zg<|v_add X X t_om X<|v_mvI X X<|M ?_
        refine ⟨⟨k + 1, h76⟩, ⟨?_, rfl, trivial⟩, ?_, ⟨(le59.trans le77), st80.take 1, ?_, ?_⟩, ?_⟩
        ·exact zP (mostI_snoc ho)
        ·exact zU
        ·first | omega | (simp; omega)
        ·exact all_snoc hno ho (fun q => absurd q g81)
        ·show x.decisions.length - ((k + 1)) < x.decisions.length - k
         omega
     ·
      replace c62 := of_decide_eq_false c62
      refine zS<|zi<|zi<|zM<|U<|zl<|W.sr<|v_mvI X X<|v_gtr X X X<|M ?_
      refine zh rfl (fun c84 => ?_) (fun c84 => ?_)
      ·
       replace c84 := of_decide_eq_true c84
       refine W.sr<|v_mvB X X<|v_asB X X<|M<|zq<|zc<|za Tryz.results7 ?_
       refine ⟨h58, _, rfl, st60.done, ?_⟩
       refine zj ?_
       simp_all
      ·
       replace c84 := of_decide_eq_false c84
       refine zo<|U<|zl ?_
       have hk2 : x.decisions.take k = x.decisions := List.take_of_length_le (by omega)
       have hno2 : ∀ o ∈ x.decisions, o.kind = 4 → o.of_ ≠ d.number := by rw [hk2] at hno; exact hno
       have hm1 : ∀ o ∈ x.decisions, o.number ≤ (mostN (x.decisions.take k)) := by intro o ho; rw [hk2]; exact mostN_ge ho
       have hm2 := hm1 d hdm
       obtain ⟨ha1, ha2, hy0⟩ := add_zero hx0 (d := (voidD ((mostN (x.decisions.take k)) + 1) d.number)) (by omega) (void_dec (by omega) (by omega) (by omega)) (fun e he q => by have q1 := hm1 e he; have q2 : e.number = (mostN (x.decisions.take k)) + 1 := q; omega)
       obtain ⟨y, hy⟩ : ∃ y, y = addX x (voidD ((mostN (x.decisions.take k)) + 1) d.number) := ⟨_, rfl⟩
       rw [← hy] at hy0
       have hyd : y.decisions.length = x.decisions.length + 1 := by rw [hy, (addX_perm x _).length_eq]; simp
       have hyl := lexicon_20 hy0
       have hyr := lexicon_12 hy0
       have hym : ∀ e ∈ y.decisions, e.number ≤ (mostN (x.decisions.take k)) + 1 := by
        intro e he
        rw [hy] at he
        rcases mem_addX.1 he with q | rfl
        ·have := hm1 e q; omega
        ·exact Int.le_refl _
       obtain ⟨hb1, hb2, hz0⟩ := add_zero hy0 (d := (voidD ((mostN (x.decisions.take k)) + 2) ((mostN (x.decisions.take k)) + 1))) (by omega) (void_dec (by omega) (by omega) (by omega)) (fun e he q => by have q1 := hym e he; have q2 : e.number = (mostN (x.decisions.take k)) + 2 := q; omega)
       obtain ⟨z, hz⟩ : ∃ z, z = addX y (voidD ((mostN (x.decisions.take k)) + 2) ((mostN (x.decisions.take k)) + 1)) := ⟨_, rfl⟩
       rw [← hz] at hz0
       have hzl := lexicon_20 hz0
       have hzr := lexicon_12 hz0
       have hv1 : headsL t y = headsL t (lessX x d.number) := heads_of (by rw [hy]; exact void_one hok hdm hno2 hm1 (by rw [← hy]; exact okD_of hy0))
       have hv2 : headsL t z = headsL t x := heads_of (by rw [hz, hy, show (mostN (x.decisions.take k)) + 2 = (mostN (x.decisions.take k)) + 1 + 1 by omega]; exact void_two hok (n := (mostN (x.decisions.take k)) + 1) (o := d.number) (fun e he => by have := hm1 e he; omega) (by omega) (by omega) (by rw [← hy]; exact okD_of hy0) (by rw [← hy, show (mostN (x.decisions.take k)) + 1 + 1 = (mostN (x.decisions.take k)) + 2 by omega, ← hz]; exact okD_of hz0))
       refine zg<|v_load_call st60.sub (hc5.up ((((((le10.trans le16).trans le22).trans le44).trans le49).trans le55).trans le59)) X Tryz.isAgg24 Tryz.sizeOf24 X X<|v_load_call st60.sub (hc11.up (((((le16.trans le22).trans le44).trans le49).trans le55).trans le59)) X Tryz.isAgg28 Tryz.sizeOf28 X X<|v_mvI X X<|v_add X X t_om X<|v_field_addr X Tryz.underlying34 X Tryz.sizeOf3 X X<|v_load_cells1 (j := 0) st60.sub (hc51.up (le55.trans le59)) X X X Tryz.isAgg3 X<|ze X X (zX (cs := [.int .i64 ((mostN (x.decisions.take k)) + 1), .int .u8 4, strV [], .int .i64 0, .int .i64 0, .int .i64 0, strV [], .int .u8 0, .int .i64 (d.number)]) t_kr) ?_
       have con := (c_stem_Add st60.sub (t := t) (t_f0.up (((((((le4.trans le10).trans le16).trans le22).trans le44).trans le49).trans le55).trans le59)) (x := x) (x_f0.up (((((((le4.trans le10).trans le16).trans le22).trans le44).trans le49).trans le55).trans le59)) (x_f1.up (((((((le4.trans le10).trans le16).trans le22).trans le44).trans le49).trans le55).trans le59)) (d := ({ zDecision with number := ((mostN (x.decisions.take k)) + 1), kind := 4, of_ := (d.number) } : Decision)) (by first | assumption | decide | omega | (simp [zDecision, zHead]; done) | (dsimp only; omega) | (simp; omega)) (by first | assumption | (simp [zDecision, zHead, big]; done) | (simp [zDecision, zHead, big]; omega) | omega) (by first | assumption | (simp [zDecision, zHead, big]; done) | (simp [zDecision, zHead, big]; omega) | omega) (by first | assumption | decide | omega | (simp [zDecision, zHead]; done) | (dsimp only; omega) | (simp; omega)) (K0.up (((((((le4.trans le10).trans le16).trans le22).trans le44).trans le49).trans le55).trans le59)))
       rw [show addN t x { zDecision with number := (mostN (x.decisions.take k)) + 1, kind := 4, of_ := d.number } = y from ha2.trans hy.symm, show addE t x { zDecision with number := (mostN (x.decisions.take k)) + 1, kind := 4, of_ := d.number } = 0 from ha1] at con
       refine zK rfl rfl (zW rfl Tryz.call16 rfl) (con.mono ?_)
       rintro _ w85 ⟨h86, v90, v93, o91, o94, rfl, le87, s89, f92, f95⟩
       refine ⟨_, rfl, ?_⟩
       have st88 := st60.call s89
       clear con
       refine v_mvT X X<|v_extract (v := (.agg (List.toArray _))) X X X<|v_extract (v := (.int _ _)) X X X<|zy st88 Tryz.zeroValue28 X X ?_
       intro b96 w97 st98
       refine zp st98 (k := 3) X X X (E f92.one (E f95.one zJ)) Tryz.sizeOf28 X X X ?_
       intro w99 st100
       obtain ⟨h101, le102, hb103, st105⟩ := st100.freeze (k := 3) rfl
       have hc104 := Cells.of hb103
       refine v_asI X X<|M<|W.sr<|v_load_call st105.sub (hc5.up ((((((((le10.trans le16).trans le22).trans le44).trans le49).trans le55).trans le59).trans le87).trans le102)) X Tryz.isAgg24 Tryz.sizeOf24 X X<|v_load_call st105.sub hc104 X Tryz.isAgg28 Tryz.sizeOf28 X X<|v_mvI X X<|v_add X X t_om X<|v_mvI X X<|v_add X X t_om X<|ze X X (zX (cs := [.int .i64 ((mostN (x.decisions.take k)) + 2), .int .u8 4, strV [], .int .i64 0, .int .i64 0, .int .i64 0, strV [], .int .u8 0, .int .i64 ((mostN (x.decisions.take k)) + 1)]) t_kr) ?_
       obtain ⟨h106, le107, f108, st109⟩ := OSl.freeze (k := 1) st105 (f92.up le102) rfl (by omega)
       obtain ⟨h110, le111, f112, st113⟩ := OSl.freeze (k := 2) st109 (f95.up (le102.trans le107)) rfl (by omega)
       have con := (c_stem_Add st113.sub (t := t) (t_f0.up (((((((((((le4.trans le10).trans le16).trans le22).trans le44).trans le49).trans le55).trans le59).trans le87).trans le102).trans le107).trans le111)) (x := (Lexicon.mk ((y).rules) ((y).decisions))) (f108.up le111) f112 (d := ({ zDecision with number := ((mostN (x.decisions.take k)) + 2), kind := 4, of_ := ((mostN (x.decisions.take k)) + 1) } : Decision)) (by first | assumption | decide | omega | (simp [zDecision, zHead]; done) | (dsimp only; omega) | (simp; omega)) (by first | assumption | (simp [zDecision, zHead, big]; done) | (simp [zDecision, zHead, big]; omega) | omega) (by first | assumption | (simp [zDecision, zHead, big]; done) | (simp [zDecision, zHead, big]; omega) | omega) (by first | assumption | decide | omega | (simp [zDecision, zHead]; done) | (dsimp only; omega) | (simp; omega)) (K0.up (((((((((((le4.trans le10).trans le16).trans le22).trans le44).trans le49).trans le55).trans le59).trans le87).trans le102).trans le107).trans le111)))
       rw [show addN t y { zDecision with number := (mostN (x.decisions.take k)) + 2, kind := 4, of_ := (mostN (x.decisions.take k)) + 1 } = z from hb2.trans hz.symm, show addE t y { zDecision with number := (mostN (x.decisions.take k)) + 2, kind := 4, of_ := (mostN (x.decisions.take k)) + 1 } = 0 from hb1] at con
       refine zK rfl rfl (zW rfl Tryz.call16 rfl) (con.mono ?_)
       rintro _ w114 ⟨h115, v119, v122, o120, o123, rfl, le116, s118, f121, f124⟩
       refine ⟨_, rfl, ?_⟩
       have st117 := st113.call s118
       clear con
       refine v_mvT X X<|v_extract (v := (.agg (List.toArray _))) X X X<|v_extract (v := (.int _ _)) X X X<|zy st117 Tryz.zeroValue28 X X ?_
       intro b125 w126 st127
       refine zp st127 (k := 6) X X X (E f121.one (E f124.one zJ)) Tryz.sizeOf28 X X X ?_
       intro w128 st129
       obtain ⟨h130, le131, hb132, st134⟩ := st129.freeze (k := 6) rfl
       have hc133 := Cells.of hb132
       refine v_asI X X<|M<|zl<|W.sr<|v_mvI X X<|v_neq X X X<|v_mvB X X ?_
       refine zk (d := 106) rfl (fun g135 => ?_) (fun g135 => ?_)
       ·
        replace g135 := of_decide_eq_true g135
        refine Z X X X X X<|Z X X X X X<|v_pickT (v := (.bool _)) X X X<|v_mvB X X<|Z X X X X X<|Z X X X X X<|Z X X X X X<|Z X X X X X<|v_pickT (v := (.bool _)) X X X<|v_mvB X X<|Z X X X X X<|Z X X X X X<|Z X X X X X<|Z X X X X X<|v_pickT (v := (.bool _)) X X X<|M ?_
        refine zh rfl (fun c136 => ?_) (fun c136 => ?_)
        ·
         refine W.sr<|v_asB X X<|M<|zq<|zc<|za Tryz.results7 ?_
         refine ⟨h130, _, rfl, st134.done, ?_⟩
         refine zj ?_
         simp_all
        ·
         cases c136
       ·
        replace g135 := of_decide_eq_false g135
        refine Y X X (d := 106) X<|v_mvI X X<|Y X X (d := 106) X<|v_neq X X X<|v_pickF (v := (.bool _)) X X X<|v_mvB X X ?_
        refine zk (d := 110) rfl (fun g137 => ?_) (fun g137 => ?_)
        ·
         replace g137 := of_decide_eq_true g137
         refine Z X X X X X<|Z X X X X X<|Z X X X X X<|Z X X X X X<|v_pickT (v := (.bool _)) X X X<|v_mvB X X<|Z X X X X X<|Z X X X X X<|Z X X X X X<|Z X X X X X<|v_pickT (v := (.bool _)) X X X<|M ?_
         refine zh rfl (fun c138 => ?_) (fun c138 => ?_)
         ·
          refine W.sr<|v_asB X X<|M<|zq<|zc<|za Tryz.results7 ?_
          refine ⟨h130, _, rfl, st134.done, ?_⟩
          refine zj ?_
          simp_all
         ·
          cases c138
        ·
         replace g137 := of_decide_eq_false g137
         refine Y X X (d := 110) X<|v_load_call st134.sub (hc5.up ((((((((((((le10.trans le16).trans le22).trans le44).trans le49).trans le55).trans le59).trans le87).trans le102).trans le107).trans le111).trans le116).trans le131)) X Tryz.isAgg24 Tryz.sizeOf24 X X<|Y X X (d := 110) X<|v_load_call st134.sub (hc104.up (((le107.trans le111).trans le116).trans le131)) X Tryz.isAgg28 Tryz.sizeOf28 X X<|Y X X (d := 110) X ?_
         have con := (zae st134.sub (t := t) (t_f0.up (((((((((((((le4.trans le10).trans le16).trans le22).trans le44).trans le49).trans le55).trans le59).trans le87).trans le102).trans le107).trans le111).trans le116).trans le131)) (x := (y)) (f108.up ((le111.trans le116).trans le131)) (f112.up (le116.trans le131)))
         rw [ready_ok hs1 hy0] at con
         refine O st134 X X X Tryz.call14 X con ?_
         intro r139 w140 h141 le142 st143 q144
         obtain rfl := q144
         clear con
         refine Y X X (d := 110) X<|v_not X X<|v_pickF (v := (.bool _)) X X X<|v_mvB X X<|Y X X (d := 116) X<|v_load_call st143.sub (hc5.up (((((((((((((le10.trans le16).trans le22).trans le44).trans le49).trans le55).trans le59).trans le87).trans le102).trans le107).trans le111).trans le116).trans le131).trans le142)) X Tryz.isAgg24 Tryz.sizeOf24 X X<|Y X X (d := 116) X<|v_load_call st143.sub (hc133.up le142) X Tryz.isAgg28 Tryz.sizeOf28 X X<|Y X X (d := 116) X ?_
         obtain ⟨h145, le146, f147, st148⟩ := OSl.freeze (k := 4) st143 (f121.up (le131.trans le142)) rfl (by omega)
         obtain ⟨h149, le150, f151, st152⟩ := OSl.freeze (k := 5) st148 (f124.up ((le131.trans le142).trans le146)) rfl (by omega)
         have con := (zae st152.sub (t := t) (t_f0.up ((((((((((((((((le4.trans le10).trans le16).trans le22).trans le44).trans le49).trans le55).trans le59).trans le87).trans le102).trans le107).trans le111).trans le116).trans le131).trans le142).trans le146).trans le150)) (x := (Lexicon.mk ((z).rules) ((z).decisions))) (f147.up le150) f151)
         rw [ready_ok hs1 hz0] at con
         refine O st152 X X X Tryz.call14 X con ?_
         intro r153 w154 h155 le156 st157 q158
         obtain rfl := q158
         clear con
         refine Y X X (d := 116) X<|v_not X X<|v_pickF (v := (.bool _)) X X X<|M ?_
         refine zh rfl (fun c159 => ?_) (fun c159 => ?_)
         ·
          cases c159
         ·
          refine zo<|U<|W.sr<|v_load_call st157.sub (hc5.up ((((((((((((((((le10.trans le16).trans le22).trans le44).trans le49).trans le55).trans le59).trans le87).trans le102).trans le107).trans le111).trans le116).trans le131).trans le142).trans le146).trans le150).trans le156)) X Tryz.isAgg24 Tryz.sizeOf24 X X<|v_load_call st157.sub (hc11.up (((((((((((((((le16.trans le22).trans le44).trans le49).trans le55).trans le59).trans le87).trans le102).trans le107).trans le111).trans le116).trans le131).trans le142).trans le146).trans le150).trans le156)) X Tryz.isAgg28 Tryz.sizeOf28 X X ?_
          refine O st157 rfl rfl rfl Tryz.call17 rfl (zag st157.sub (t := t) (t_f0.up (((((((((((((((((le4.trans le10).trans le16).trans le22).trans le44).trans le49).trans le55).trans le59).trans le87).trans le102).trans le107).trans le111).trans le116).trans le131).trans le142).trans le146).trans le150).trans le156)) (x := x) (x_f0.up (((((((((((((((((le4.trans le10).trans le16).trans le22).trans le44).trans le49).trans le55).trans le59).trans le87).trans le102).trans le107).trans le111).trans le116).trans le131).trans le142).trans le146).trans le150).trans le156)) (x_f1.up (((((((((((((((((le4.trans le10).trans le16).trans le22).trans le44).trans le49).trans le55).trans le59).trans le87).trans le102).trans le107).trans le111).trans le116).trans le131).trans le142).trans le146).trans le150).trans le156)) (K0.up (((((((((((((((((le4.trans le10).trans le16).trans le22).trans le44).trans le49).trans le55).trans le59).trans le87).trans le102).trans le107).trans le111).trans le116).trans le131).trans le142).trans le146).trans le150).trans le156)) (by exact hx0)) ?_
          intro r160 w161 h162 le163 st164 q165
          obtain ⟨v166, rfl, f167⟩ := q165
          have f167_b := f167.le
          refine v_mvT X X<|v_extract (v := v166) X X X<|v_extract (v := (.bool _)) X X X<|v_assign (v := v166) X X<|v_asB X X<|M<|W.sr<|v_load_call st164.sub (hc5.up (((((((((((((((((le10.trans le16).trans le22).trans le44).trans le49).trans le55).trans le59).trans le87).trans le102).trans le107).trans le111).trans le116).trans le131).trans le142).trans le146).trans le150).trans le156).trans le163)) X Tryz.isAgg24 Tryz.sizeOf24 X X<|v_load_call st164.sub (hc104.up ((((((((le107.trans le111).trans le116).trans le131).trans le142).trans le146).trans le150).trans le156).trans le163)) X Tryz.isAgg28 Tryz.sizeOf28 X X ?_
          refine O st164 rfl rfl rfl Tryz.call17 rfl (zag st164.sub (t := t) (t_f0.up ((((((((((((((((((le4.trans le10).trans le16).trans le22).trans le44).trans le49).trans le55).trans le59).trans le87).trans le102).trans le107).trans le111).trans le116).trans le131).trans le142).trans le146).trans le150).trans le156).trans le163)) (x := (y)) (f108.up (((((((le111.trans le116).trans le131).trans le142).trans le146).trans le150).trans le156).trans le163)) (f112.up ((((((le116.trans le131).trans le142).trans le146).trans le150).trans le156).trans le163)) (K0.up ((((((((((((((((((le4.trans le10).trans le16).trans le22).trans le44).trans le49).trans le55).trans le59).trans le87).trans le102).trans le107).trans le111).trans le116).trans le131).trans le142).trans le146).trans le150).trans le156).trans le163)) (by exact hy0)) ?_
          intro r168 w169 h170 le171 st172 q173
          obtain ⟨v174, rfl, f175⟩ := q173
          have f175_b := f175.le
          refine v_mvT X X<|v_extract (v := v174) X X X<|v_extract (v := (.bool _)) X X X<|v_assign (v := v174) X X<|v_asB X X<|M<|W.sr<|v_load_call st172.sub (hc5.up ((((((((((((((((((le10.trans le16).trans le22).trans le44).trans le49).trans le55).trans le59).trans le87).trans le102).trans le107).trans le111).trans le116).trans le131).trans le142).trans le146).trans le150).trans le156).trans le163).trans le171)) X Tryz.isAgg24 Tryz.sizeOf24 X X<|v_load_call st172.sub (hc133.up (((((le142.trans le146).trans le150).trans le156).trans le163).trans le171)) X Tryz.isAgg28 Tryz.sizeOf28 X X ?_
          refine O st172 rfl rfl rfl Tryz.call17 rfl (zag st172.sub (t := t) (t_f0.up (((((((((((((((((((le4.trans le10).trans le16).trans le22).trans le44).trans le49).trans le55).trans le59).trans le87).trans le102).trans le107).trans le111).trans le116).trans le131).trans le142).trans le146).trans le150).trans le156).trans le163).trans le171)) (x := (z)) (f147.up (((le150.trans le156).trans le163).trans le171)) (f151.up ((le156.trans le163).trans le171)) (K0.up (((((((((((((((((((le4.trans le10).trans le16).trans le22).trans le44).trans le49).trans le55).trans le59).trans le87).trans le102).trans le107).trans le111).trans le116).trans le131).trans le142).trans le146).trans le150).trans le156).trans le163).trans le171)) (by exact hz0)) ?_
          intro r176 w177 h178 le179 st180 q181
          obtain ⟨v182, rfl, f183⟩ := q181
          have f183_b := f183.le
          refine v_mvT X X<|v_extract (v := v182) X X X<|v_extract (v := (.bool _)) X X X<|v_assign (v := v182) X X<|v_asB X X<|M<|zl<|zY (er := ([], [], [], [], 0)) (dsts := [141, 142, 143, 144, 145, 146, 140, 147, 148, 22, 23]) st180 Tryz.mixed<|zb 0 [] X t_kr t_kr X X (fun hD wD τD hL hS hO  => (zA (hL.sub hS) (hc5.up (((((((((((((((((((le10.trans le16).trans le22).trans le44).trans le49).trans le55).trans le59).trans le87).trans le102).trans le107).trans le111).trans le116).trans le131).trans le142).trans le146).trans le150).trans le156).trans le163).trans le171).trans le179)) X Tryz.isAgg24 Tryz.sizeOf24 X))<|zb 1 [] X t_kr t_kr X X (fun hD wD τD hL hS hO  => (zA (hL.sub hS) (hc11.up ((((((((((((((((((le16.trans le22).trans le44).trans le49).trans le55).trans le59).trans le87).trans le102).trans le107).trans le111).trans le116).trans le131).trans le142).trans le146).trans le150).trans le156).trans le163).trans le171).trans le179)) X Tryz.isAgg28 Tryz.sizeOf28 X))<|zb 2 [] X t_kr t_kr X X (fun hD wD τD hL hS hO  => (zC X Tryz.underlying34 X Tryz.sizeOf3 X))<|zb 3 [0] X t_kr t_kr X X (fun hD wD τD hL hS hO _ _ => (zf (j := 0) (hL.sub hS) (hc51.up ((((((((((((((le55.trans le59).trans le87).trans le102).trans le107).trans le111).trans le116).trans le131).trans le142).trans le146).trans le150).trans le156).trans le163).trans le171).trans le179)) X X X Tryz.isAgg3)) ?_
          refine zI 4 (.res (fun h' res_ => ∃ gv4_0 gv4_1, res_ = .agg #[gv4_0, gv4_1] ∧ Sl LRule h' gv4_0 ((lessX (x) ((d.number)))).rules ∧ Sl LDecision h' gv4_1 ((lessX (x) ((d.number)))).decisions) (by rintro _ _ _ hl ⟨gv4_0, gv4_1, e_, gf4_0, gf4_1⟩; exact ⟨gv4_0, gv4_1, e_, gf4_0.up hl, gf4_1.up hl⟩)) [2, 0] rfl t_kr t_kr ?_ ?_
          ·
           intro hD wD τD hL hS hO _ _ _ _
           have st184 := St.start hS
           refine O st184 rfl rfl rfl Tryz.call36 rfl (c_postilref04_Without st184.sub (x := x) (x_f0.up (((((((((((((((((((((le4.trans le10).trans le16).trans le22).trans le44).trans le49).trans le55).trans le59).trans le87).trans le102).trans le107).trans le111).trans le116).trans le131).trans le142).trans le146).trans le150).trans le156).trans le163).trans le171).trans le179).trans hL)) (x_f1.up (((((((((((((((((((((le4.trans le10).trans le16).trans le22).trans le44).trans le49).trans le55).trans le59).trans le87).trans le102).trans le107).trans le111).trans le116).trans le131).trans le142).trans le146).trans le150).trans le156).trans le163).trans le171).trans le179).trans hL)) _ (by omega)) ?_
           intro r185 w186 h187 le188 st189 q190
           obtain ⟨v191, v193, rfl, f192, f194⟩ := q190
           have f192_b := f192.le
           have f194_b := f194.le
           exact zm ⟨_, _, rfl, st189, _, rfl, ⟨_, _, rfl, f192, f194⟩⟩
          refine zI 5 (.res (fun h' res_ => ∃ gv5_0, res_ = .tuple #[gv5_0, .bool true] ∧ Sl LHead h' gv5_0 ((headsL (t) ((lessX (x) ((d.number))))))) (by rintro _ _ _ hl ⟨gv5_0, e_, gf5_0⟩; exact ⟨gv5_0, e_, gf5_0.up hl⟩)) [4, 0] rfl t_kr t_kr ?_ ?_
          ·
           intro hD wD τD hL hS hO _ _ gv4_ gf4_
           obtain ⟨gv4_0, gv4_1, rfl, gf4_0, gf4_1⟩ := gf4_
           have st195 := St.start hS
           refine O st195 rfl rfl rfl Tryz.call17 rfl (zag st195.sub (t := t) (t_f0.up (((((((((((((((((((((le4.trans le10).trans le16).trans le22).trans le44).trans le49).trans le55).trans le59).trans le87).trans le102).trans le107).trans le111).trans le116).trans le131).trans le142).trans le146).trans le150).trans le156).trans le163).trans le171).trans le179).trans hL)) (x := (lessX (x) ((d.number)))) gf4_0 gf4_1 (K0.up (((((((((((((((((((((le4.trans le10).trans le16).trans le22).trans le44).trans le49).trans le55).trans le59).trans le87).trans le102).trans le107).trans le111).trans le116).trans le131).trans le142).trans le146).trans le150).trans le156).trans le163).trans le171).trans le179).trans hL)) (by exact lessX_check hx0 _)) ?_
           intro r196 w197 h198 le199 st200 q201
           obtain ⟨v202, rfl, f203⟩ := q201
           have f203_b := f203.le
           exact zm ⟨_, _, rfl, st200, _, rfl, ⟨_, rfl, f203⟩⟩
          refine zI 6 (.res (fun h' res_ => ∃ gv6_0, res_ = .tuple #[gv6_0, .bool true] ∧ Sl LHead h' gv6_0 (((headsL (t) ((lessX (x) ((d.number)))))))) (by rintro _ _ _ hl ⟨gv6_0, e_, gf6_0⟩; exact ⟨gv6_0, e_, gf6_0.up hl⟩)) [0] rfl t_kr t_kr ?_ ?_
          ·
           intro hD wD τD hL hS hO gv5_ gf5_
           obtain ⟨gv5_0, rfl, gf5_0⟩ := gf5_
           have st204 := St.start hS
           refine v_mvT X X ?_
           exact zm ⟨_, _, rfl, st204, _, rfl, ⟨_, rfl, gf5_0⟩⟩
          refine zI 7 (.res (fun h' res_ => Sl LHead h' res_ ((((headsL (t) ((lessX (x) ((d.number))))))))) (fun _ _ _ hl f => f.up hl)) [0] rfl t_kr t_kr ?_ ?_
          ·
           intro hD wD τD hL hS hO gv6_ gf6_
           obtain ⟨gv6_0, rfl, gf6_0⟩ := gf6_
           have st205 := St.start hS
           refine v_extract (v := gv6_0) X X X ?_
           exact zm ⟨_, _, rfl, st205, _, rfl, gf6_0⟩
          refine zI 8 (.det (.bool true)) [1] rfl t_kr t_kr ?_ ?_
          ·
           intro hD wD τD hL hS hO gv6_ gf6_
           obtain ⟨gv6_0, rfl, gf6_0⟩ := gf6_
           have st206 := St.start hS
           refine v_extract (v := (.bool _)) X X X ?_
           exact zm ⟨_, _, rfl, st206, (), rfl, trivial⟩
          refine zI 9 (.res (fun h' res_ => Sl LHead h' res_ (((((headsL (t) ((lessX (x) ((d.number)))))))))) (fun _ _ _ hl f => f.up hl)) [8, 7, 6, 5, 4, 3, 2, 1] rfl t_kr t_kr ?_ ?_
          ·
           intro hD wD τD hL hS hO _ _ _ _ _ _ _ _ gv4_ gf4_ gv5_ gf5_ gv6_ gf6_ gv7_0 gf7_0
           obtain ⟨gv4_0, gv4_1, rfl, gf4_0, gf4_1⟩ := gf4_
           obtain ⟨gv5_0, rfl, gf5_0⟩ := gf5_
           obtain ⟨gv6_0, rfl, gf6_0⟩ := gf6_
           have st207 := St.start hS
           refine v_assign (v := gv7_0) X X ?_
           exact zm ⟨_, _, rfl, st207, _, rfl, gf7_0⟩
          refine zb 10 [9, 8, 7, 6, 5, 4, 3, 2, 1, 0] X t_kr t_kr X X (fun hD wD τD hL hS hO _ _ _ _ _ _ _ _ gv4_ gf4_ gv5_ gf5_ gv6_ gf6_ gv7_0 gf7_0 _ _ gv9_0 gf9_0 => (r_asB X))<|Drw.nil X X X X X X ⟨t_kr, X, t_kr, X, t_kr, X, X, t_kr, cx_nil⟩ ?_
          intro hE208 w209 _ le210 st211 _ _ _ _ _ _ _ _ gv4_x212 gf4_x212 gv5_x212 gf5_x212 gv6_x212 gf6_x212 gv7_0x212 gf7_0x212 _ _ gv9_0x212 gf9_0x212 _ _
          obtain ⟨gv4_0x212, gv4_1x212, rfl, gf4_0x212, gf4_1x212⟩ := gf4_x212
          obtain ⟨gv5_0x212, rfl, gf5_0x212⟩ := gf5_x212
          obtain ⟨gv6_0x212, rfl, gf6_0x212⟩ := gf6_x212
          refine AllDeps.fin X<|U<|W.sr<|v_mvB X X<|v_mvB X X<|Y X X (d := 150) X<|v_mvB X X<|v_pickT (v := (.bool _)) X X X<|v_mvB X X<|Y X X (d := 153) X<|v_mvB X X<|v_pickT (v := (.bool _)) X X X<|v_mvB X X<|Y X X (d := 156) X<|v_mvB X X<|v_pickT (v := (.bool _)) X X X<|v_mvB X X<|Y X X (d := 159) X<|v_mvB X X<|v_pickT (v := (.bool _)) X X X<|v_mvB X X<|Y X X (d := 162) X<|v_move (v := v174) X X<|Y X X (d := 162) X<|v_move (v := gv9_0x212) X X<|Y X X (d := 162) X<|O st211 X X X Tryz.call26 X (c_postilref04_SameHeads st211.sub (f175.up (le179.trans le210)) gf9_0x212) ?_
          intro r213 w214 h215 le216 st217 q218
          obtain rfl := q218
          refine v_pickT (v := (.bool _)) X X X<|v_mvB X X ?_
          refine zk (d := 167) rfl (fun g219 => ?_) (fun g219 => ?_)
          ·
           refine Y X X (d := 167) X<|v_move (v := v182) X X<|Y X X (d := 167) X<|v_move (v := v166) X X<|Y X X (d := 167) X<|O st217 X X X Tryz.call26 X (c_postilref04_SameHeads st217.sub (f183.up (le210.trans le216)) (f167.up (((le171.trans le179).trans le210).trans le216))) ?_
           intro r220 w221 h222 le223 st224 q225
           obtain rfl := q225
           refine v_pickT (v := (.bool _)) X X X<|v_asB X X<|M<|zq<|za Tryz.results7 ?_
           refine ⟨h222, _, rfl, st224.done, ?_⟩
           refine zj ?_
           simp_all
          ·
           exfalso
           have sure_ : ((decide (((headsL (t) ((y)))) = ((((((headsL (t) ((lessX (x) ((d.number))))))))))))) = true := by exact decide_eq_true hv1
           simp_all
end Go.Pk
