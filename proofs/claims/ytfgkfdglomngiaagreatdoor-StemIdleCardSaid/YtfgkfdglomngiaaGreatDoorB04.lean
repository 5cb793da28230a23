/- A PART OF THE PROOF: contracts of functions, each walked once (much of it printed by a program of the author's own). -/
import Derived.Test.YtfgkfdglomngiaaGreatDoorT10
import Derived.Test.YtfgkfdglomngiaaGreatDoorT3
set_option linter.unusedSimpArgs false
set_option linter.unusedVariables false
namespace Go.Pk
open Go Go.RowKit Go.Proofs
set_option maxRecDepth 4000 in
set_option maxHeartbeats 4000000 in
theorem c_postillaw04_StemIdle {h : Heap} {w : World} (hs : Sub h w) {t : Text} {t_v0 : Value} (t_f0 : Sl LChapter h t_v0 t.chapters) {x : Lexicon} {x_v0 : Value} (x_f0 : Sl LRule h x_v0 x.rules) {x_v1 : Value} (x_f1 : Sl LDecision h x_v1 x.decisions) (which : Int) (which_l : 0 ≤ which ∧ which ≤ 255) {to : Head} (to_l1 : to.stem.length ≤ 281474976710656) (to_l2 : 0 ≤ to.mark ∧ to.mark ≤ 255) (K0 : Cells h 0 0 Tryz.glob0) : Calls Tryz.prog 8 #[.agg #[t_v0], .agg #[x_v0, x_v1], .int .u8 which, .agg #[strV to.stem, .int .u8 to.mark]] w (Rets h w (fun _ _ res_ => res_ = .bool (true))) := by
 refine zB (n := 201) (args := [.agg #[t_v0], .agg #[x_v0, x_v1], .int .u8 which, .agg #[strV to.stem, .int .u8 to.mark]]) Tryz.func8 X X X ?_
 have st0 : St h w h w [] := St.start hs
 have t_f0_b := t_f0.le
 have x_f0_b := x_f0.le
 have x_f1_b := x_f1.le
 refine W.sr<|zn st0 (cs := [t_v0]) X X X ?_
 intro b1 w2 h3 le4 hc5 st6
 refine zn st6 (cs := [x_v0, x_v1]) X X X ?_
 intro b7 w8 h9 le10 hc11 st12
 refine zn st12 (cs := [strV (to.stem), .int .u8 (to.mark)]) X X X ?_
 intro b13 w14 h15 le16 hc17 st18
 refine v_asB X X<|M<|W.sr<|O st18 X X X Tryz.call13 X (c_postillaw04_alive st18.sub (K0.up ((le4.trans le10).trans le16))) ?_
 intro r19 w20 h21 le22 st23 q24
 obtain rfl := q24
 refine v_asB X X<|M<|zl<|W.sr<|v_load_call st23.sub (hc5.up ((le10.trans le16).trans le22)) X Tryz.isAgg24 Tryz.sizeOf24 X X<|v_load_call st23.sub (hc11.up (le16.trans le22)) X Tryz.isAgg28 Tryz.sizeOf28 X X<|O st23 X X X Tryz.call14 X (zae st23.sub (t := t) (t_f0.up (((le4.trans le10).trans le16).trans le22)) (x := x) (x_f0.up (((le4.trans le10).trans le16).trans le22)) (x_f1.up (((le4.trans le10).trans le16).trans le22))) ?_
 intro r25 w26 h27 le28 st29 q30
 obtain rfl := q30
 refine v_not X X<|v_mvB X X ?_
 refine zk (d := 36) rfl (fun g31 => ?_) (fun g31 => ?_)
 ·
  refine Z X X X X X<|Z X X X X X<|Z X X X X X<|Z X X X X X<|v_pickT (v := (.bool _)) X X X<|v_mvB X X<|Z X X X X X<|Z X X X X X<|v_pickT (v := (.bool _)) X X X<|M ?_
  refine zh rfl (fun c32 => ?_) (fun c32 => ?_)
  ·
   refine W.sr<|v_mvB X X<|v_asB X X<|M<|zq<|zc<|za Tryz.results8 ?_
   refine ⟨h27, _, rfl, st29.done, ?_⟩
   refine zj ?_
   first | (simp_all; done) | (rw [List.take_of_length_le (by omega)]; simp [hag])
  ·
   cases c32
 ·
  refine Y X X (d := 36) X<|v_field_addr X Tryz.underlying28 X Tryz.sizeOf26 X X<|Y X X (d := 36) X<|v_load_cells1 (j := 1) st29.sub (hc11.up ((le16.trans le22).trans le28)) X X X Tryz.isAgg26 X<|Y X X (d := 36) X<|v_len (x_f1.up ((((le4.trans le10).trans le16).trans le22).trans le28)) X Tryz.underlying26 X<|Y X X (d := 36) X<|v_eql X X X<|v_pickF (v := (.bool _)) X X X<|v_mvB X X ?_
  refine zk (d := 42) rfl (fun g33 => ?_) (fun g33 => ?_)
  ·
   replace g33 := of_decide_eq_true g33
   refine Z X X X X X<|Z X X X X X<|v_pickT (v := (.bool _)) X X X<|M ?_
   refine zh rfl (fun c34 => ?_) (fun c34 => ?_)
   ·
    refine W.sr<|v_mvB X X<|v_asB X X<|M<|zq<|zc<|za Tryz.results8 ?_
    refine ⟨h27, _, rfl, st29.done, ?_⟩
    refine zj ?_
    first | (simp_all; done) | (rw [List.take_of_length_le (by omega)]; simp [hag])
   ·
    cases c34
  ·
   replace g33 := of_decide_eq_false g33
   refine Y X X (d := 42) X<|v_mvB X X<|Y X X (d := 42) X<|v_not X X<|v_pickF (v := (.bool _)) X X X<|M ?_
   refine zh rfl (fun c35 => ?_) (fun c35 => ?_)
   ·
    cases c35
   ·
    refine zo<|U<|zl ?_
    obtain ⟨⟨hs1, hs2⟩, hx0⟩ : (smallT t = true ∧ smallX x = true) ∧ checkN t x = 0 := by simpa using g31
    have ht0 := check_text hx0
    have hok := okD_of hx0
    have hpl := places_len ht0
    have hpp := places_pos ht0
    have hdl := lexicon_20 hx0
    have hrl := lexicon_12 hx0
    have hd : ∃ y_, (x.decisions)[(which.toNat % x.decisions.length)]? = some y_ := ⟨_, List.getElem?_eq_getElem (by exact Nat.mod_lt _ (by omega))⟩
    obtain ⟨d, hd⟩ := hd
    obtain ⟨b36, o37, _, he39, hc38, hr_d⟩ := Sl.elem (x_f1.up ((((le4.trans le10).trans le16).trans le22).trans le28)) hd
    obtain ⟨rfl, lu40, ls41, ls42, lu43⟩ := hr_d
    simp only [big] at ls41
    simp only [big] at ls42
    refine zY (er := ([], [], [], [], 0)) (dsts := [47, 48, 49, 50, 51, 52, 53, 54, 55, 56, 10]) st29 Tryz.mixed<|zb 0 [] X t_kr t_kr X X (fun hD wD τD hL hS hO  => (zC X Tryz.underlying28 X Tryz.sizeOf26 X))<|zb 1 [0] X t_kr t_kr X X (fun hD wD τD hL hS hO _ _ => (zf (j := 1) (hL.sub hS) (hc11.up ((le16.trans le22).trans le28)) X X X Tryz.isAgg26))<|zb 2 [] X t_kr t_kr X X (fun hD wD τD hL hS hO  => (r_mvI X)) ?_
    refine zb 3 [0] rfl t_kr t_kr rfl rfl (fun hD wD τD hL hS hO _ _ => (r_conv_int rfl rfl Tryz.underlying3 (IntWalk.i64_in _ (by omega)))) ?_
    refine zb 4 [] X t_kr t_kr X X (fun hD wD τD hL hS hO  => (zC X Tryz.underlying28 X Tryz.sizeOf26 X))<|zb 5 [0] X t_kr t_kr X X (fun hD wD τD hL hS hO _ _ => (zf (j := 1) (hL.sub hS) (hc11.up ((le16.trans le22).trans le28)) X X X Tryz.isAgg26))<|zb 6 [0] X t_kr t_kr X X (fun hD wD τD hL hS hO _ _ => (r_len (x_f1.up ((((le4.trans le10).trans le16).trans le22).trans le28)) X Tryz.underlying26))<|zb 7 [3, 0] X t_kr t_kr X X (fun hD wD τD hL hS hO _ _ _ _ => (r_rem X X t_om)) ?_
    refine zb 8 [6, 0] rfl t_kr t_kr rfl rfl (fun hD wD τD hL hS hO _ _ _ _ => (zR he39 rfl rfl (hk := (show _ = (((which.toNat % x.decisions.length) : Nat) : Int) by exact tmod_nat (by omega))) (hu := Tryz.underlying26) (hz := Tryz.sizeOf34))) ?_
    refine zb 9 [0] X t_kr t_kr X X (fun hD wD τD hL hS hO _ _ => (zA (hL.sub hS) hc38 X Tryz.isAgg34 Tryz.sizeOf34 X))<|Drw.al Tryz.zeroValue34 X<|Drw.ch<|Drw.nil X X X X X X ⟨t_kr, X, t_kr, X, t_kr, X, X, t_kr, (cx_cons X cx_nil)⟩ ?_
    intro b44
    intro hE46 w47 _ le48 st49 _ _ _ _ _ _ _ _ _ _ _ _ _ _ _ _ _ _ _ _
    refine zp st49 (k := 0) X X X (E X (E X (E X (E X (E X (E X (E X (E X (E X zJ))))))))) Tryz.sizeOf34 X X X ?_
    intro w50 st51
    obtain ⟨h52, le53, hb54, st56⟩ := st51.freeze (k := 0) rfl
    have hc55 := Cells.of hb54
    refine zm ⟨undef, rfl, _, _, le53, st56, ?_⟩
    intro hE57 w58 _ le59 st60 _ _ _ _ _ _ _ _ _ _ _ _ _ _ _ _ _ _ _ _
    refine AllDeps.fin X<|U<|zl ?_
    have hdm : d ∈ x.decisions := List.mem_of_getElem? hd
    have hdn := hok.2 d hdm
    refine zg<|v_load_call st60.sub (hc5.up ((((((le10.trans le16).trans le22).trans le28).trans le48).trans le53).trans le59)) X Tryz.isAgg24 Tryz.sizeOf24 X X<|v_load_call st60.sub (hc11.up (((((le16.trans le22).trans le28).trans le48).trans le53).trans le59)) X Tryz.isAgg28 Tryz.sizeOf28 X X ?_
    have con := (c_stem_Idle st60.sub (t := t) (t_f0.up (((((((le4.trans le10).trans le16).trans le22).trans le28).trans le48).trans le53).trans le59)) (x := x) (x_f0.up (((((((le4.trans le10).trans le16).trans le22).trans le28).trans le48).trans le53).trans le59)) (x_f1.up (((((((le4.trans le10).trans le16).trans le22).trans le28).trans le48).trans le53).trans le59)) (K0.up (((((((le4.trans le10).trans le16).trans le22).trans le28).trans le48).trans le53).trans le59)))
    rw [hx0] at con
    refine O st60 X X X Tryz.call25 X con ?_
    intro r62 w63 h64 le65 st66 q67
    obtain ⟨v68, rfl, f69⟩ := q67
    have f69_b := f69.le
    clear con
    refine v_mvT X X<|v_extract (v := v68) X X X<|v_extract (v := (.int _ _)) X X X<|v_assign (v := v68) X X<|v_asI X X<|M<|W.sr<|v_load_call st66.sub (hc5.up (((((((le10.trans le16).trans le22).trans le28).trans le48).trans le53).trans le59).trans le65)) X Tryz.isAgg24 Tryz.sizeOf24 X X<|v_load_call st66.sub (hc11.up ((((((le16.trans le22).trans le28).trans le48).trans le53).trans le59).trans le65)) X Tryz.isAgg28 Tryz.sizeOf28 X X ?_
    refine O st66 rfl rfl rfl Tryz.call17 rfl (zag st66.sub (t := t) (t_f0.up ((((((((le4.trans le10).trans le16).trans le22).trans le28).trans le48).trans le53).trans le59).trans le65)) (x := x) (x_f0.up ((((((((le4.trans le10).trans le16).trans le22).trans le28).trans le48).trans le53).trans le59).trans le65)) (x_f1.up ((((((((le4.trans le10).trans le16).trans le22).trans le28).trans le48).trans le53).trans le59).trans le65)) (K0.up ((((((((le4.trans le10).trans le16).trans le22).trans le28).trans le48).trans le53).trans le59).trans le65)) (by exact hx0)) ?_
    intro r70 w71 h72 le73 st74 q75
    obtain ⟨v76, rfl, f77⟩ := q75
    have f77_b := f77.le
    refine v_mvT X X<|v_extract (v := v76) X X X<|v_extract (v := (.bool _)) X X X<|v_assign (v := v76) X X<|v_asB X X<|M<|zl<|zY (er := ([], [], [], [], 0)) (dsts := [70, 71, 72, 73, 74, 75, 69, 76, 77, 15, 16]) st74 Tryz.mixed<|zb 0 [] X t_kr t_kr X X (fun hD wD τD hL hS hO  => (zA (hL.sub hS) (hc5.up ((((((((le10.trans le16).trans le22).trans le28).trans le48).trans le53).trans le59).trans le65).trans le73)) X Tryz.isAgg24 Tryz.sizeOf24 X))<|zb 1 [] X t_kr t_kr X X (fun hD wD τD hL hS hO  => (zA (hL.sub hS) (hc11.up (((((((le16.trans le22).trans le28).trans le48).trans le53).trans le59).trans le65).trans le73)) X Tryz.isAgg28 Tryz.sizeOf28 X))<|zb 2 [] X t_kr t_kr X X (fun hD wD τD hL hS hO  => (zC X Tryz.underlying34 X Tryz.sizeOf3 X))<|zb 3 [0] X t_kr t_kr X X (fun hD wD τD hL hS hO _ _ => (zf (j := 0) (hL.sub hS) (hc55.up ((le59.trans le65).trans le73)) X X X Tryz.isAgg3)) ?_
    refine zI 4 (.res (fun h' res_ => ∃ gv4_0 gv4_1, res_ = .agg #[gv4_0, gv4_1] ∧ Sl LRule h' gv4_0 ((lessX (x) ((d.number)))).rules ∧ Sl LDecision h' gv4_1 ((lessX (x) ((d.number)))).decisions) (by rintro _ _ _ hl ⟨gv4_0, gv4_1, e_, gf4_0, gf4_1⟩; exact ⟨gv4_0, gv4_1, e_, gf4_0.up hl, gf4_1.up hl⟩)) [2, 0] rfl t_kr t_kr ?_ ?_
    ·
     intro hD wD τD hL hS hO _ _ _ _
     have st78 := St.start hS
     refine O st78 rfl rfl rfl Tryz.call36 rfl (c_postilref04_Without st78.sub (x := x) (x_f0.up ((((((((((le4.trans le10).trans le16).trans le22).trans le28).trans le48).trans le53).trans le59).trans le65).trans le73).trans hL)) (x_f1.up ((((((((((le4.trans le10).trans le16).trans le22).trans le28).trans le48).trans le53).trans le59).trans le65).trans le73).trans hL)) _ (by omega)) ?_
     intro r79 w80 h81 le82 st83 q84
     obtain ⟨v85, v87, rfl, f86, f88⟩ := q84
     have f86_b := f86.le
     have f88_b := f88.le
     exact zm ⟨_, _, rfl, st83, _, rfl, ⟨_, _, rfl, f86, f88⟩⟩
    refine zI 5 (.res (fun h' res_ => ∃ gv5_0, res_ = .tuple #[gv5_0, .bool true] ∧ Sl LHead h' gv5_0 ((headsL (t) ((lessX (x) ((d.number))))))) (by rintro _ _ _ hl ⟨gv5_0, e_, gf5_0⟩; exact ⟨gv5_0, e_, gf5_0.up hl⟩)) [4, 0] rfl t_kr t_kr ?_ ?_
    ·
     intro hD wD τD hL hS hO _ _ gv4_ gf4_
     obtain ⟨gv4_0, gv4_1, rfl, gf4_0, gf4_1⟩ := gf4_
     have st89 := St.start hS
     refine O st89 rfl rfl rfl Tryz.call17 rfl (zag st89.sub (t := t) (t_f0.up ((((((((((le4.trans le10).trans le16).trans le22).trans le28).trans le48).trans le53).trans le59).trans le65).trans le73).trans hL)) (x := (lessX (x) ((d.number)))) gf4_0 gf4_1 (K0.up ((((((((((le4.trans le10).trans le16).trans le22).trans le28).trans le48).trans le53).trans le59).trans le65).trans le73).trans hL)) (by exact lessX_check hx0 _)) ?_
     intro r90 w91 h92 le93 st94 q95
     obtain ⟨v96, rfl, f97⟩ := q95
     have f97_b := f97.le
     exact zm ⟨_, _, rfl, st94, _, rfl, ⟨_, rfl, f97⟩⟩
    refine zI 6 (.res (fun h' res_ => ∃ gv6_0, res_ = .tuple #[gv6_0, .bool true] ∧ Sl LHead h' gv6_0 (((headsL (t) ((lessX (x) ((d.number)))))))) (by rintro _ _ _ hl ⟨gv6_0, e_, gf6_0⟩; exact ⟨gv6_0, e_, gf6_0.up hl⟩)) [0] rfl t_kr t_kr ?_ ?_
    ·
     intro hD wD τD hL hS hO gv5_ gf5_
     obtain ⟨gv5_0, rfl, gf5_0⟩ := gf5_
     have st98 := St.start hS
     refine v_mvT X X ?_
     exact zm ⟨_, _, rfl, st98, _, rfl, ⟨_, rfl, gf5_0⟩⟩
    refine zI 7 (.res (fun h' res_ => Sl LHead h' res_ ((((headsL (t) ((lessX (x) ((d.number))))))))) (fun _ _ _ hl f => f.up hl)) [0] rfl t_kr t_kr ?_ ?_
    ·
     intro hD wD τD hL hS hO gv6_ gf6_
     obtain ⟨gv6_0, rfl, gf6_0⟩ := gf6_
     have st99 := St.start hS
     refine v_extract (v := gv6_0) X X X ?_
     exact zm ⟨_, _, rfl, st99, _, rfl, gf6_0⟩
    refine zI 8 (.det (.bool true)) [1] rfl t_kr t_kr ?_ ?_
    ·
     intro hD wD τD hL hS hO gv6_ gf6_
     obtain ⟨gv6_0, rfl, gf6_0⟩ := gf6_
     have st100 := St.start hS
     refine v_extract (v := (.bool _)) X X X ?_
     exact zm ⟨_, _, rfl, st100, (), rfl, trivial⟩
    refine zI 9 (.res (fun h' res_ => Sl LHead h' res_ (((((headsL (t) ((lessX (x) ((d.number)))))))))) (fun _ _ _ hl f => f.up hl)) [8, 7, 6, 5, 4, 3, 2, 1] rfl t_kr t_kr ?_ ?_
    ·
     intro hD wD τD hL hS hO _ _ _ _ _ _ _ _ gv4_ gf4_ gv5_ gf5_ gv6_ gf6_ gv7_0 gf7_0
     obtain ⟨gv4_0, gv4_1, rfl, gf4_0, gf4_1⟩ := gf4_
     obtain ⟨gv5_0, rfl, gf5_0⟩ := gf5_
     obtain ⟨gv6_0, rfl, gf6_0⟩ := gf6_
     have st101 := St.start hS
     refine v_assign (v := gv7_0) X X ?_
     exact zm ⟨_, _, rfl, st101, _, rfl, gf7_0⟩
    refine zb 10 [9, 8, 7, 6, 5, 4, 3, 2, 1, 0] X t_kr t_kr X X (fun hD wD τD hL hS hO _ _ _ _ _ _ _ _ gv4_ gf4_ gv5_ gf5_ gv6_ gf6_ gv7_0 gf7_0 _ _ gv9_0 gf9_0 => (r_asB X))<|Drw.nil X X X X X X ⟨t_kr, X, t_kr, X, t_kr, X, X, t_kr, cx_nil⟩ ?_
    intro hE102 w103 _ le104 st105 _ _ _ _ _ _ _ _ gv4_x106 gf4_x106 gv5_x106 gf5_x106 gv6_x106 gf6_x106 gv7_0x106 gf7_0x106 _ _ gv9_0x106 gf9_0x106 _ _
    obtain ⟨gv4_0x106, gv4_1x106, rfl, gf4_0x106, gf4_1x106⟩ := gf4_x106
    obtain ⟨gv5_0x106, rfl, gf5_0x106⟩ := gf5_x106
    obtain ⟨gv6_0x106, rfl, gf6_0x106⟩ := gf6_x106
    refine AllDeps.fin X<|U<|zl<|W.sr<|v_mvI X X<|v_neq X X X<|v_mvB X X<|Y X X (d := 80) X<|v_mvB X X<|Y X X (d := 80) X<|v_not X X<|v_pickF (v := (.bool _)) X X X<|v_mvB X X<|Y X X (d := 84) X<|v_mvB X X<|Y X X (d := 84) X<|v_not X X<|v_pickF (v := (.bool _)) X X X<|M ?_
    refine zh rfl (fun c107 => ?_) (fun c107 => ?_)
    ·
     cases c107
    ·
     refine zo<|U<|W.sr<|v_asB X X<|M<|zl<|W.sr<|v_move (v := v68) X X<|v_len (f69.up (le73.trans le104)) X Tryz.underlying46 X<|v_mvI X X<|M<|zw ?_
     refine zQ [8, 17, 18, 19, 90, 91, 92, 93, 94, 95, 96, 97, 98, 99, 100, 101, 102, 103, 104, 105, 106, 107, 108, 109, 110, 111, 112, 113] (G := Nat × Heap) (fun ⟨k, h108⟩ => [(17, .bool (decide (d.number ∈ (idleN t x).take k))), (90, .int .i64 (k : Int))]) (fun ⟨k, h108⟩ w' => Le hE102 h108 ∧ St h w h108 w' [[]] ∧ (k ≤ (idleN t x).length)) (fun ⟨k, h108⟩ => (idleN t x).length - k) ⟨0, hE102⟩ ⟨rfl, rfl, trivial⟩ ⟨Le.refl _, st105, zZ⟩ ?_
     rintro ⟨k, h108⟩ _ w111 ⟨le109, st110, hk⟩
     refine W.sr<|v_lss X X X<|M<|zl ?_
     refine zh rfl (fun c112 => ?_) (fun c112 => ?_)
     ·
      replace c112 := of_decide_eq_true c112
      refine zo<|U<|zl<|zw<|W.sr<|v_mvI X X ?_
      have hn : ∃ y_, ((idleN (t) (x)))[k]? = some y_ := ⟨_, List.getElem?_eq_getElem (by omega)⟩
      obtain ⟨n, hn⟩ := hn
      obtain ⟨b113, o114, _, he116, hc115, hr_n⟩ := Sl.elem (f69.up ((le73.trans le104).trans le109)) hn
      obtain rfl := hr_n
      refine v_index_el he116 X X (hk := X) (hu := Tryz.underlying46) (hz := Tryz.sizeOf3) X<|v_load_cells1 (j := 0) st110.sub hc115 X X X Tryz.isAgg3 X<|v_asI X X<|v_asI X X<|M<|W.sr<|v_mvB X X<|v_mvB X X ?_
      refine zk (d := 96) rfl (fun g117 => ?_) (fun g117 => ?_)
      ·
       refine Z X X X X X<|Z X X X X X<|Z X X X X X<|Z X X X X X<|v_pickT (v := (.bool _)) X X X<|v_asB X X<|M<|W.sr<|v_mvI X X<|v_gtr X X X<|v_mvB X X ?_
       refine zk (d := 104) rfl (fun g118 => ?_) (fun g118 => ?_)
       ·
        replace g118 := of_decide_eq_true g118
        refine Y X X (d := 104) X<|v_mvI X X<|Y X X (d := 104) X<|v_move (v := v68) X X<|Y X X (d := 104) X<|v_mvI X X<|Y X X (d := 104) X<|v_sub X X t_om X<|Y X X (d := 104) X ?_
        have hm : ∃ y_, ((idleN (t) (x)))[(k - 1)]? = some y_ := ⟨_, List.getElem?_eq_getElem (by omega)⟩
        obtain ⟨m, hm⟩ := hm
        obtain ⟨b119, o120, _, he122, hc121, hr_m⟩ := Sl.elem (f69.up ((le73.trans le104).trans le109)) hm
        obtain rfl := hr_m
        refine ze rfl rfl (zR he122 rfl rfl (hk := (show _ = (((k - 1) : Nat) : Int) by omega)) (hu := Tryz.underlying46) (hz := Tryz.sizeOf3)) ?_
        refine Y X X (d := 104) X<|v_load_cells1 (j := 0) st110.sub hc121 X X X Tryz.isAgg3 X<|Y X X (d := 104) X<|ze X X (r_leq X X)<|v_pickT (v := (.bool _)) X X X<|M ?_
        refine zh rfl (fun c123 => ?_) (fun c123 => ?_)
        ·
         replace c123 := of_decide_eq_true c123
         exfalso
         have sure_ : (decide (n ≤ m)) = false := by refine decide_eq_false ?_; have q := lt_pred (idleN_sorted t x) (by have q := g118; omega) hm hn; omega
         exact of_decide_eq_false sure_ c123
        ·
         replace c123 := of_decide_eq_false c123
         refine zo<|zt<|U<|zg<|v_add X X t_om X<|v_mvI X X<|M ?_
         refine ⟨⟨k + 1, h108⟩, ⟨?_, rfl, trivial⟩, ?_, ⟨le109, st110, ?_⟩, ?_⟩
         ·exact zj (by rw [mem_snoc hn]; simp_all)
         ·exact zU
         ·first | omega | (simp; omega)
         ·show (idleN t x).length - ((k + 1)) < (idleN t x).length - k
          omega
       ·
        replace g118 := of_decide_eq_false g118
        refine Z X X X X X<|Z X X X X X<|Z X X X X X<|Z X X X X X<|Z X X X X X<|Z X X X X X<|Z X X X X X<|v_pickF (v := (.bool _)) X X X<|M ?_
        refine zh rfl (fun c124 => ?_) (fun c124 => ?_)
        ·
         cases c124
        ·
         refine zo<|zt<|U<|zg<|v_add X X t_om X<|v_mvI X X<|M ?_
         refine ⟨⟨k + 1, h108⟩, ⟨?_, rfl, trivial⟩, ?_, ⟨le109, st110, ?_⟩, ?_⟩
         ·exact zj (by rw [mem_snoc hn]; simp_all)
         ·exact zU
         ·first | omega | (simp; omega)
         ·show (idleN t x).length - ((k + 1)) < (idleN t x).length - k
          omega
      ·
       refine Y X X (d := 96) X<|v_mvI X X<|Y X X (d := 96) X<|v_field_addr X Tryz.underlying34 X Tryz.sizeOf3 X X<|Y X X (d := 96) X<|v_load_cells1 (j := 0) st110.sub (hc55.up ((((le59.trans le65).trans le73).trans le104).trans le109)) X X X Tryz.isAgg3 X<|Y X X (d := 96) X<|v_eql X X X<|v_pickF (v := (.bool _)) X X X<|v_asB X X<|M<|W.sr<|v_mvI X X<|v_gtr X X X<|v_mvB X X ?_
       refine zk (d := 104) rfl (fun g125 => ?_) (fun g125 => ?_)
       ·
        replace g125 := of_decide_eq_true g125
        refine Y X X (d := 104) X<|v_mvI X X<|Y X X (d := 104) X<|v_move (v := v68) X X<|Y X X (d := 104) X<|v_mvI X X<|Y X X (d := 104) X<|v_sub X X t_om X<|Y X X (d := 104) X ?_
        have hm : ∃ y_, ((idleN (t) (x)))[(k - 1)]? = some y_ := ⟨_, List.getElem?_eq_getElem (by omega)⟩
        obtain ⟨m, hm⟩ := hm
        obtain ⟨b126, o127, _, he129, hc128, hr_m⟩ := Sl.elem (f69.up ((le73.trans le104).trans le109)) hm
        obtain rfl := hr_m
        refine ze rfl rfl (zR he129 rfl rfl (hk := (show _ = (((k - 1) : Nat) : Int) by omega)) (hu := Tryz.underlying46) (hz := Tryz.sizeOf3)) ?_
        refine Y X X (d := 104) X<|v_load_cells1 (j := 0) st110.sub hc128 X X X Tryz.isAgg3 X<|Y X X (d := 104) X<|ze X X (r_leq X X)<|v_pickT (v := (.bool _)) X X X<|M ?_
        refine zh rfl (fun c130 => ?_) (fun c130 => ?_)
        ·
         replace c130 := of_decide_eq_true c130
         exfalso
         have sure_ : (decide (n ≤ m)) = false := by refine decide_eq_false ?_; have q := lt_pred (idleN_sorted t x) (by have q := g125; omega) hm hn; omega
         exact of_decide_eq_false sure_ c130
        ·
         replace c130 := of_decide_eq_false c130
         refine zo<|zt<|U<|zg<|v_add X X t_om X<|v_mvI X X<|M ?_
         refine ⟨⟨k + 1, h108⟩, ⟨?_, rfl, trivial⟩, ?_, ⟨le109, st110, ?_⟩, ?_⟩
         ·exact zj (by rw [mem_snoc hn]; simp_all)
         ·exact zU
         ·first | omega | (simp; omega)
         ·show (idleN t x).length - ((k + 1)) < (idleN t x).length - k
          omega
       ·
        replace g125 := of_decide_eq_false g125
        refine Z X X X X X<|Z X X X X X<|Z X X X X X<|Z X X X X X<|Z X X X X X<|Z X X X X X<|Z X X X X X<|v_pickF (v := (.bool _)) X X X<|M ?_
        refine zh rfl (fun c131 => ?_) (fun c131 => ?_)
        ·
         cases c131
        ·
         refine zo<|zt<|U<|zg<|v_add X X t_om X<|v_mvI X X<|M ?_
         refine ⟨⟨k + 1, h108⟩, ⟨?_, rfl, trivial⟩, ?_, ⟨le109, st110, ?_⟩, ?_⟩
         ·exact zj (by rw [mem_snoc hn]; simp_all)
         ·exact zU
         ·first | omega | (simp; omega)
         ·show (idleN t x).length - ((k + 1)) < (idleN t x).length - k
          omega
     ·
      replace c112 := of_decide_eq_false c112
      refine zS<|zi<|zi<|zM<|U<|zl<|W.sr<|v_mvB X X<|v_move (v := v76) X X<|v_move (v := gv9_0x106) X X<|O st110 X X X Tryz.call26 X (c_postilref04_SameHeads st110.sub (f77.up (le104.trans le109)) (gf9_0x106.up le109)) ?_
      intro r132 w133 h134 le135 st136 q137
      obtain rfl := q137
      refine ze X X (r_bneq X X Tryz.underlying4)<|M ?_
      refine zh rfl (fun c138 => ?_) (fun c138 => ?_)
      ·
       exfalso
       have sure_ : ((!((decide (d.number ∈ (idleN t x).take k)) == (decide (((headsL (t) (x))) = ((((((headsL (t) ((lessX (x) ((d.number))))))))))))))) = false := by rw [List.take_of_length_le (by omega)]; have q := idle_told hx0 hdm; by_cases e : headsL t (lessX x d.number) = headsL t x <;> simp [q, e]; exact fun z => e z.symm
       exact absurd (c138.symm.trans sure_) (by decide)
      ·
       refine zo<|U<|W.sr<|v_asI X X<|M<|W.sr<|v_asB X X<|M<|zl<|W.sr<|v_field_addr X Tryz.underlying28 X Tryz.sizeOf26 X X<|v_load_cells1 (j := 1) st136.sub (hc11.up ((((((((((le16.trans le22).trans le28).trans le48).trans le53).trans le59).trans le65).trans le73).trans le104).trans le109).trans le135)) X X X Tryz.isAgg26 X<|v_len (x_f1.up ((((((((((((le4.trans le10).trans le16).trans le22).trans le28).trans le48).trans le53).trans le59).trans le65).trans le73).trans le104).trans le109).trans le135)) X Tryz.underlying26 X<|v_mvI X X<|M<|zw ?_
       refine zQ [20, 21, 23, 122, 123, 124, 125, 126, 127, 128, 129, 130, 131, 132, 133, 134, 135, 136] (G := Nat × Heap) (fun ⟨k, h139⟩ => [(20, .int .i64 (mostN (x.decisions.take k))), (21, .bool ((x.decisions.take k).any fun o => decide (o.kind = 4))), (122, .int .i64 (k : Int))]) (fun ⟨k, h139⟩ w' => Le h134 h139 ∧ St h w h139 w' [[]] ∧ (k ≤ x.decisions.length)) (fun ⟨k, h139⟩ => x.decisions.length - k) ⟨0, h134⟩ ⟨rfl, rfl, rfl, trivial⟩ ⟨Le.refl _, st136, zZ⟩ ?_
       rintro ⟨k, h139⟩ _ w142 ⟨le140, st141, hk⟩
       refine W.sr<|v_lss X X X<|M<|zl ?_
       refine zh rfl (fun c143 => ?_) (fun c143 => ?_)
       ·
        replace c143 := of_decide_eq_true c143
        refine zo<|U<|zl<|zw<|W.sr ?_
        have ho : ∃ y_, (x.decisions)[k]? = some y_ := ⟨_, List.getElem?_eq_getElem (by omega)⟩
        obtain ⟨o, ho⟩ := ho
        obtain ⟨b144, o145, _, he147, hc146, hr_o⟩ := Sl.elem (x_f1.up (((((((((((((le4.trans le10).trans le16).trans le22).trans le28).trans le48).trans le53).trans le59).trans le65).trans le73).trans le104).trans le109).trans le135).trans le140)) ho
        obtain ⟨rfl, lu148, ls149, ls150, lu151⟩ := hr_o
        simp only [big] at ls149
        simp only [big] at ls150
        refine v_index_el he147 X X (hk := X) (hu := Tryz.underlying26) (hz := Tryz.sizeOf34) X<|v_load_call st141.sub hc146 X Tryz.isAgg34 Tryz.sizeOf34 X X<|zy st141 Tryz.zeroValue34 X X ?_
        intro b152 w153 st154
        refine zp st154 (k := 1) X X X (E X (E X (E X (E X (E X (E X (E X (E X (E X zJ))))))))) Tryz.sizeOf34 X X X ?_
        intro w155 st156
        obtain ⟨h157, le158, hb159, st161⟩ := st156.freeze (k := 1) rfl
        have hc160 := Cells.of hb159
        refine M<|W.sr<|v_mvI X X<|v_field_addr X Tryz.underlying34 X Tryz.sizeOf3 X X<|v_load_cells1 (j := 0) st161.sub hc160 X X X Tryz.isAgg3 X<|ze X X (r_max X X)<|v_asI X X<|M<|zg<|v_mvB X X<|v_mvB X X ?_
        refine zk (d := 131) rfl (fun g162 => ?_) (fun g162 => ?_)
        ·
         refine Z X X X X X<|Z X X X X X<|Z X X X X X<|v_pickT (v := (.bool _)) X X X<|v_asB X X<|zm<|zt<|U<|zg<|v_add X X t_om X<|v_mvI X X<|M ?_
         refine ⟨⟨k + 1, h157⟩, ⟨?_, ?_, rfl, trivial⟩, ?_, ⟨(le140.trans le158), st161.take 1, ?_⟩, ?_⟩
         ·exact zP (mostI_snoc ho)
         ·exact zj (by rw [any_snoc ho]; simp_all)
         ·exact zU
         ·first | omega | (simp; omega)
         ·show x.decisions.length - ((k + 1)) < x.decisions.length - k
          omega
        ·
         refine Y X X (d := 131) X<|v_field_addr X Tryz.underlying34 X Tryz.sizeOf5 X X<|Y X X (d := 131) X<|v_load_cells1 (j := 1) st161.sub hc160 X X X Tryz.isAgg5 X<|Y X X (d := 131) X<|v_eql X X X<|v_pickF (v := (.bool _)) X X X<|v_asB X X<|zm<|zt<|U<|zg<|v_add X X t_om X<|v_mvI X X<|M ?_
         refine ⟨⟨k + 1, h157⟩, ⟨?_, ?_, rfl, trivial⟩, ?_, ⟨(le140.trans le158), st161.take 1, ?_⟩, ?_⟩
         ·exact zP (mostI_snoc ho)
         ·exact zj (by rw [any_snoc ho]; simp_all)
         ·exact zU
         ·first | omega | (simp; omega)
         ·show x.decisions.length - ((k + 1)) < x.decisions.length - k
          omega
       ·
        replace c143 := of_decide_eq_false c143
        refine zS<|zi<|zi<|zM<|U<|zl<|W.sr<|v_field_addr X Tryz.underlying34 X Tryz.sizeOf5 X X<|v_load_cells1 (j := 1) st141.sub (hc55.up ((((((le59.trans le65).trans le73).trans le104).trans le109).trans le135).trans le140)) X X X Tryz.isAgg5 X<|v_neq X X X<|v_mvB X X ?_
        refine zk (d := 140) rfl (fun g163 => ?_) (fun g163 => ?_)
        ·
         replace g163 := of_decide_eq_true g163
         refine Z X X X X X<|v_pickT (v := (.bool _)) X X X<|v_mvB X X<|Z X X X X X<|Z X X X X X<|Z X X X X X<|Z X X X X X<|v_pickT (v := (.bool _)) X X X<|v_mvB X X<|Z X X X X X<|Z X X X X X<|v_pickT (v := (.bool _)) X X X<|v_mvB X X<|Z X X X X X<|Z X X X X X<|Z X X X X X<|v_pickT (v := (.bool _)) X X X<|M ?_
         refine zh rfl (fun c164 => ?_) (fun c164 => ?_)
         ·
          refine W.sr<|v_mvB X X<|v_asB X X<|M<|zq<|zc<|za Tryz.results8 ?_
          refine ⟨h139, _, rfl, st141.done, ?_⟩
          refine zj ?_
          first | (simp_all; done) | (rw [List.take_of_length_le (by omega)]; simp [hag])
         ·
          cases c164
        ·
         replace g163 := of_decide_eq_false g163
         refine Y X X (d := 140) X<|v_mvB X X<|v_pickF (v := (.bool _)) X X X<|v_mvB X X ?_
         refine zk (d := 143) rfl (fun g165 => ?_) (fun g165 => ?_)
         ·
          refine Z X X X X X<|Z X X X X X<|Z X X X X X<|Z X X X X X<|v_pickT (v := (.bool _)) X X X<|v_mvB X X<|Z X X X X X<|Z X X X X X<|v_pickT (v := (.bool _)) X X X<|v_mvB X X<|Z X X X X X<|Z X X X X X<|Z X X X X X<|v_pickT (v := (.bool _)) X X X<|M ?_
          refine zh rfl (fun c166 => ?_) (fun c166 => ?_)
          ·
           refine W.sr<|v_mvB X X<|v_asB X X<|M<|zq<|zc<|za Tryz.results8 ?_
           refine ⟨h139, _, rfl, st141.done, ?_⟩
           refine zj ?_
           first | (simp_all; done) | (rw [List.take_of_length_le (by omega)]; simp [hag])
          ·
           cases c166
         ·
          refine Y X X (d := 143) X<|v_field_addr X Tryz.underlying28 X Tryz.sizeOf26 X X<|Y X X (d := 143) X<|v_load_cells1 (j := 1) st141.sub (hc11.up (((((((((((le16.trans le22).trans le28).trans le48).trans le53).trans le59).trans le65).trans le73).trans le104).trans le109).trans le135).trans le140)) X X X Tryz.isAgg26 X<|Y X X (d := 143) X<|v_len (x_f1.up (((((((((((((le4.trans le10).trans le16).trans le22).trans le28).trans le48).trans le53).trans le59).trans le65).trans le73).trans le104).trans le109).trans le135).trans le140)) X Tryz.underlying26 X<|Y X X (d := 143) X<|v_eql X X X<|v_pickF (v := (.bool _)) X X X<|v_mvB X X ?_
          refine zk (d := 149) rfl (fun g167 => ?_) (fun g167 => ?_)
          ·
           replace g167 := of_decide_eq_true g167
           refine Z X X X X X<|Z X X X X X<|v_pickT (v := (.bool _)) X X X<|v_mvB X X<|Z X X X X X<|Z X X X X X<|Z X X X X X<|v_pickT (v := (.bool _)) X X X<|M ?_
           refine zh rfl (fun c168 => ?_) (fun c168 => ?_)
           ·
            refine W.sr<|v_mvB X X<|v_asB X X<|M<|zq<|zc<|za Tryz.results8 ?_
            refine ⟨h139, _, rfl, st141.done, ?_⟩
            refine zj ?_
            first | (simp_all; done) | (rw [List.take_of_length_le (by omega)]; simp [hag])
           ·
            cases c168
          ·
           replace g167 := of_decide_eq_false g167
           refine Y X X (d := 149) X<|v_mvI X X<|Y X X (d := 149) X<|v_eql X X X<|v_pickF (v := (.bool _)) X X X<|v_mvB X X ?_
           refine zk (d := 153) rfl (fun g169 => ?_) (fun g169 => ?_)
           ·
            replace g169 := of_decide_eq_true g169
            refine Z X X X X X<|Z X X X X X<|Z X X X X X<|v_pickT (v := (.bool _)) X X X<|M ?_
            refine zh rfl (fun c170 => ?_) (fun c170 => ?_)
            ·
             refine W.sr<|v_mvB X X<|v_asB X X<|M<|zq<|zc<|za Tryz.results8 ?_
             refine ⟨h139, _, rfl, st141.done, ?_⟩
             refine zj ?_
             first | (simp_all; done) | (rw [List.take_of_length_le (by omega)]; simp [hag])
            ·
             cases c170
           ·
            replace g169 := of_decide_eq_false g169
            refine Y X X (d := 153) X<|v_load_call st141.sub (hc17.up ((((((((((le22.trans le28).trans le48).trans le53).trans le59).trans le65).trans le73).trans le104).trans le109).trans le135).trans le140)) X Tryz.isAgg32 Tryz.sizeOf32 X X<|Y X X (d := 153) X ?_
            refine O st141 rfl rfl rfl Tryz.call37 rfl (c_postilref04_Head st141.sub (hd := to) (by first | assumption | (simp [zDecision, zHead, big]; done) | (simp [zDecision, zHead, big]; omega) | omega) (by first | assumption | decide | omega | (simp [zDecision, zHead]; done) | (dsimp only; omega) | (simp; omega))) ?_
            intro r171 w172 h173 le174 st175 q176
            obtain rfl := q176
            refine Y X X (d := 153) X<|v_not X X<|v_pickF (v := (.bool _)) X X X<|M ?_
            refine zh rfl (fun c177 => ?_) (fun c177 => ?_)
            ·
             refine W.sr<|v_mvB X X<|v_asB X X<|M<|zq<|zc<|za Tryz.results8 ?_
             refine ⟨h173, _, rfl, st175.done, ?_⟩
             refine zj ?_
             first | (simp_all; done) | (rw [List.take_of_length_le (by omega)]; simp [hag])
            ·
             refine zo<|U<|zl ?_
             have hk2 : x.decisions.take k = x.decisions := List.take_of_length_le (by omega)
             have hkd : d.kind = 1 := by have q := g163; omega
             have hvd : ∀ o ∈ x.decisions, o.kind ≠ 4 := by
              have q := g165
              rw [hk2] at q
              intro o ho hk4
              exact absurd (List.any_eq_false.1 q o ho) (by simp [hk4])
             have hhd : headB to = true := by simpa using c177
             have hm1 : ∀ o ∈ x.decisions, o.number ≤ (mostN (x.decisions.take k)) := by intro o ho; rw [hk2]; exact mostN_ge ho
             have hm2 := hm1 d hdm
             have hm3 : (mostN (x.decisions.take k)) ≤ 999 := by rw [hk2]; exact mostN_le hok
             have hm4 := g169
             have hm5 := g167
             obtain ⟨ha1, ha2, hy0⟩ := add_zero hx0 (d := ⟨(mostN (x.decisions.take k)) + 1, 1, d.form, zPlace, to, 0⟩) (by omega) (again_dec hx0 hdm hkd (by omega) (by omega) hhd) (fun e he q => by have q1 := hm1 e he; have q2 : e.number = (mostN (x.decisions.take k)) + 1 := q; omega)
             have hag := idle_again ha1 hdm hkd hvd (fun o ho => by have := hm1 o ho; omega)
             obtain ⟨y, hy⟩ : ∃ y, y = addX x ⟨(mostN (x.decisions.take k)) + 1, 1, d.form, zPlace, to, 0⟩ := ⟨_, rfl⟩
             rw [← hy] at hy0 hag
             have hyl := lexicon_20 hy0
             have hyr := lexicon_12 hy0
             refine zg<|v_load_call st175.sub (hc5.up (((((((((((((le10.trans le16).trans le22).trans le28).trans le48).trans le53).trans le59).trans le65).trans le73).trans le104).trans le109).trans le135).trans le140).trans le174)) X Tryz.isAgg24 Tryz.sizeOf24 X X<|v_load_call st175.sub (hc11.up ((((((((((((le16.trans le22).trans le28).trans le48).trans le53).trans le59).trans le65).trans le73).trans le104).trans le109).trans le135).trans le140).trans le174)) X Tryz.isAgg28 Tryz.sizeOf28 X X<|v_mvI X X<|v_add X X t_om X<|v_field_addr X Tryz.underlying34 X Tryz.sizeOf9 X X<|v_load_cells1 (j := 2) st175.sub (hc55.up (((((((le59.trans le65).trans le73).trans le104).trans le109).trans le135).trans le140).trans le174)) X X X Tryz.isAgg9 X<|v_load_call st175.sub (hc17.up (((((((((((le22.trans le28).trans le48).trans le53).trans le59).trans le65).trans le73).trans le104).trans le109).trans le135).trans le140).trans le174)) X Tryz.isAgg32 Tryz.sizeOf32 X X<|ze X X (zX (cs := [.int .i64 ((mostN (x.decisions.take k)) + 1), .int .u8 1, strV (d.form), .int .i64 0, .int .i64 0, .int .i64 0, strV (to.stem), .int .u8 (to.mark), .int .i64 0]) t_kr) ?_
             have con := (c_stem_Add st175.sub (t := t) (t_f0.up ((((((((((((((le4.trans le10).trans le16).trans le22).trans le28).trans le48).trans le53).trans le59).trans le65).trans le73).trans le104).trans le109).trans le135).trans le140).trans le174)) (x := x) (x_f0.up ((((((((((((((le4.trans le10).trans le16).trans le22).trans le28).trans le48).trans le53).trans le59).trans le65).trans le73).trans le104).trans le109).trans le135).trans le140).trans le174)) (x_f1.up ((((((((((((((le4.trans le10).trans le16).trans le22).trans le28).trans le48).trans le53).trans le59).trans le65).trans le73).trans le104).trans le109).trans le135).trans le140).trans le174)) (d := ({ zDecision with number := ((mostN (x.decisions.take k)) + 1), kind := 1, form := (d.form), to := to } : Decision)) (by first | assumption | decide | omega | (simp [zDecision, zHead]; done) | (dsimp only; omega) | (simp; omega)) (by first | assumption | (simp [zDecision, zHead, big]; done) | (simp [zDecision, zHead, big]; omega) | omega) (by first | assumption | (simp [zDecision, zHead, big]; done) | (simp [zDecision, zHead, big]; omega) | omega) (by first | assumption | decide | omega | (simp [zDecision, zHead]; done) | (dsimp only; omega) | (simp; omega)) (K0.up ((((((((((((((le4.trans le10).trans le16).trans le22).trans le28).trans le48).trans le53).trans le59).trans le65).trans le73).trans le104).trans le109).trans le135).trans le140).trans le174)))
             rw [show addN t x { zDecision with number := (mostN (x.decisions.take k)) + 1, kind := 1, form := d.form, to := to } = y from ha2.trans hy.symm, show addE t x { zDecision with number := (mostN (x.decisions.take k)) + 1, kind := 1, form := d.form, to := to } = 0 from ha1] at con
             refine zK rfl rfl (zW rfl Tryz.call16 rfl) (con.mono ?_)
             rintro _ w178 ⟨h179, v183, v186, o184, o187, rfl, le180, s182, f185, f188⟩
             refine ⟨_, rfl, ?_⟩
             have st181 := st175.call s182
             clear con
             refine v_mvT X X<|v_extract (v := (.agg (List.toArray _))) X X X<|v_extract (v := (.int _ _)) X X X<|zy st181 Tryz.zeroValue28 X X ?_
             intro b189 w190 st191
             refine zp st191 (k := 3) X X X (E f185.one (E f188.one zJ)) Tryz.sizeOf28 X X X ?_
             intro w192 st193
             obtain ⟨h194, le195, hb196, st198⟩ := st193.freeze (k := 3) rfl
             have hc197 := Cells.of hb196
             refine v_asI X X<|M<|W.sr<|v_load_call st198.sub (hc5.up (((((((((((((((le10.trans le16).trans le22).trans le28).trans le48).trans le53).trans le59).trans le65).trans le73).trans le104).trans le109).trans le135).trans le140).trans le174).trans le180).trans le195)) X Tryz.isAgg24 Tryz.sizeOf24 X X<|v_load_call st198.sub hc197 X Tryz.isAgg28 Tryz.sizeOf28 X X ?_
             obtain ⟨h199, le200, f201, st202⟩ := OSl.freeze (k := 1) st198 (f185.up le195) rfl (by omega)
             obtain ⟨h203, le204, f205, st206⟩ := OSl.freeze (k := 2) st202 (f188.up (le195.trans le200)) rfl (by omega)
             have con := (c_stem_Idle st206.sub (t := t) (t_f0.up ((((((((((((((((((le4.trans le10).trans le16).trans le22).trans le28).trans le48).trans le53).trans le59).trans le65).trans le73).trans le104).trans le109).trans le135).trans le140).trans le174).trans le180).trans le195).trans le200).trans le204)) (x := (Lexicon.mk ((y).rules) ((y).decisions))) (f201.up le204) f205 (K0.up ((((((((((((((((((le4.trans le10).trans le16).trans le22).trans le28).trans le48).trans le53).trans le59).trans le65).trans le73).trans le104).trans le109).trans le135).trans le140).trans le174).trans le180).trans le195).trans le200).trans le204)))
             rw [show idleN t (Lexicon.mk y.rules y.decisions) = idleN t y from rfl, hy0] at con
             refine O st206 X X X Tryz.call25 X con ?_
             intro r207 w208 h209 le210 st211 q212
             obtain ⟨v213, rfl, f214⟩ := q212
             have f214_b := f214.le
             clear con
             refine v_mvT X X<|v_extract (v := v213) X X X<|v_extract (v := (.int _ _)) X X X<|v_assign (v := v213) X X<|v_asI X X<|M<|zl<|W.sr<|v_mvI X X<|v_neq X X X<|v_mvB X X ?_
             refine zk (d := 179) rfl (fun g215 => ?_) (fun g215 => ?_)
             ·
              replace g215 := of_decide_eq_true g215
              refine Z X X X X X<|Z X X X X X<|v_pickT (v := (.bool _)) X X X<|M ?_
              refine zh rfl (fun c216 => ?_) (fun c216 => ?_)
              ·
               refine W.sr<|v_asB X X<|M<|zq<|zc<|za Tryz.results8 ?_
               refine ⟨h209, _, rfl, st211.done, ?_⟩
               refine zj ?_
               first | (simp_all; done) | (rw [List.take_of_length_le (by omega)]; simp [hag])
              ·
               cases c216
             ·
              replace g215 := of_decide_eq_false g215
              refine Y X X (d := 179) X<|v_mvI X X<|Y X X (d := 179) X<|v_neq X X X<|v_pickF (v := (.bool _)) X X X<|M ?_
              refine zh rfl (fun c217 => ?_) (fun c217 => ?_)
              ·
               exact absurd c217 (by decide)
              ·
               refine zo<|U<|W.sr<|v_asB X X<|M<|zl<|W.sr<|v_move (v := v213) X X<|v_len f214 X Tryz.underlying46 X<|v_mvI X X<|M<|zw ?_
               refine zQ [28, 30, 185, 186, 187, 188, 189, 190, 191, 192, 193, 194, 195, 196] (G := Nat × Heap) (fun ⟨k, h218⟩ => [(28, .bool (decide (d.number ∈ (idleN t y).take k))), (185, .int .i64 (k : Int))]) (fun ⟨k, h218⟩ w' => Le h209 h218 ∧ St h w h218 w' [[], [], [], []] ∧ (k ≤ (idleN t y).length)) (fun ⟨k, h218⟩ => (idleN t y).length - k) ⟨0, h209⟩ ⟨rfl, rfl, trivial⟩ ⟨Le.refl _, st211, zZ⟩ ?_
               rintro ⟨k, h218⟩ _ w221 ⟨le219, st220, hk⟩
               refine W.sr<|v_lss X X X<|M<|zl ?_
               refine zh rfl (fun c222 => ?_) (fun c222 => ?_)
               ·
                replace c222 := of_decide_eq_true c222
                refine zo<|U<|zl<|zw<|W.sr ?_
                have hn : ∃ y_, ((idleN t y))[k]? = some y_ := ⟨_, List.getElem?_eq_getElem (by omega)⟩
                obtain ⟨n, hn⟩ := hn
                obtain ⟨b223, o224, _, he226, hc225, hr_n⟩ := Sl.elem (f214.up le219) hn
                obtain rfl := hr_n
                refine v_index_el he226 X X (hk := X) (hu := Tryz.underlying46) (hz := Tryz.sizeOf3) X<|v_load_cells1 (j := 0) st220.sub hc225 X X X Tryz.isAgg3 X<|v_asI X X<|M<|zg<|v_mvB X X<|v_mvB X X ?_
                refine zk (d := 190) rfl (fun g227 => ?_) (fun g227 => ?_)
                ·
                 refine Z X X X X X<|Z X X X X X<|Z X X X X X<|Z X X X X X<|v_pickT (v := (.bool _)) X X X<|v_asB X X<|zm<|zt<|U<|zg<|v_add X X t_om X<|v_mvI X X<|M ?_
                 refine ⟨⟨k + 1, h218⟩, ⟨?_, rfl, trivial⟩, ?_, ⟨le219, st220, ?_⟩, ?_⟩
                 ·exact zj (by rw [mem_snoc hn]; simp_all)
                 ·exact zU
                 ·first | omega | (simp; omega)
                 ·show (idleN t y).length - ((k + 1)) < (idleN t y).length - k
                  omega
                ·
                 refine Y X X (d := 190) X<|v_mvI X X<|Y X X (d := 190) X<|v_field_addr X Tryz.underlying34 X Tryz.sizeOf3 X X<|Y X X (d := 190) X<|v_load_cells1 (j := 0) st220.sub (hc55.up (((((((((((((le59.trans le65).trans le73).trans le104).trans le109).trans le135).trans le140).trans le174).trans le180).trans le195).trans le200).trans le204).trans le210).trans le219)) X X X Tryz.isAgg3 X<|Y X X (d := 190) X<|v_eql X X X<|v_pickF (v := (.bool _)) X X X<|v_asB X X<|zm<|zt<|U<|zg<|v_add X X t_om X<|v_mvI X X<|M ?_
                 refine ⟨⟨k + 1, h218⟩, ⟨?_, rfl, trivial⟩, ?_, ⟨le219, st220, ?_⟩, ?_⟩
                 ·exact zj (by rw [mem_snoc hn]; simp_all)
                 ·exact zU
                 ·first | omega | (simp; omega)
                 ·show (idleN t y).length - ((k + 1)) < (idleN t y).length - k
                  omega
               ·
                replace c222 := of_decide_eq_false c222
                refine zS<|zi<|zi<|zM<|U<|W.sr<|v_mvB X X<|v_mvB X X<|Y X X (d := 198) X<|v_mvB X X<|v_pickT (v := (.bool _)) X X X<|v_asB X X<|M<|zq<|za Tryz.results8 ?_
                refine ⟨h218, _, rfl, st220.done, ?_⟩
                refine zj ?_
                first | (simp_all; done) | (rw [List.take_of_length_le (by omega)]; simp [hag])
end Go.Pk
