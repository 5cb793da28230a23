/- A PART OF THE PROOF: contracts of functions, each walked once (much of it printed by a program of the author's own). -/
import Derived.Test.YtfpiiheehdedmaaGreatDoorT11
import Derived.Test.YtfpiiheehdedmaaGreatDoorT3
import Derived.Test.YtfpiiheehdedmaaGreatDoorT2
import Derived.Test.YtfpiiheehdedmaaGreatDoorT8
import Derived.Test.YtfpiiheehdedmaaGreatDoorT7
import Derived.Test.YtfpiiheehdedmaaGreatDoorT6
import Derived.Test.YtfpiiheehdedmaaGreatDoorT1
set_option linter.unusedSimpArgs false
set_option linter.unusedVariables false
namespace Go.Pk
open Go Go.RowKit Go.Proofs
set_option maxRecDepth 4000 in
theorem c_postilref07_Wrongs {h : Heap} {w : World} (hs : Sub h w) {p : Poll} {p_v0 : Value} (p_f0 : Sl LChapter h p_v0 p.text.chapters) {p_v1 : Value} (p_f1 : Sl LRule h p_v1 p.lexicon.rules) {p_v2 : Value} (p_f2 : Sl LDecision h p_v2 p.lexicon.decisions) {p_v3 : Value} (p_f3 : Sl LQuestion h p_v3 p.questions) {p_v4 : Value} (p_f4 : Sl LVoter h p_v4 p.voters) (voter : Int) : Calls Tryz.prog 18 #[.agg #[p_v0, p_v1, p_v2, p_v3, p_v4], .int .i64 voter] w (Rets h w (fun _ _ res_ => res_ = .tuple #[.agg #[.int .i64 ((wrongsR p voter)).lo, .int .i64 ((wrongsR p voter)).hi], .int .i64 (allE p (inB voter 0 ((p.voters.length : Int) - 1)))])) := by
 refine zz (n := 64) (args := [.agg #[p_v0, p_v1, p_v2, p_v3, p_v4], .int .i64 voter]) Tryz.func18 X X X ?_
 have st0 : St h w h w [] := St.start hs
 have p_f0_b := p_f0.le
 have p_f1_b := p_f1.le
 have p_f2_b := p_f2.le
 have p_f3_b := p_f3.le
 have p_f4_b := p_f4.le
 refine W.sr<|zy st0 (cs := [p_v0, p_v1, p_v2, p_v3, p_v4]) X X X ?_
 intro b1 w2 h3 le4 hc5 st6
 refine zD st6 Tryz.zeroValue36 X X ?_
 intro b7 w8 st9
 refine v_asI X X<|Y<|zf<|zad (er := ([], [], [], [], 0)) (dsts := [12, 13, 14, 15, 16, 17, 18, 19, 11, 20, 21, 6, 7]) st9 Tryz.mixed<|zq 0 [] X t_kr t_kr X X (fun hD wD τD hL hS hO  => (zM (hL.sub hS) hc5 X Tryz.isAgg32 Tryz.sizeOf32 X))<|zq 1 [] X t_kr t_kr X X (fun hD wD τD hL hS hO  => (r_mvI X))<|zq 2 [] X t_kr t_kr X X (fun hD wD τD hL hS hO  => (zA X Tryz.underlying32 X Tryz.sizeOf30 X))<|zq 3 [0] X t_kr t_kr X X (fun hD wD τD hL hS hO _ _ => (zc (j := 4) (hL.sub hS) hc5 X X X Tryz.isAgg30))<|zq 4 [0] X t_kr t_kr X X (fun hD wD τD hL hS hO _ _ => (r_len (p_f4.up le4) X Tryz.underlying30))<|zq 5 [0] X t_kr t_kr X X (fun hD wD τD hL hS hO _ _ => (r_sub X X t_om)) ?_
 refine zJ 6 (.det (.bool (inB (voter) (0) (((p.voters.length : Int) - 1))))) [4, 0] rfl t_kr t_kr ?_ ?_
 ·
  intro hD wD τD hL hS hO _ _ _ _
  have st10 := St.start hS
  refine zi st10 X X X Tryz.call57 X (zZ st10.sub _ _ _) ?_
  intro r11 w12 h13 le14 st15 q16
  obtain rfl := q16
  exact zt ⟨_, _, rfl, st15, (), rfl, trivial⟩
 refine zJ 7 (.res (fun h' res_ => ∃ gv7_0, res_ = .tuple #[gv7_0, .int .i64 (allE (p) ((inB (voter) (0) (((p.voters.length : Int) - 1)))))] ∧ Sl (LSl LInt) h' gv7_0 ((allL (p) ((inB (voter) (0) (((p.voters.length : Int) - 1))))))) (by rintro _ _ _ hl ⟨gv7_0, e_, gf7_0⟩; exact ⟨gv7_0, e_, gf7_0.up hl⟩)) [6, 0] rfl t_kr t_kr ?_ ?_
 ·
  intro hD wD τD hL hS hO _ _ _ _
  have st17 := St.start hS
  refine zi st17 X X X Tryz.call56 X (c_postilref07_some st17.sub (p := p) (p_f0.up (le4.trans hL)) (p_f1.up (le4.trans hL)) (p_f2.up (le4.trans hL)) (p_f3.up (le4.trans hL)) (p_f4.up (le4.trans hL)) _) ?_
  intro r18 w19 h20 le21 st22 q23
  obtain ⟨v24, rfl, f25⟩ := q23
  have f25_b := f25.le
  exact zt ⟨_, _, rfl, st22, _, rfl, ⟨_, rfl, f25⟩⟩
 refine zJ 8 (.res (fun h' res_ => ∃ gv8_0, res_ = .tuple #[gv8_0, .int .i64 ((allE (p) ((inB (voter) (0) (((p.voters.length : Int) - 1))))))] ∧ Sl (LSl LInt) h' gv8_0 (((allL (p) ((inB (voter) (0) (((p.voters.length : Int) - 1)))))))) (by rintro _ _ _ hl ⟨gv8_0, e_, gf8_0⟩; exact ⟨gv8_0, e_, gf8_0.up hl⟩)) [0] rfl t_kr t_kr ?_ ?_
 ·
  intro hD wD τD hL hS hO gv7_ gf7_
  obtain ⟨gv7_0, rfl, gf7_0⟩ := gf7_
  have st26 := St.start hS
  refine v_mvT X X ?_
  exact zt ⟨_, _, rfl, st26, _, rfl, ⟨_, rfl, gf7_0⟩⟩
 refine zJ 9 (.res (fun h' res_ => Sl (LSl LInt) h' res_ ((((allL (p) ((inB (voter) (0) (((p.voters.length : Int) - 1))))))))) (fun _ _ _ hl f => f.up hl)) [0] rfl t_kr t_kr ?_ ?_
 ·
  intro hD wD τD hL hS hO gv8_ gf8_
  obtain ⟨gv8_0, rfl, gf8_0⟩ := gf8_
  have st27 := St.start hS
  refine v_extract (v := gv8_0) X X X ?_
  exact zt ⟨_, _, rfl, st27, _, rfl, gf8_0⟩
 refine zJ 10 (.det (.int .i64 ((allE (p) ((inB (voter) (0) (((p.voters.length : Int) - 1)))))))) [1] rfl t_kr t_kr ?_ ?_
 ·
  intro hD wD τD hL hS hO gv8_ gf8_
  obtain ⟨gv8_0, rfl, gf8_0⟩ := gf8_
  have st28 := St.start hS
  refine v_extract (v := (.int _ _)) X X X ?_
  exact zt ⟨_, _, rfl, st28, (), rfl, trivial⟩
 refine zJ 11 (.res (fun h' res_ => Sl (LSl LInt) h' res_ (((((allL (p) ((inB (voter) (0) (((p.voters.length : Int) - 1)))))))))) (fun _ _ _ hl f => f.up hl)) [10, 9, 8, 7, 6, 5, 4, 3, 2, 1] rfl t_kr t_kr ?_ ?_
 ·
  intro hD wD τD hL hS hO _ _ _ _ _ _ _ _ _ _ _ _ _ _ gv7_ gf7_ gv8_ gf8_ gv9_0 gf9_0
  obtain ⟨gv7_0, rfl, gf7_0⟩ := gf7_
  obtain ⟨gv8_0, rfl, gf8_0⟩ := gf8_
  have st29 := St.start hS
  refine v_assign (v := gv9_0) X X ?_
  exact zt ⟨_, _, rfl, st29, _, rfl, gf9_0⟩
 refine zq 12 [11, 10, 9, 8, 7, 6, 5, 4, 3, 2, 1, 0] X t_kr t_kr X X (fun hD wD τD hL hS hO _ _ _ _ _ _ _ _ _ _ _ _ _ _ gv7_ gf7_ gv8_ gf8_ gv9_0 gf9_0 _ _ gv11_0 gf11_0 => (r_asI X))<|Drw.nil X X X X X X ⟨t_kr, X, t_kr, X, t_kr, X, X, t_kr, cx_nil⟩ ?_
 intro hE30 w31 _ le32 st33 _ _ _ _ _ _ _ _ _ _ _ _ _ _ gv7_x34 gf7_x34 gv8_x34 gf8_x34 gv9_0x34 gf9_0x34 _ _ gv11_0x34 gf11_0x34 _ _
 obtain ⟨gv7_0x34, rfl, gf7_0x34⟩ := gf7_x34
 obtain ⟨gv8_0x34, rfl, gf8_0x34⟩ := gf8_x34
 refine AllDeps.fin X<|U<|zf<|W.sr<|v_mvI X X<|v_neq X X X<|Y ?_
 refine zh rfl (fun c35 => ?_) (fun c35 => ?_)
 ·
  replace c35 := of_decide_eq_true c35
  refine W.sr<|zk X X (r_build (cs := [.int .i64 0, .int .i64 0]) t_kr)<|v_mvI X X<|zC st33 (k := 0) X X X (zp X (zp X zQ)) Tryz.sizeOf36 X X X ?_
  intro w36 st37
  refine v_asI X X<|Y<|zo<|E<|Post.retcell2 Tryz.results18 X Tryz.isAgg36 Tryz.sizeOf36 X (st37.get (k := 0) X) ?_
  refine ⟨hE30, _, rfl, st37.done, ?_⟩
  refine tup2 ?_ (zB ?_)
  have hwz : wrongsR p voter = zSpan := by simp_all [wrongsR]
  all_goals first | (rw [hwz]; rfl) | rfl | (simp_all; done)
 ·
  replace c35 := of_decide_eq_false c35
  refine zr<|U<|zf ?_
  have hz0 : allE p (inB voter 0 ((p.voters.length : Int) - 1)) = 0 := by simpa using c35
  obtain ⟨hk1, hk2, hk3, hk4⟩ := all_ok hz0
  have hk5 := List.length_pos_iff.2 hk3
  have hk6 : (allL p (inB voter 0 ((p.voters.length : Int) - 1))).length = (truthsL p).length := by rw [hk4]
  have hk7 := truths_le (check_ok hk1).2
  have hk8 := poll_len (check_ok hk1).2
  have hin : inB voter 0 ((p.voters.length : Int) - 1) = true := (all_ok hz0).2.1
  have hin2 : 0 ≤ voter ∧ voter < (p.voters.length : Int) := by simp only [inB, Bool.and_eq_true, decide_eq_true_eq] at hin; omega
  obtain ⟨v, hv⟩ : ∃ v, p.voters[voter.toNat]? = some v := ⟨_, List.getElem?_eq_getElem (by omega)⟩
  have hvo := poll_voter (check_ok hk1).2 (List.mem_of_getElem? hv)
  refine zS Tryz.mixed t_kr (Cls hE30 _) (Cls.drew st33)<|u_field_addr X Tryz.underlying32 X Tryz.sizeOf30 X X<|zm X X (fun _ hC => (zc (j := 4) hC.sub (hc5.up le32) X X X Tryz.isAgg30))<|u_mvI X X ?_
  obtain ⟨b38, o39, _, he41, hc40, hr_v⟩ := Sl.elem (p_f4.up (le4.trans le32)) hv
  obtain ⟨v42, rfl, f43⟩ := hr_v
  have f43_b := f43.le
  refine zm rfl rfl (fun _ _ => (zE he41 rfl rfl (hk := (show _ = ((voter.toNat : Nat) : Int) by omega)) (hu := Tryz.underlying30) (hz := Tryz.sizeOf79))) ?_
  refine zm X X (fun _ hC => (zM hC.sub hc40 X Tryz.isAgg79 Tryz.sizeOf79 X))<|u_move (v := gv11_0x34) X X ?_
  have ht0 : ∃ y_, ((((((allL (p) ((inB (voter) (0) (((p.voters.length : Int) - 1))))))))))[0]? = some y_ := ⟨_, List.getElem?_eq_getElem (by omega)⟩
  obtain ⟨t0, ht0⟩ := ht0
  obtain ⟨b44, o45, _, he47, hc46, hr_t0⟩ := Sl.elem gf11_0x34 ht0
  obtain ⟨v48, rfl, f49⟩ := hr_t0
  have f49_b := f49.le
  refine u_index_el he47 X X (hk := X) (hu := Tryz.underlying91) (hz := Tryz.sizeOf42) X<|zm X X (fun _ hC => (zc (j := 0) hC.sub hc46 X X X Tryz.isAgg42)) ?_
  have htm0 : t0 ∈ truthsL p := by rw [← hk4]; exact List.mem_of_getElem? ht0
  have htl0 := truth_len htm0
  have hwl0 := wrongN_le htm0 v
  refine zU rfl rfl (fun _ => zT rfl Tryz.call58 rfl) (fun _ hC => Rets.quiet hC (c_postilref07_wrongs hC.sub (v := v) f43 f49 (by omega) (by omega))) ?_
  refine u_asI X X<|zI ?_
  rintro w50 ⟨h51, s52⟩
  have st53 := st33.call0 s52
  refine U<|W.sr<|v_mvI X X<|v_mvI X X<|zk X X (r_build (cs := [.int .i64 (((wrongN (v) (t0) : Nat) : Int)), .int .i64 (((wrongN (v) (t0) : Nat) : Int))]) t_kr)<|zD st53 Tryz.zeroValue36 X X ?_
  intro b54 w55 st56
  refine zC st56 (k := 1) X X X (zp X (zp X zQ)) Tryz.sizeOf36 X X X ?_
  intro w57 st58
  refine Y<|zf<|W.sr<|v_asI X X<|Y<|zs ?_
  refine zG [8, 10, 38, 39, 40, 41, 42, 43, 44, 45, 46, 47, 48, 49, 50, 51, 52, 53, 54, 55, 56, 57, 58, 59, 60, 61, 62] (G := Nat × Span × Heap) (fun ⟨i, sp, h59⟩ => [(10, .int .i64 (i : Int))]) (fun ⟨i, sp, h59⟩ w' => Le h51 h59 ∧ St h w h59 w' [[(b7, .cells (List.toArray [.int .i64 0, .int .i64 0]) 36)], [(b54, .cells (List.toArray [.int .i64 sp.lo, .int .i64 sp.hi]) 36)]] ∧ (1 ≤ i ∧ i ≤ (allL p (inB voter 0 ((p.voters.length : Int) - 1))).length) ∧ (sp = spanK v ((allL p (inB voter 0 ((p.voters.length : Int) - 1))).take i))) (fun ⟨i, sp, h59⟩ => (allL p (inB voter 0 ((p.voters.length : Int) - 1))).length - i) ⟨1, ⟨(wrongN v t0 : Int), (wrongN v t0 : Int)⟩, h51⟩ ⟨rfl, trivial⟩ ⟨Le.refl _, st58, (by exact ⟨Nat.le_refl _, by omega⟩), (by exact (spanK_one ht0 (by omega)).symm)⟩ ?_
  rintro ⟨i, sp, h59⟩ _ w62 ⟨le60, st61, hi, hsp⟩
  refine zf<|W.sr<|v_mvI X X<|v_move (v := gv11_0x34) X X<|v_len (gf11_0x34.up (s52.le.trans le60)) X Tryz.underlying91 X<|v_lss X X X<|Y ?_
  refine zh rfl (fun c63 => ?_) (fun c63 => ?_)
  ·
   replace c63 := of_decide_eq_true c63
   refine zr<|U<|zf<|zs<|zf<|zS Tryz.mixed t_kr (Cls h59 _) (Cls.drew st61)<|u_field_addr X Tryz.underlying32 X Tryz.sizeOf30 X X<|zm X X (fun _ hC => (zc (j := 4) hC.sub (hc5.up ((le32.trans s52.le).trans le60)) X X X Tryz.isAgg30))<|u_mvI X X ?_
   refine zm rfl rfl (fun _ _ => (zE he41 rfl rfl (hk := (show _ = ((voter.toNat : Nat) : Int) by omega)) (hu := Tryz.underlying30) (hz := Tryz.sizeOf79))) ?_
   refine zm X X (fun _ hC => (zM hC.sub (hc40.up (s52.le.trans le60)) X Tryz.isAgg79 Tryz.sizeOf79 X))<|u_move (v := gv11_0x34) X X<|u_mvI X X ?_
   have ht : ∃ y_, ((((((allL (p) ((inB (voter) (0) (((p.voters.length : Int) - 1))))))))))[i]? = some y_ := ⟨_, List.getElem?_eq_getElem (by omega)⟩
   obtain ⟨t, ht⟩ := ht
   obtain ⟨b64, o65, _, he67, hc66, hr_t⟩ := Sl.elem (gf11_0x34.up (s52.le.trans le60)) ht
   obtain ⟨v68, rfl, f69⟩ := hr_t
   have f69_b := f69.le
   refine u_index_el he67 X X (hk := X) (hu := Tryz.underlying91) (hz := Tryz.sizeOf42) X<|zm X X (fun _ hC => (zc (j := 0) hC.sub hc66 X X X Tryz.isAgg42)) ?_
   have htm : t ∈ truthsL p := by rw [← hk4]; exact List.mem_of_getElem? ht
   have htl := truth_len htm
   refine zU rfl rfl (fun _ => zT rfl Tryz.call58 rfl) (fun _ hC => Rets.quiet hC (c_postilref07_wrongs hC.sub (v := v) (f43.up (s52.le.trans le60)) f69 (by omega) (by omega))) ?_
   refine u_asI X X<|zI ?_
   rintro w70 ⟨h71, s72⟩
   have st73 := st61.call0 s72
   refine U<|zg<|v_field_addr X Tryz.underlying36 X Tryz.sizeOf3 X X<|v_load_b1 (st73.get (k := 1) X) X X Tryz.isAgg3 X<|v_mvI X X<|zk X X (r_min X X)<|v_field_addr X Tryz.underlying36 X Tryz.sizeOf3 X X<|v_load_b1 (st73.get (k := 1) X) X X Tryz.isAgg3 X<|v_mvI X X<|zk X X (r_max X X)<|zk X X (r_build (cs := [.int .i64 (minI sp.lo (((wrongN (v) (t) : Nat) : Int))), .int .i64 (maxI sp.hi (((wrongN (v) (t) : Nat) : Int)))]) t_kr)<|zC st73 (k := 1) X X X (zp X (zp X zQ)) Tryz.sizeOf36 X X X ?_
   intro w74 st75
   refine zt<|zw<|U<|zg<|v_mvI X X<|v_add X X t_om X<|v_asI X X<|Y ?_
   refine ⟨⟨i + 1, ⟨minI sp.lo (wrongN v t), maxI sp.hi (wrongN v t)⟩, h71⟩, ⟨rfl, trivial⟩, ?_, ⟨(le60.trans s72.le), st75, ?_, ?_⟩, ?_⟩
   ·exact zH
   ·exact ⟨by omega, by omega⟩
   ·rw [spanK_snoc ht, ← hsp]
   ·show (allL p (inB voter 0 ((p.voters.length : Int) - 1))).length - ((i + 1)) < (allL p (inB voter 0 ((p.voters.length : Int) - 1))).length - i
    omega
  ·
   replace c63 := of_decide_eq_false c63
   refine zL<|ze<|ze<|zF<|U<|W.sr<|v_load_ball (st61.get (k := 1) X) X Tryz.isAgg36 Tryz.sizeOf36 X X<|zC st61 (k := 0) X X X (zp X (zp X zQ)) Tryz.sizeOf36 X X X ?_
   intro w76 st77
   refine v_asI X X<|Y<|zo<|Post.retcell2 Tryz.results18 X Tryz.isAgg36 Tryz.sizeOf36 X (st77.get (k := 0) X) ?_
   refine ⟨h59, _, rfl, st77.done, ?_⟩
   refine tup2 ?_ (zB ?_)
   all_goals first | exact hz0.symm | (rw [wrongsR, if_pos hz0, hv, hsp, List.take_of_length_le (by omega), hk4]; rfl)
end Go.Pk

namespace Go.Pk
open Go Go.RowKit Go.Proofs
set_option maxRecDepth 4000 in
theorem c_vote_in_1 {h : Heap} {w : World} (hs : Sub h w) (n : Int) {lo_b : Nat} {lo : Int} (lo_c : Cells h lo_b 0 [.int .i64 lo]) {hi_b : Nat} {hi : Int} (hi_c : Cells h hi_b 0 [.int .i64 hi]) : Calls Tryz.prog 102 #[.int .i64 n, .pointer (some ⟨lo_b, 0, none⟩), .pointer (some ⟨hi_b, 0, none⟩)] w (Rets h w (fun _ _ res_ => res_ = .bool ((decide (n < lo) || decide (hi < n))))) := by
 refine zz (n := 13) (args := [.int .i64 n, .pointer (some ⟨lo_b, 0, none⟩), .pointer (some ⟨hi_b, 0, none⟩)]) Tryz.func102 X X X ?_
 have st0 : St h w h w [] := St.start hs
 refine W.sr<|v_asB X X<|Y<|W.sr<|v_mvI X X<|v_load_cells1 (j := 0) st0.sub lo_c X X X Tryz.isAgg3 X<|v_lss X X X<|v_mvB X X ?_
 refine zx (d := 8) rfl (fun g1 => ?_) (fun g1 => ?_)
 ·
  replace g1 := of_decide_eq_true g1
  refine Z X X X X X<|Z X X X X X<|Z X X X X X<|v_pickT (v := (.bool _)) X X X<|v_asB X X<|Y<|zo<|za Tryz.results102 ?_
  refine ⟨h, _, rfl, st0.done, ?_⟩
  refine zj ?_
  first | (simp_all; done) | (simp_all; omega)
 ·
  replace g1 := of_decide_eq_false g1
  refine M X X (d := 8) X<|v_mvI X X<|M X X (d := 8) X<|v_load_cells1 (j := 0) st0.sub hi_c X X X Tryz.isAgg3 X<|M X X (d := 8) X<|v_gtr X X X<|v_pickF (v := (.bool _)) X X X<|v_asB X X<|Y<|zo<|za Tryz.results102 ?_
  refine ⟨h, _, rfl, st0.done, ?_⟩
  refine zj ?_
  first | (simp_all; done) | (simp_all; omega)
set_option maxRecDepth 4000 in
theorem c_vote_in {h : Heap} {w : World} (hs : Sub h w) (lo : Int) (hi : Int) {all__v : Value} {all_ : (List Int)} (all__f : Sl LInt h all__v all_) : Calls Tryz.prog 55 #[.int .i64 lo, .int .i64 hi, all__v] w (Rets h w (fun _ _ res_ => res_ = .bool (inAll all_ lo hi))) := by
 refine zz (n := 11) (args := [.int .i64 lo, .int .i64 hi, all__v]) Tryz.func55 X X X ?_
 have st0 : St h w h w [] := St.start hs
 have all__f_b := all__f.le
 refine W.sr<|zy st0 (cs := [.int .i64 lo]) X X X ?_
 intro b1 w2 h3 le4 hc5 st6
 refine zy st6 (cs := [.int .i64 hi]) X X X ?_
 intro b7 w8 h9 le10 hc11 st12
 refine v_asB X X<|Y<|W.sr<|v_move (v := all__v) X X<|v_make_func X X X ?_
 refine zi st12 rfl rfl rfl Tryz.call101 rfl (c_slices_ContainsFunc_Lint_int st12.sub (all__f.up (le4.trans le10)) (fun x_ => (decide ((x_) < (lo)) || decide ((hi) < (x_)))) Tryz.call102 (fun x_ h_ w_ vs_ le_ hs_ hx_ hr_ u_ hu_ => by cases hu_; cases hr_; exact c_vote_in_1 hs_ _ (lo := lo) ((hc5.up le10).up le_) (hi := hi) (hc11.up le_))) ?_
 intro r13 w14 h15 le16 st17 q18
 obtain rfl := q18
 refine v_not X X<|v_asB X X<|Y<|zo<|za Tryz.results55 ?_
 refine ⟨h15, _, rfl, st17.done, ?_⟩
 refine zj ?_
 exact inAll_eq all_ lo hi
set_option maxRecDepth 4000 in
theorem c_cmp_isNaN_uint8 {h : Heap} {w : World} (hs : Sub h w) (x : Int) (x_l : 0 ≤ x ∧ x ≤ 255) : Calls Tryz.prog 189 #[.int .u8 x] w (Rets h w (fun _ _ res_ => res_ = .bool (false))) := by
 refine zz (n := 6) (args := [.int .u8 x]) Tryz.func189 X X X ?_
 have st0 : St h w h w [] := St.start hs
 refine W.sr<|v_asB X X<|Y<|W.sr<|v_mvI X X<|v_mvI X X<|v_neq X X X<|v_asB X X<|Y<|zo<|za Tryz.results189 ?_
 refine ⟨h, _, rfl, st0.done, ?_⟩
 refine zj ?_
 simp
set_option maxRecDepth 4000 in
theorem c_cmp_isNaN_string {h : Heap} {w : World} (hs : Sub h w) (x : Str) (x_le : x.length ≤ 281474976710656) : Calls Tryz.prog 188 #[strV x] w (Rets h w (fun _ _ res_ => res_ = .bool (false))) := by
 refine zz (n := 6) (args := [strV x]) Tryz.func188 X X X ?_
 have st0 : St h w h w [] := St.start hs
 refine W.sr<|v_asB X X<|Y<|W.sr<|v_mvS X X<|v_mvS X X<|zk X X (r_sneq X X)<|v_asB X X<|Y<|zo<|za Tryz.results188 ?_
 refine ⟨h, _, rfl, st0.done, ?_⟩
 refine zj ?_
 simp
set_option maxRecDepth 4000 in
theorem c_cmp_Compare_uint8 {h : Heap} {w : World} (hs : Sub h w) (a : Int) (a_l : 0 ≤ a ∧ a ≤ 255) (b : Int) (b_l : 0 ≤ b ∧ b ≤ 255) : Calls Tryz.prog 142 #[.int .u8 a, .int .u8 b] w (Rets h w (fun _ _ res_ => res_ = .int .i64 (cmpI a b))) := by
 refine zz (n := 20) (args := [.int .u8 a, .int .u8 b]) Tryz.func142 X X X ?_
 have st0 : St h w h w [] := St.start hs
 refine W.sr<|v_asI X X<|Y<|W.sr<|v_mvI X X ?_
 refine zi st0 rfl rfl rfl Tryz.call189 rfl (c_cmp_isNaN_uint8 st0.sub _ (by omega)) ?_
 intro r1 w2 h3 le4 st5 q6
 obtain rfl := q6
 refine v_asB X X<|Y<|W.sr<|v_mvI X X ?_
 refine zi st5 rfl rfl rfl Tryz.call189 rfl (c_cmp_isNaN_uint8 st5.sub _ (by omega)) ?_
 intro r7 w8 h9 le10 st11 q12
 obtain rfl := q12
 refine v_asB X X<|Y<|zf<|W.sr<|v_mvB X X<|Y ?_
 refine zh rfl (fun c13 => ?_) (fun c13 => ?_)
 ·
  refine zf<|W.sr<|v_mvB X X<|Y ?_
  refine zh rfl (fun c14 => ?_) (fun c14 => ?_)
  ·
   refine W.sr<|v_asI X X<|Y<|zo<|E<|E<|za Tryz.results142 ?_
   refine ⟨h9, _, rfl, st11.done, ?_⟩
   refine zB ?_
   all_goals (unfold cmpI; repeat' split)
   all_goals (first | omega | simp_all | rfl)
  ·
   refine zr<|U<|W.sr<|v_asI X X<|Y<|zo<|E<|za Tryz.results142 ?_
   refine ⟨h9, _, rfl, st11.done, ?_⟩
   refine zB ?_
   all_goals (unfold cmpI; repeat' split)
   all_goals (first | omega | simp_all | rfl)
 ·
  refine zr<|U<|zf<|W.sr<|v_mvB X X<|Y ?_
  refine zh rfl (fun c15 => ?_) (fun c15 => ?_)
  ·
   refine W.sr<|v_asI X X<|Y<|zo<|E<|za Tryz.results142 ?_
   refine ⟨h9, _, rfl, st11.done, ?_⟩
   refine zB ?_
   all_goals (unfold cmpI; repeat' split)
   all_goals (first | omega | simp_all | rfl)
  ·
   refine zr<|U<|zf<|W.sr<|v_mvI X X<|v_mvI X X<|v_lss X X X<|Y ?_
   refine zh rfl (fun c16 => ?_) (fun c16 => ?_)
   ·
    replace c16 := of_decide_eq_true c16
    refine W.sr<|v_asI X X<|Y<|zo<|E<|za Tryz.results142 ?_
    refine ⟨h9, _, rfl, st11.done, ?_⟩
    refine zB ?_
    all_goals (unfold cmpI; repeat' split)
    all_goals (first | omega | simp_all | rfl)
   ·
    replace c16 := of_decide_eq_false c16
    refine zr<|U<|zf<|W.sr<|v_mvI X X<|v_mvI X X<|v_gtr X X X<|Y ?_
    refine zh rfl (fun c17 => ?_) (fun c17 => ?_)
    ·
     replace c17 := of_decide_eq_true c17
     refine W.sr<|v_asI X X<|Y<|zo<|E<|za Tryz.results142 ?_
     refine ⟨h9, _, rfl, st11.done, ?_⟩
     refine zB ?_
     all_goals (unfold cmpI; repeat' split)
     all_goals (first | omega | simp_all | rfl)
    ·
     replace c17 := of_decide_eq_false c17
     refine zr<|U<|W.sr<|v_asI X X<|Y<|zo<|za Tryz.results142 ?_
     refine ⟨h9, _, rfl, st11.done, ?_⟩
     refine zB ?_
     all_goals (unfold cmpI; repeat' split)
     all_goals (first | omega | simp_all | rfl)
set_option maxRecDepth 4000 in
theorem c_cmp_Compare_string {h : Heap} {w : World} (hs : Sub h w) (a : Str) (a_le : a.length ≤ 281474976710656) (b : Str) (b_le : b.length ≤ 281474976710656) : Calls Tryz.prog 141 #[strV a, strV b] w (Rets h w (fun _ _ res_ => res_ = .int .i64 (cmpT a b))) := by
 refine zz (n := 20) (args := [strV a, strV b]) Tryz.func141 X X X ?_
 have st0 : St h w h w [] := St.start hs
 refine W.sr<|v_asI X X<|Y<|W.sr<|v_mvS X X<|zi st0 X X X Tryz.call188 X (c_cmp_isNaN_string st0.sub _ t_str) ?_
 intro r1 w2 h3 le4 st5 q6
 obtain rfl := q6
 refine v_asB X X<|Y<|W.sr<|v_mvS X X<|zi st5 X X X Tryz.call188 X (c_cmp_isNaN_string st5.sub _ t_str) ?_
 intro r7 w8 h9 le10 st11 q12
 obtain rfl := q12
 refine v_asB X X<|Y<|zf<|W.sr<|v_mvB X X<|Y ?_
 refine zh rfl (fun c13 => ?_) (fun c13 => ?_)
 ·
  refine zf<|W.sr<|v_mvB X X<|Y ?_
  refine zh rfl (fun c14 => ?_) (fun c14 => ?_)
  ·
   refine W.sr<|v_asI X X<|Y<|zo<|E<|E<|za Tryz.results141 ?_
   refine ⟨h9, _, rfl, st11.done, ?_⟩
   refine zB ?_
   all_goals simp_all [cmpT, sLt]
  ·
   refine zr<|U<|W.sr<|v_asI X X<|Y<|zo<|E<|za Tryz.results141 ?_
   refine ⟨h9, _, rfl, st11.done, ?_⟩
   refine zB ?_
   all_goals simp_all [cmpT, sLt]
 ·
  refine zr<|U<|zf<|W.sr<|v_mvB X X<|Y ?_
  refine zh rfl (fun c15 => ?_) (fun c15 => ?_)
  ·
   refine W.sr<|v_asI X X<|Y<|zo<|E<|za Tryz.results141 ?_
   refine ⟨h9, _, rfl, st11.done, ?_⟩
   refine zB ?_
   all_goals simp_all [cmpT, sLt]
  ·
   refine zr<|U<|zf<|W.sr<|v_mvS X X<|v_mvS X X<|zk X X (r_slss X X)<|Y ?_
   refine zh rfl (fun c16 => ?_) (fun c16 => ?_)
   ·
    refine W.sr<|v_asI X X<|Y<|zo<|E<|za Tryz.results141 ?_
    refine ⟨h9, _, rfl, st11.done, ?_⟩
    refine zB ?_
    all_goals simp_all [cmpT, sLt]
   ·
    refine zr<|U<|zf<|W.sr<|v_mvS X X<|v_mvS X X<|zk X X (r_sgtr X X)<|Y ?_
    refine zh rfl (fun c17 => ?_) (fun c17 => ?_)
    ·
     refine W.sr<|v_asI X X<|Y<|zo<|E<|za Tryz.results141 ?_
     refine ⟨h9, _, rfl, st11.done, ?_⟩
     refine zB ?_
     all_goals simp_all [cmpT, sLt]
    ·
     refine zr<|U<|W.sr<|v_asI X X<|Y<|zo<|za Tryz.results141 ?_
     refine ⟨h9, _, rfl, st11.done, ?_⟩
     refine zB ?_
     all_goals simp_all [cmpT, sLt]
set_option maxRecDepth 4000 in
theorem c_cmp_Or_int {h : Heap} {w : World} (hs : Sub h w) {l_v : Value} {l : (List Int)} (l_f : Sl LInt h l_v l) : Calls Tryz.prog 65 #[l_v] w (Rets h w (fun _ _ res_ => res_ = .int .i64 ((orL l)))) := by
 refine zz (n := 18) (args := [l_v]) Tryz.func65 X X X ?_
 have st0 : St h w h w [] := St.start hs
 have l_f_b := l_f.le
 refine W.sr<|v_asI X X<|Y<|W.sr<|v_asI X X<|Y<|zf<|W.sr<|v_move (v := l_v) X X<|v_len l_f X Tryz.underlying42 X<|v_mvI X X<|Y<|zs ?_
 refine zG [2, 5, 8, 9, 10, 11, 12, 13, 14, 15, 16] (G := Nat × Heap) (fun ⟨k, h1⟩ => [(8, .int .i64 (k : Int))]) (fun ⟨k, h1⟩ w' => Le h h1 ∧ St h w h1 w' [] ∧ (k ≤ l.length) ∧ (orL l = orL (l.drop k))) (fun ⟨k, h1⟩ => l.length - k) ⟨0, h⟩ ⟨rfl, trivial⟩ ⟨Le.refl _, st0, zK, (by rfl)⟩ ?_
 rintro ⟨k, h1⟩ _ w4 ⟨le2, st3, hk, he⟩
 refine W.sr<|v_lss X X X<|Y<|zf ?_
 refine zh rfl (fun c5 => ?_) (fun c5 => ?_)
 ·
  replace c5 := of_decide_eq_true c5
  refine zr<|U<|zf<|zs<|W.sr ?_
  have ha : ∃ y_, (l)[k]? = some y_ := ⟨_, List.getElem?_eq_getElem (by omega)⟩
  obtain ⟨a, ha⟩ := ha
  obtain ⟨b6, o7, _, he9, hc8, hr_a⟩ := Sl.elem (l_f.up le2) ha
  obtain rfl := hr_a
  refine v_index_el he9 X X (hk := X) (hu := Tryz.underlying42) (hz := Tryz.sizeOf3) X<|v_load_cells1 (j := 0) st3.sub hc8 X X X Tryz.isAgg3 X<|v_asI X X<|Y<|W.sr<|v_mvI X X<|v_mvI X X<|v_neq X X X<|Y ?_
  refine zh rfl (fun c10 => ?_) (fun c10 => ?_)
  ·
   replace c10 := of_decide_eq_true c10
   refine W.sr<|v_mvI X X<|v_asI X X<|Y<|zo<|zn<|E<|E<|zn<|E<|za Tryz.results65 ?_
   refine ⟨h1, _, rfl, st3.done, ?_⟩
   refine zB ?_
   rw [he, orL_drop ha, if_pos (by simpa using c10)]
  ·
   replace c10 := of_decide_eq_false c10
   refine zr<|zw<|U<|zg<|v_add X X t_om X<|v_mvI X X<|Y ?_
   refine ⟨⟨k + 1, h1⟩, ⟨rfl, trivial⟩, ?_, ⟨le2, st3, ?_, ?_⟩, ?_⟩
   ·exact zH
   ·first | omega | (simp; omega)
   ·rw [he, orL_drop ha, if_neg (by simpa using c10)]
   ·show l.length - ((k + 1)) < l.length - k
    omega
 ·
  replace c5 := of_decide_eq_false c5
  refine zL<|ze<|ze<|zF<|U<|W.sr<|v_mvI X X<|v_asI X X<|Y<|zo<|za Tryz.results65 ?_
  refine ⟨h1, _, rfl, st3.done, ?_⟩
  refine zB ?_
  rw [he, List.drop_eq_nil_of_le (by omega)]; rfl
set_option maxRecDepth 4000 in
theorem c_vote_places {h : Heap} {w : World} (hs : Sub h w) {a : Place} {b : Place} : Calls Tryz.prog 97 #[.agg #[.int .i64 a.chapter, .int .i64 a.line, .int .i64 a.word], .agg #[.int .i64 b.chapter, .int .i64 b.line, .int .i64 b.word]] w (Rets h w (fun _ _ res_ => res_ = .int .i64 ((orL [cmpI a.chapter b.chapter, cmpI a.line b.line, cmpI a.word b.word])))) := by
 refine zz (n := 22) (args := [.agg #[.int .i64 a.chapter, .int .i64 a.line, .int .i64 a.word], .agg #[.int .i64 b.chapter, .int .i64 b.line, .int .i64 b.word]]) Tryz.func97 X X X ?_
 have st0 : St h w h w [] := St.start hs
 refine W.sr<|zy st0 (cs := [.int .i64 (a.chapter), .int .i64 (a.line), .int .i64 (a.word)]) X X X ?_
 intro b1 w2 h3 le4 hc5 st6
 refine zy st6 (cs := [.int .i64 (b.chapter), .int .i64 (b.line), .int .i64 (b.word)]) X X X ?_
 intro b7 w8 h9 le10 hc11 st12
 refine v_asI X X<|Y<|zf<|zad (er := ([], [], [], [], 0)) (dsts := [5, 6, 7, 8, 9, 10, 11, 12, 13, 14, 15, 16, 17, 18, 19, 20, 21, 4]) st12 Tryz.mixed<|zq 0 [] X t_kr t_kr X X (fun hD wD τD hL hS hO  => (zA X Tryz.underlying70 X Tryz.sizeOf3 X))<|zq 1 [0] X t_kr t_kr X X (fun hD wD τD hL hS hO _ _ => (zc (j := 0) (hL.sub hS) (hc5.up le10) X X X Tryz.isAgg3))<|zq 2 [] X t_kr t_kr X X (fun hD wD τD hL hS hO  => (zA X Tryz.underlying70 X Tryz.sizeOf3 X))<|zq 3 [0] X t_kr t_kr X X (fun hD wD τD hL hS hO _ _ => (zc (j := 0) (hL.sub hS) hc11 X X X Tryz.isAgg3)) ?_
 refine zJ 4 (.det (.int .i64 (cmpI ((a.chapter)) ((b.chapter))))) [2, 0] rfl t_kr t_kr ?_ ?_
 ·
  intro hD wD τD hL hS hO _ _ _ _
  have st13 := St.start hS
  refine zi st13 X X X Tryz.call106 X (c_cmp_Compare_int st13.sub _ _) ?_
  intro r14 w15 h16 le17 st18 q19
  obtain rfl := q19
  exact zt ⟨_, _, rfl, st18, (), rfl, trivial⟩
 refine zq 5 [] X t_kr t_kr X X (fun hD wD τD hL hS hO  => (zA X Tryz.underlying70 X Tryz.sizeOf3 X))<|zq 6 [0] X t_kr t_kr X X (fun hD wD τD hL hS hO _ _ => (zc (j := 1) (hL.sub hS) (hc5.up le10) X X X Tryz.isAgg3))<|zq 7 [] X t_kr t_kr X X (fun hD wD τD hL hS hO  => (zA X Tryz.underlying70 X Tryz.sizeOf3 X))<|zq 8 [0] X t_kr t_kr X X (fun hD wD τD hL hS hO _ _ => (zc (j := 1) (hL.sub hS) hc11 X X X Tryz.isAgg3)) ?_
 refine zJ 9 (.det (.int .i64 (cmpI ((a.line)) ((b.line))))) [2, 0, 4] rfl t_kr t_kr ?_ ?_
 ·
  intro hD wD τD hL hS hO _ _ _ _ _ _
  have st20 := St.start hS
  refine zi st20 X X X Tryz.call106 X (c_cmp_Compare_int st20.sub _ _) ?_
  intro r21 w22 h23 le24 st25 q26
  obtain rfl := q26
  exact zt ⟨_, _, rfl, st25, (), rfl, trivial⟩
 refine zq 10 [] X t_kr t_kr X X (fun hD wD τD hL hS hO  => (zA X Tryz.underlying70 X Tryz.sizeOf3 X))<|zq 11 [0] X t_kr t_kr X X (fun hD wD τD hL hS hO _ _ => (zc (j := 2) (hL.sub hS) (hc5.up le10) X X X Tryz.isAgg3))<|zq 12 [] X t_kr t_kr X X (fun hD wD τD hL hS hO  => (zA X Tryz.underlying70 X Tryz.sizeOf3 X))<|zq 13 [0] X t_kr t_kr X X (fun hD wD τD hL hS hO _ _ => (zc (j := 2) (hL.sub hS) hc11 X X X Tryz.isAgg3)) ?_
 refine zJ 14 (.det (.int .i64 (cmpI ((a.word)) ((b.word))))) [2, 0, 4] rfl t_kr t_kr ?_ ?_
 ·
  intro hD wD τD hL hS hO _ _ _ _ _ _
  have st27 := St.start hS
  refine zi st27 X X X Tryz.call106 X (c_cmp_Compare_int st27.sub _ _) ?_
  intro r28 w29 h30 le31 st32 q33
  obtain rfl := q33
  exact zt ⟨_, _, rfl, st32, (), rfl, trivial⟩
 refine zJ 15 (.res (fun h' res_ => Sl LInt h' res_ ([(cmpI ((a.chapter)) ((b.chapter))), (cmpI ((a.line)) ((b.line))), (cmpI ((a.word)) ((b.word)))])) (fun _ _ _ hl f => f.up hl)) [10, 5, 0] rfl t_kr t_kr ?_ ?_
 ·
  intro hD wD τD hL hS hO _ _ _ _ _ _
  have st34 := St.start hS
  refine zN (L := LInt) (xs := [(cmpI ((a.chapter)) ((b.chapter))), (cmpI ((a.line)) ((b.line))), (cmpI ((a.word)) ((b.word)))]) (cs := [.int .i64 (cmpI ((a.chapter)) ((b.chapter))), .int .i64 (cmpI ((a.line)) ((b.line))), .int .i64 (cmpI ((a.word)) ((b.word)))]) st34 (Enc.cons (L := LInt) (vs := [.int .i64 (cmpI ((a.chapter)) ((b.chapter)))]) (x := (cmpI ((a.chapter)) ((b.chapter)))) (h := hD) (X) (Enc.cons (L := LInt) (vs := [.int .i64 (cmpI ((a.line)) ((b.line)))]) (x := (cmpI ((a.line)) ((b.line)))) (h := hD) (X) (Enc.cons (L := LInt) (vs := [.int .i64 (cmpI ((a.word)) ((b.word)))]) (x := (cmpI ((a.word)) ((b.word)))) (h := hD) (X) Enc.nil))) X X X Tryz.underlying42 Tryz.info3 X X X t_kr ?_
  intro v35 w36 h39 le40 f37 st38
  exact zt ⟨_, _, rfl, st38, _, rfl, f37⟩
 refine zJ 16 (.det (.int .i64 ((orL (([(cmpI ((a.chapter)) ((b.chapter))), (cmpI ((a.line)) ((b.line))), (cmpI ((a.word)) ((b.word)))])))))) [0, 1] rfl t_kr t_kr ?_ ?_
 ·
  intro hD wD τD hL hS hO gv15_0 gf15_0 _ _
  have st41 := St.start hS
  refine zi st41 X X X Tryz.call65 X (c_cmp_Or_int st41.sub gf15_0) ?_
  intro r42 w43 h44 le45 st46 q47
  obtain rfl := q47
  exact zt ⟨_, _, rfl, st46, (), rfl, trivial⟩
 refine zq 17 [16, 15, 14, 13, 12, 11, 10, 9, 8, 7, 6, 5, 4, 3, 2, 1, 0] X t_kr t_kr X X (fun hD wD τD hL hS hO _ _ _ _ _ _ _ _ _ _ _ _ _ _ _ _ _ _ _ _ _ _ _ _ _ _ _ _ _ _ gv15_0 gf15_0 _ _ => (r_asI X))<|Drw.nil X X X X X X ⟨t_kr, X, t_kr, X, t_kr, X, X, t_kr, cx_nil⟩ ?_
 intro hE48 w49 _ le50 st51 _ _ _ _ _ _ _ _ _ _ _ _ _ _ _ _ _ _ _ _ _ _ _ _ _ _ _ _ _ _ gv15_0x52 gf15_0x52 _ _ _ _
 refine AllDeps.fin X<|U<|zo<|za Tryz.results97 ?_
 refine ⟨hE48, _, rfl, st51.done, ?_⟩
 refine zB ?_
 rfl
set_option maxRecDepth 4000 in
theorem c_vote_heads {h : Heap} {w : World} (hs : Sub h w) {a : Head} (a_l1 : a.stem.length ≤ 281474976710656) (a_l2 : 0 ≤ a.mark ∧ a.mark ≤ 255) {b : Head} (b_l1 : b.stem.length ≤ 281474976710656) (b_l2 : 0 ≤ b.mark ∧ b.mark ≤ 255) : Calls Tryz.prog 99 #[.agg #[strV a.stem, .int .u8 a.mark], .agg #[strV b.stem, .int .u8 b.mark]] w (Rets h w (fun _ _ res_ => res_ = .int .i64 ((orL [cmpT a.stem b.stem, cmpI a.mark b.mark])))) := by
 refine zz (n := 17) (args := [.agg #[strV a.stem, .int .u8 a.mark], .agg #[strV b.stem, .int .u8 b.mark]]) Tryz.func99 X X X ?_
 have st0 : St h w h w [] := St.start hs
 refine W.sr<|zy st0 (cs := [strV (a.stem), .int .u8 (a.mark)]) X X X ?_
 intro b1 w2 h3 le4 hc5 st6
 refine zy st6 (cs := [strV (b.stem), .int .u8 (b.mark)]) X X X ?_
 intro b7 w8 h9 le10 hc11 st12
 refine v_asI X X<|Y<|zf<|zad (er := ([], [], [], [], 0)) (dsts := [5, 6, 7, 8, 9, 10, 11, 12, 13, 14, 15, 16, 4]) st12 Tryz.mixed<|zq 0 [] X t_kr t_kr X X (fun hD wD τD hL hS hO  => (zA X Tryz.underlying72 X Tryz.sizeOf9 X))<|zq 1 [0] X t_kr t_kr X X (fun hD wD τD hL hS hO _ _ => (zc (j := 0) (hL.sub hS) (hc5.up le10) X X X Tryz.isAgg9))<|zq 2 [] X t_kr t_kr X X (fun hD wD τD hL hS hO  => (zA X Tryz.underlying72 X Tryz.sizeOf9 X))<|zq 3 [0] X t_kr t_kr X X (fun hD wD τD hL hS hO _ _ => (zc (j := 0) (hL.sub hS) hc11 X X X Tryz.isAgg9)) ?_
 refine zJ 4 (.det (.int .i64 (cmpT ((a.stem)) ((b.stem))))) [2, 0] rfl t_kr t_kr ?_ ?_
 ·
  intro hD wD τD hL hS hO _ _ _ _
  have st13 := St.start hS
  refine zi st13 X X X Tryz.call141 X (c_cmp_Compare_string st13.sub _ t_str _ t_str) ?_
  intro r14 w15 h16 le17 st18 q19
  obtain rfl := q19
  exact zt ⟨_, _, rfl, st18, (), rfl, trivial⟩
 refine zq 5 [] X t_kr t_kr X X (fun hD wD τD hL hS hO  => (zA X Tryz.underlying72 X Tryz.sizeOf5 X))<|zq 6 [0] X t_kr t_kr X X (fun hD wD τD hL hS hO _ _ => (zc (j := 1) (hL.sub hS) (hc5.up le10) X X X Tryz.isAgg5))<|zq 7 [] X t_kr t_kr X X (fun hD wD τD hL hS hO  => (zA X Tryz.underlying72 X Tryz.sizeOf5 X))<|zq 8 [0] X t_kr t_kr X X (fun hD wD τD hL hS hO _ _ => (zc (j := 1) (hL.sub hS) hc11 X X X Tryz.isAgg5)) ?_
 refine zJ 9 (.det (.int .i64 (cmpI ((a.mark)) ((b.mark))))) [2, 0, 4] rfl t_kr t_kr ?_ ?_
 ·
  intro hD wD τD hL hS hO _ _ _ _ _ _
  have st20 := St.start hS
  refine zi st20 rfl rfl rfl Tryz.call142 rfl (c_cmp_Compare_uint8 st20.sub _ (by omega) _ (by omega)) ?_
  intro r21 w22 h23 le24 st25 q26
  obtain rfl := q26
  exact zt ⟨_, _, rfl, st25, (), rfl, trivial⟩
 refine zJ 10 (.res (fun h' res_ => Sl LInt h' res_ ([(cmpT ((a.stem)) ((b.stem))), (cmpI ((a.mark)) ((b.mark)))])) (fun _ _ _ hl f => f.up hl)) [5, 0] rfl t_kr t_kr ?_ ?_
 ·
  intro hD wD τD hL hS hO _ _ _ _
  have st27 := St.start hS
  refine zN (L := LInt) (xs := [(cmpT ((a.stem)) ((b.stem))), (cmpI ((a.mark)) ((b.mark)))]) (cs := [.int .i64 (cmpT ((a.stem)) ((b.stem))), .int .i64 (cmpI ((a.mark)) ((b.mark)))]) st27 (Enc.cons (L := LInt) (vs := [.int .i64 (cmpT ((a.stem)) ((b.stem)))]) (x := (cmpT ((a.stem)) ((b.stem)))) (h := hD) (X) (Enc.cons (L := LInt) (vs := [.int .i64 (cmpI ((a.mark)) ((b.mark)))]) (x := (cmpI ((a.mark)) ((b.mark)))) (h := hD) (X) Enc.nil)) X X X Tryz.underlying42 Tryz.info3 X X X t_kr ?_
  intro v28 w29 h32 le33 f30 st31
  exact zt ⟨_, _, rfl, st31, _, rfl, f30⟩
 refine zJ 11 (.det (.int .i64 ((orL (([(cmpT ((a.stem)) ((b.stem))), (cmpI ((a.mark)) ((b.mark)))])))))) [0, 1] rfl t_kr t_kr ?_ ?_
 ·
  intro hD wD τD hL hS hO gv10_0 gf10_0 _ _
  have st34 := St.start hS
  refine zi st34 X X X Tryz.call65 X (c_cmp_Or_int st34.sub gf10_0) ?_
  intro r35 w36 h37 le38 st39 q40
  obtain rfl := q40
  exact zt ⟨_, _, rfl, st39, (), rfl, trivial⟩
 refine zq 12 [11, 10, 9, 8, 7, 6, 5, 4, 3, 2, 1, 0] X t_kr t_kr X X (fun hD wD τD hL hS hO _ _ _ _ _ _ _ _ _ _ _ _ _ _ _ _ _ _ _ _ gv10_0 gf10_0 _ _ => (r_asI X))<|Drw.nil X X X X X X ⟨t_kr, X, t_kr, X, t_kr, X, X, t_kr, cx_nil⟩ ?_
 intro hE41 w42 _ le43 st44 _ _ _ _ _ _ _ _ _ _ _ _ _ _ _ _ _ _ _ _ gv10_0x45 gf10_0x45 _ _ _ _
 refine AllDeps.fin X<|U<|zo<|za Tryz.results99 ?_
 refine ⟨hE41, _, rfl, st44.done, ?_⟩
 refine zB ?_
 rfl
set_option maxRecDepth 4000 in
theorem c_vote_head_1 {h : Heap} {w : World} (hs : Sub h w) (b : Int) (b_l : 0 ≤ b ∧ b ≤ 255) : Calls Tryz.prog 140 #[.int .u8 b] w (Rets h w (fun _ _ res_ => res_ = .bool ((decide (b < 97) || decide (122 < b))))) := by
 refine zz (n := 9) (args := [.int .u8 b]) Tryz.func140 X X X ?_
 have st0 : St h w h w [] := St.start hs
 refine W.sr<|v_asB X X<|Y<|W.sr<|v_mvI X X<|v_lss X X X<|v_mvB X X ?_
 refine zx (d := 5) rfl (fun g1 => ?_) (fun g1 => ?_)
 ·
  replace g1 := of_decide_eq_true g1
  refine Z X X X X X<|Z X X X X X<|v_pickT (v := (.bool _)) X X X<|v_asB X X<|Y<|zo<|za Tryz.results140 ?_
  refine ⟨h, _, rfl, st0.done, ?_⟩
  refine zj ?_
  first | (simp_all; done) | (simp_all; omega)
 ·
  replace g1 := of_decide_eq_false g1
  refine M X X (d := 5) X<|v_mvI X X<|M X X (d := 5) X<|v_gtr X X X<|v_pickF (v := (.bool _)) X X X<|v_asB X X<|Y<|zo<|za Tryz.results140 ?_
  refine ⟨h, _, rfl, st0.done, ?_⟩
  refine zj ?_
  first | (simp_all; done) | (simp_all; omega)
set_option maxRecDepth 4000 in
theorem c_vote_head {h : Heap} {w : World} (hs : Sub h w) {hd : Head} (hd_l1 : hd.stem.length ≤ 281474976710656) (hd_l2 : 0 ≤ hd.mark ∧ hd.mark ≤ 255) : Calls Tryz.prog 98 #[.agg #[strV hd.stem, .int .u8 hd.mark]] w (Rets h w (fun _ _ res_ => res_ = .bool (headB hd))) := by
 refine zz (n := 22) (args := [.agg #[strV hd.stem, .int .u8 hd.mark]]) Tryz.func98 X X X ?_
 have st0 : St h w h w [] := St.start hs
 refine W.sr<|zy st0 (cs := [strV (hd.stem), .int .u8 (hd.mark)]) X X X ?_
 intro b1 w2 h3 le4 hc5 st6
 refine v_asB X X<|Y<|W.sr<|v_field_addr X Tryz.underlying72 X Tryz.sizeOf9 X X<|v_load_cells1 (j := 0) st6.sub hc5 X X X Tryz.isAgg9 X<|v_len_str X Tryz.underlying9 X<|zN (L := LInt) (xs := [((hd.stem).length : Int)]) (cs := [.int .i64 ((hd.stem).length : Int)]) st6 (Enc.cons (L := LInt) (vs := [.int .i64 ((hd.stem).length : Int)]) (x := ((hd.stem).length : Int)) (h := h3) (X) Enc.nil) X X X Tryz.underlying42 Tryz.info3 X X X t_kr ?_
 intro v7 w8 h11 le12 f9 st10
 refine zi st10 X X X Tryz.call55 X (c_vote_in st10.sub _ _ f9) ?_
 intro r13 w14 h15 le16 st17 q18
 obtain rfl := q18
 refine v_mvB X X ?_
 refine zx (d := 8) rfl (fun g19 => ?_) (fun g19 => ?_)
 ·
  refine M X X (d := 8) X<|v_field_addr X Tryz.underlying72 X Tryz.sizeOf5 X X<|M X X (d := 8) X<|v_load_cells1 (j := 1) st17.sub (hc5.up (le12.trans le16)) X X X Tryz.isAgg5 X<|M X X (d := 8) X ?_
  refine zk rfl rfl (r_conv_int rfl rfl Tryz.underlying3 (IntWalk.i64_in _ (by omega))) ?_
  refine M X X (d := 8) X<|zN (L := LInt) (xs := [(hd.mark)]) (cs := [.int .i64 (hd.mark)]) st17 (Enc.cons (L := LInt) (vs := [.int .i64 (hd.mark)]) (x := (hd.mark)) (h := h15) (X) Enc.nil) X X X Tryz.underlying42 Tryz.info3 X X X t_kr ?_
  intro v20 w21 h24 le25 f22 st23
  refine M X X (d := 8) X<|zi st23 X X X Tryz.call55 X (c_vote_in st23.sub _ _ f22) ?_
  intro r26 w27 h28 le29 st30 q31
  obtain rfl := q31
  refine v_pickT (v := (.bool _)) X X X<|v_mvB X X ?_
  refine zx (d := 15) rfl (fun g32 => ?_) (fun g32 => ?_)
  ·
   refine M X X (d := 15) X<|v_field_addr X Tryz.underlying72 X Tryz.sizeOf9 X X<|M X X (d := 15) X<|v_load_cells1 (j := 0) st30.sub (hc5.up (((le12.trans le16).trans le25).trans le29)) X X X Tryz.isAgg9 X<|M X X (d := 15) X ?_
   refine OpsL.strBytes st30 (s := (hd.stem)) rfl (by first | assumption | omega | (simp; omega)) rfl Tryz.underlying9 Tryz.underlying215 Tryz.underlying5 Tryz.sizeOf5 ?_
   intro v33 w34 h35 le36 f37 st38
   refine M X X (d := 15) X ?_
   refine zi st38 rfl rfl rfl Tryz.call139 rfl (c_slices_ContainsFunc_Lbyte_byte st38.sub f37 (fun x_ => (decide ((x_) < 97) || decide (122 < (x_)))) Tryz.call140 (fun x_ h_ w_ vs_ le_ hs_ hx_ hr_ u_ hu_ => by cases hu_; obtain ⟨hr1_, hr2_⟩ := hr_; cases hr1_; exact c_vote_head_1 hs_ _ hr2_)) ?_
   intro r39 w40 h41 le42 st43 q44
   obtain rfl := q44
   refine M X X (d := 15) X<|v_not X X<|v_pickT (v := (.bool _)) X X X<|v_asB X X<|Y<|zo<|za Tryz.results98 ?_
   refine ⟨h41, _, rfl, st43.done, ?_⟩
   refine zj ?_
   simp_all [headB, wordB_eq, inAll_one]
  ·
   refine Z X X X X X<|Z X X X X X<|Z X X X X X<|Z X X X X X<|Z X X X X X<|v_pickF (v := (.bool _)) X X X<|v_asB X X<|Y<|zo<|za Tryz.results98 ?_
   refine ⟨h28, _, rfl, st30.done, ?_⟩
   refine zj ?_
   simp_all [headB, wordB_eq, inAll_one]
 ·
  refine Z X X X X X<|Z X X X X X<|Z X X X X X<|Z X X X X X<|Z X X X X X<|v_pickF (v := (.bool _)) X X X<|v_mvB X X<|Z X X X X X<|Z X X X X X<|Z X X X X X<|Z X X X X X<|Z X X X X X<|v_pickF (v := (.bool _)) X X X<|v_asB X X<|Y<|zo<|za Tryz.results98 ?_
  refine ⟨h15, _, rfl, st17.done, ?_⟩
  refine zj ?_
  simp_all [headB, wordB_eq, inAll_one]
set_option maxRecDepth 4000 in
theorem c_vote_asked_1 {h : Heap} {w : World} (hs : Sub h w) {p : Poll} {p_v0 : Value} (p_f0 : Sl LChapter h p_v0 p.text.chapters) {p_v1 : Value} (p_f1 : Sl LRule h p_v1 p.lexicon.rules) {p_v2 : Value} (p_f2 : Sl LDecision h p_v2 p.lexicon.decisions) {p_v3 : Value} (p_f3 : Sl LQuestion h p_v3 p.questions) {p_v4 : Value} (p_f4 : Sl LVoter h p_v4 p.voters) (i : Int) (hi : 0 ≤ i ∧ i < (p.voters.length : Int)) : Calls Tryz.prog 261 #[.agg #[p_v0, p_v1, p_v2, p_v3, p_v4], .int .i64 i] w (Rets h w (fun _ _ res_ => res_ = .bool ((match p.voters[i.toNat]? with | some v => inB v.id 0 9999 | none => true)))) := by
 refine zz (n := 13) (args := [.agg #[p_v0, p_v1, p_v2, p_v3, p_v4], .int .i64 i]) Tryz.func261 X X X ?_
 have st0 : St h w h w [] := St.start hs
 have p_f0_b := p_f0.le
 have p_f1_b := p_f1.le
 have p_f2_b := p_f2.le
 have p_f3_b := p_f3.le
 have p_f4_b := p_f4.le
 obtain ⟨v, hv⟩ : ∃ v, p.voters[i.toNat]? = some v := ⟨_, List.getElem?_eq_getElem (by omega)⟩
 refine W.sr<|zy st0 (cs := [p_v0, p_v1, p_v2, p_v3, p_v4]) X X X ?_
 intro b1 w2 h3 le4 hc5 st6
 refine v_asB X X<|Y<|W.sr<|v_field_addr X Tryz.underlying32 X Tryz.sizeOf30 X X<|v_load_cells1 (j := 4) st6.sub hc5 X X X Tryz.isAgg30 X<|v_mvI X X ?_
 obtain ⟨b7, o8, _, he10, hc9, hr_v⟩ := Sl.elem (p_f4.up le4) hv
 obtain ⟨v11, rfl, f12⟩ := hr_v
 have f12_b := f12.le
 refine zk rfl rfl (zE he10 rfl rfl (hk := (show _ = ((i.toNat : Nat) : Int) by omega)) (hu := Tryz.underlying30) (hz := Tryz.sizeOf79)) ?_
 refine v_field_addr X Tryz.underlying79 X Tryz.sizeOf3 X X<|v_load_cells1 (j := 0) st6.sub hc9 X X X Tryz.isAgg3 X<|zN (L := LInt) (xs := [(v.id)]) (cs := [.int .i64 (v.id)]) st6 (Enc.cons (L := LInt) (vs := [.int .i64 (v.id)]) (x := (v.id)) (h := h3) (X) Enc.nil) X X X Tryz.underlying42 Tryz.info3 X X X t_kr ?_
 intro v13 w14 h17 le18 f15 st16
 refine zi st16 X X X Tryz.call55 X (c_vote_in st16.sub _ _ f15) ?_
 intro r19 w20 h21 le22 st23 q24
 obtain rfl := q24
 refine v_asB X X<|Y<|zo<|za Tryz.results261 ?_
 refine ⟨h21, _, rfl, st23.done, ?_⟩
 refine zj ?_
 simp [hv, inAll_one]
set_option maxRecDepth 4000 in
theorem c_vote_asked_2 {h : Heap} {w : World} (hs : Sub h w) {p : Poll} {p_v0 : Value} (p_f0 : Sl LChapter h p_v0 p.text.chapters) {p_v1 : Value} (p_f1 : Sl LRule h p_v1 p.lexicon.rules) {p_v2 : Value} (p_f2 : Sl LDecision h p_v2 p.lexicon.decisions) {p_v3 : Value} (p_f3 : Sl LQuestion h p_v3 p.questions) {p_v4 : Value} (p_f4 : Sl LVoter h p_v4 p.voters) (i : Int) (hi : 0 ≤ i ∧ i < (p.voters.length : Int)) : Calls Tryz.prog 262 #[.agg #[p_v0, p_v1, p_v2, p_v3, p_v4], .int .i64 i] w (Rets h w (fun _ _ res_ => res_ = .bool ((match p.voters[i.toNat]? with | some v => inB v.wrong 0 6 | none => true)))) := by
 refine zz (n := 13) (args := [.agg #[p_v0, p_v1, p_v2, p_v3, p_v4], .int .i64 i]) Tryz.func262 X X X ?_
 have st0 : St h w h w [] := St.start hs
 have p_f0_b := p_f0.le
 have p_f1_b := p_f1.le
 have p_f2_b := p_f2.le
 have p_f3_b := p_f3.le
 have p_f4_b := p_f4.le
 obtain ⟨v, hv⟩ : ∃ v, p.voters[i.toNat]? = some v := ⟨_, List.getElem?_eq_getElem (by omega)⟩
 refine W.sr<|zy st0 (cs := [p_v0, p_v1, p_v2, p_v3, p_v4]) X X X ?_
 intro b1 w2 h3 le4 hc5 st6
 refine v_asB X X<|Y<|W.sr<|v_field_addr X Tryz.underlying32 X Tryz.sizeOf30 X X<|v_load_cells1 (j := 4) st6.sub hc5 X X X Tryz.isAgg30 X<|v_mvI X X ?_
 obtain ⟨b7, o8, _, he10, hc9, hr_v⟩ := Sl.elem (p_f4.up le4) hv
 obtain ⟨v11, rfl, f12⟩ := hr_v
 have f12_b := f12.le
 refine zk rfl rfl (zE he10 rfl rfl (hk := (show _ = ((i.toNat : Nat) : Int) by omega)) (hu := Tryz.underlying30) (hz := Tryz.sizeOf79)) ?_
 refine v_field_addr X Tryz.underlying79 X Tryz.sizeOf3 X X<|v_load_cells1 (j := 1) st6.sub hc9 X X X Tryz.isAgg3 X<|zN (L := LInt) (xs := [(v.wrong)]) (cs := [.int .i64 (v.wrong)]) st6 (Enc.cons (L := LInt) (vs := [.int .i64 (v.wrong)]) (x := (v.wrong)) (h := h3) (X) Enc.nil) X X X Tryz.underlying42 Tryz.info3 X X X t_kr ?_
 intro v13 w14 h17 le18 f15 st16
 refine zi st16 X X X Tryz.call55 X (c_vote_in st16.sub _ _ f15) ?_
 intro r19 w20 h21 le22 st23 q24
 obtain rfl := q24
 refine v_asB X X<|Y<|zo<|za Tryz.results262 ?_
 refine ⟨h21, _, rfl, st23.done, ?_⟩
 refine zj ?_
 simp [hv, inAll_one]
set_option maxRecDepth 4000 in
theorem c_vote_asked_3 {h : Heap} {w : World} (hs : Sub h w) {p : Poll} {p_v0 : Value} (p_f0 : Sl LChapter h p_v0 p.text.chapters) {p_v1 : Value} (p_f1 : Sl LRule h p_v1 p.lexicon.rules) {p_v2 : Value} (p_f2 : Sl LDecision h p_v2 p.lexicon.decisions) {p_v3 : Value} (p_f3 : Sl LQuestion h p_v3 p.questions) {p_v4 : Value} (p_f4 : Sl LVoter h p_v4 p.voters) (i : Int) (hi : 0 ≤ i ∧ i < (p.voters.length : Int)) : Calls Tryz.prog 263 #[.agg #[p_v0, p_v1, p_v2, p_v3, p_v4], .int .i64 i] w (Rets h w (fun _ _ res_ => res_ = .bool ((match p.voters[i.toNat]? with | some v => decide (v.votes.length = p.questions.length) | none => true)))) := by
 refine zz (n := 16) (args := [.agg #[p_v0, p_v1, p_v2, p_v3, p_v4], .int .i64 i]) Tryz.func263 X X X ?_
 have st0 : St h w h w [] := St.start hs
 have p_f0_b := p_f0.le
 have p_f1_b := p_f1.le
 have p_f2_b := p_f2.le
 have p_f3_b := p_f3.le
 have p_f4_b := p_f4.le
 obtain ⟨v, hv⟩ : ∃ v, p.voters[i.toNat]? = some v := ⟨_, List.getElem?_eq_getElem (by omega)⟩
 refine W.sr<|zy st0 (cs := [p_v0, p_v1, p_v2, p_v3, p_v4]) X X X ?_
 intro b1 w2 h3 le4 hc5 st6
 refine v_asB X X<|Y<|zf<|zS Tryz.mixed t_kr (Cls h3 _) (Cls.drew st6)<|u_field_addr X Tryz.underlying32 X Tryz.sizeOf30 X X<|zm X X (fun _ hC => (zc (j := 4) hC.sub hc5 X X X Tryz.isAgg30))<|u_mvI X X ?_
 obtain ⟨b7, o8, _, he10, hc9, hr_v⟩ := Sl.elem (p_f4.up le4) hv
 obtain ⟨v11, rfl, f12⟩ := hr_v
 have f12_b := f12.le
 refine zm rfl rfl (fun _ _ => (zE he10 rfl rfl (hk := (show _ = ((i.toNat : Nat) : Int) by omega)) (hu := Tryz.underlying30) (hz := Tryz.sizeOf79))) ?_
 refine u_field_addr X Tryz.underlying79 X Tryz.sizeOf42 X X<|zm X X (fun _ hC => (zc (j := 2) hC.sub hc9 X X X Tryz.isAgg42))<|u_len f12 X Tryz.underlying42 X<|u_field_addr X Tryz.underlying32 X Tryz.sizeOf29 X X<|zm X X (fun _ hC => (zc (j := 3) hC.sub hc5 X X X Tryz.isAgg29))<|u_len (p_f3.up le4) X Tryz.underlying29 X<|u_eql X X X<|u_asB X X<|zI ?_
 rintro w13 ⟨h14, s15⟩
 have st16 := st6.call0 s15
 refine U<|zo<|za Tryz.results263 ?_
 refine ⟨h14, _, rfl, st16.done, ?_⟩
 refine zj ?_
 simp only [hv]; rw [Bool.eq_iff_iff]; simp only [decide_eq_true_eq]; omega
set_option maxRecDepth 4000 in
theorem c_vote_asked_4 {h : Heap} {w : World} (hs : Sub h w) {p : Poll} {p_v0 : Value} (p_f0 : Sl LChapter h p_v0 p.text.chapters) {p_v1 : Value} (p_f1 : Sl LRule h p_v1 p.lexicon.rules) {p_v2 : Value} (p_f2 : Sl LDecision h p_v2 p.lexicon.decisions) {p_v3 : Value} (p_f3 : Sl LQuestion h p_v3 p.questions) {p_v4 : Value} (p_f4 : Sl LVoter h p_v4 p.voters) (i : Int) (hi : 0 ≤ i ∧ i < (p.voters.length : Int)) (hvl : ∀ v ∈ p.voters, v.votes.length = p.questions.length ∨ p.voters[i.toNat]? ≠ some v) : Calls Tryz.prog 264 #[.agg #[p_v0, p_v1, p_v2, p_v3, p_v4], .int .i64 i] w (Rets h w (fun _ _ res_ => res_ = .bool ((match p.voters[i.toNat]? with | some v => votesOk p v | none => true)))) := by
 refine zz (n := 32) (args := [.agg #[p_v0, p_v1, p_v2, p_v3, p_v4], .int .i64 i]) Tryz.func264 X X X ?_
 have st0 : St h w h w [] := St.start hs
 have p_f0_b := p_f0.le
 have p_f1_b := p_f1.le
 have p_f2_b := p_f2.le
 have p_f3_b := p_f3.le
 have p_f4_b := p_f4.le
 obtain ⟨v, hv⟩ : ∃ v, p.voters[i.toNat]? = some v := ⟨_, List.getElem?_eq_getElem (by omega)⟩
 have hvq : v.votes.length = p.questions.length := by rcases hvl v (List.mem_of_getElem? hv) with q_ | q_; exact q_; exact absurd hv q_
 refine W.sr<|zy st0 (cs := [p_v0, p_v1, p_v2, p_v3, p_v4]) X X X ?_
 intro b1 w2 h3 le4 hc5 st6
 refine v_asB X X<|Y<|zf<|W.sr<|v_field_addr X Tryz.underlying32 X Tryz.sizeOf30 X X<|v_load_cells1 (j := 4) st6.sub hc5 X X X Tryz.isAgg30 X<|v_mvI X X ?_
 obtain ⟨b7, o8, _, he10, hc9, hr_v⟩ := Sl.elem (p_f4.up le4) hv
 obtain ⟨v11, rfl, f12⟩ := hr_v
 have f12_b := f12.le
 refine zk rfl rfl (zE he10 rfl rfl (hk := (show _ = ((i.toNat : Nat) : Int) by omega)) (hu := Tryz.underlying30) (hz := Tryz.sizeOf79)) ?_
 refine v_field_addr X Tryz.underlying79 X Tryz.sizeOf42 X X<|v_load_cells1 (j := 2) st6.sub hc9 X X X Tryz.isAgg42 X<|v_len f12 X Tryz.underlying42 X<|v_mvI X X<|Y<|zs ?_
 refine zG [4, 5, 6, 14, 15, 16, 17, 18, 19, 20, 21, 22, 23, 24, 25, 26, 27, 28, 29, 30, 31] (G := Nat × Heap) (fun ⟨k, h13⟩ => [(14, .int .i64 (k : Int))]) (fun ⟨k, h13⟩ w' => Le h3 h13 ∧ St h w h13 w' [] ∧ (k ≤ v.votes.length) ∧ (∀ j, j < k → votesAt p v j = true)) (fun ⟨k, h13⟩ => v.votes.length - k) ⟨0, h3⟩ ⟨rfl, trivial⟩ ⟨Le.refl _, st6, zK, zK⟩ ?_
 rintro ⟨k, h13⟩ _ w16 ⟨le14, st15, hk, hN⟩
 refine W.sr<|v_lss X X X<|Y<|zf ?_
 refine zh rfl (fun c17 => ?_) (fun c17 => ?_)
 ·
  replace c17 := of_decide_eq_true c17
  refine zr<|U<|zf<|zs<|W.sr<|v_mvI X X ?_
  have hn : ∃ y_, (v.votes)[k]? = some y_ := ⟨_, List.getElem?_eq_getElem (by omega)⟩
  obtain ⟨n, hn⟩ := hn
  obtain ⟨b18, o19, _, he21, hc20, hr_n⟩ := Sl.elem (f12.up le14) hn
  obtain rfl := hr_n
  refine v_index_el he21 X X (hk := X) (hu := Tryz.underlying42) (hz := Tryz.sizeOf3) X<|v_load_cells1 (j := 0) st15.sub hc20 X X X Tryz.isAgg3 X<|v_asI X X<|v_asI X X<|Y<|W.sr<|v_field_addr X Tryz.underlying32 X Tryz.sizeOf29 X X<|v_load_cells1 (j := 3) st15.sub (hc5.up le14) X X X Tryz.isAgg29 X<|v_mvI X X ?_
  have hq : ∃ y_, (p.questions)[k]? = some y_ := ⟨_, List.getElem?_eq_getElem (by omega)⟩
  obtain ⟨q, hq⟩ := hq
  obtain ⟨b22, o23, _, he25, hc24, hr_q⟩ := Sl.elem (p_f3.up (le4.trans le14)) hq
  obtain ⟨v26, rfl, f27⟩ := hr_q
  have f27_b := f27.le
  refine v_index_el he25 X X (hk := X) (hu := Tryz.underlying29) (hz := Tryz.sizeOf84) X<|v_field_addr X Tryz.underlying84 X Tryz.sizeOf82 X X<|v_load_cells1 (j := 3) st15.sub hc24 X X X Tryz.isAgg82 X<|v_len f27 X Tryz.underlying82 X<|v_sub X X t_om X<|v_mvI X X<|zN (L := LInt) (xs := [n]) (cs := [.int .i64 n]) st15 (Enc.cons (L := LInt) (vs := [.int .i64 n]) (x := n) (h := h13) (X) Enc.nil) X X X Tryz.underlying42 Tryz.info3 X X X t_kr ?_
  intro v28 w29 h32 le33 f30 st31
  refine zi st31 X X X Tryz.call55 X (c_vote_in st31.sub _ _ f30) ?_
  intro r34 w35 h36 le37 st38 q39
  obtain rfl := q39
  refine v_not X X<|Y ?_
  refine zh rfl (fun c40 => ?_) (fun c40 => ?_)
  ·
   refine W.sr<|v_asB X X<|Y<|zo<|zn<|E<|E<|zn<|E<|za Tryz.results264 ?_
   refine ⟨h36, _, rfl, st38.done, ?_⟩
   refine zj ?_
   simp only [hv]
   exact (votesOk_no (k := k) (by simp only [votesAt, hn, hq]; simpa [inAll_one] using c40)).symm
  ·
   refine zr<|zw<|U<|zg<|v_add X X t_om X<|v_mvI X X<|Y ?_
   refine ⟨⟨k + 1, h36⟩, ⟨rfl, trivial⟩, ?_, ⟨((le14.trans le33).trans le37), st38, ?_, ?_⟩, ?_⟩
   ·exact zH
   ·first | omega | (simp; omega)
   ·exact all_lt_succ hN (by simp only [votesAt, hn, hq]; simpa [inAll_one] using c40)
   ·show v.votes.length - ((k + 1)) < v.votes.length - k
    omega
 ·
  replace c17 := of_decide_eq_false c17
  refine zL<|ze<|ze<|zF<|U<|W.sr<|v_asB X X<|Y<|zo<|za Tryz.results264 ?_
  refine ⟨h13, _, rfl, st15.done, ?_⟩
  refine zj ?_
  simp only [hv]
  exact (range_all hN (by omega)).symm
set_option maxRecDepth 4000 in
theorem c_vote_asked_5_1 {h : Heap} {w : World} (hs : Sub h w) {u : Voter} {u_v0 : Value} (u_f0 : Sl LInt h u_v0 u.votes) {p_b : Nat} {p : Poll} {p_v0 : Value} (p_f0 : Sl LChapter h p_v0 p.text.chapters) {p_v1 : Value} (p_f1 : Sl LRule h p_v1 p.lexicon.rules) {p_v2 : Value} (p_f2 : Sl LDecision h p_v2 p.lexicon.decisions) {p_v3 : Value} (p_f3 : Sl LQuestion h p_v3 p.questions) {p_v4 : Value} (p_f4 : Sl LVoter h p_v4 p.voters) (p_c : Cells h p_b 0 [p_v0, p_v1, p_v2, p_v3, p_v4]) {i_b : Nat} {i : Int} (i_c : Cells h i_b 0 [.int .i64 i]) (hi : 0 ≤ i ∧ i < (p.voters.length : Int)) : Calls Tryz.prog 267 #[.agg #[.int .i64 u.id, .int .i64 u.wrong, u_v0], .pointer (some ⟨p_b, 0, none⟩), .pointer (some ⟨i_b, 0, none⟩)] w (Rets h w (fun _ _ res_ => res_ = .bool ((match p.voters[i.toNat]? with | some v => decide (u.id = v.id) | none => false)))) := by
 refine zz (n := 14) (args := [.agg #[.int .i64 u.id, .int .i64 u.wrong, u_v0], .pointer (some ⟨p_b, 0, none⟩), .pointer (some ⟨i_b, 0, none⟩)]) Tryz.func267 X X X ?_
 have st0 : St h w h w [] := St.start hs
 have u_f0_b := u_f0.le
 have p_f0_b := p_f0.le
 have p_f1_b := p_f1.le
 have p_f2_b := p_f2.le
 have p_f3_b := p_f3.le
 have p_f4_b := p_f4.le
 obtain ⟨v, hv⟩ : ∃ v, p.voters[i.toNat]? = some v := ⟨_, List.getElem?_eq_getElem (by omega)⟩
 refine W.sr<|zy st0 (cs := [.int .i64 (u.id), .int .i64 (u.wrong), u_v0]) X X X ?_
 intro b1 w2 h3 le4 hc5 st6
 refine v_asB X X<|Y<|zf<|zS Tryz.mixed t_kr (Cls h3 _) (Cls.drew st6)<|u_field_addr X Tryz.underlying79 X Tryz.sizeOf3 X X<|zm X X (fun _ hC => (zc (j := 0) hC.sub hc5 X X X Tryz.isAgg3))<|u_field_addr X Tryz.underlying32 X Tryz.sizeOf30 X X<|zm X X (fun _ hC => (zc (j := 4) hC.sub (p_c.up le4) X X X Tryz.isAgg30))<|zm X X (fun _ hC => (zc (j := 0) hC.sub (i_c.up le4) X X X Tryz.isAgg3)) ?_
 obtain ⟨b7, o8, _, he10, hc9, hr_v⟩ := Sl.elem (p_f4.up le4) hv
 obtain ⟨v11, rfl, f12⟩ := hr_v
 have f12_b := f12.le
 refine zm rfl rfl (fun _ _ => (zE he10 rfl rfl (hk := (show _ = ((i.toNat : Nat) : Int) by omega)) (hu := Tryz.underlying30) (hz := Tryz.sizeOf79))) ?_
 refine u_field_addr X Tryz.underlying79 X Tryz.sizeOf3 X X<|zm X X (fun _ hC => (zc (j := 0) hC.sub hc9 X X X Tryz.isAgg3))<|u_eql X X X<|u_asB X X<|zI ?_
 rintro w13 ⟨h14, s15⟩
 have st16 := st6.call0 s15
 refine U<|zo<|za Tryz.results267 ?_
 refine ⟨h14, _, rfl, st16.done, ?_⟩
 refine zj ?_
 simp only [hv]
set_option maxRecDepth 4000 in
theorem c_vote_asked_5 {h : Heap} {w : World} (hs : Sub h w) {p : Poll} {p_v0 : Value} (p_f0 : Sl LChapter h p_v0 p.text.chapters) {p_v1 : Value} (p_f1 : Sl LRule h p_v1 p.lexicon.rules) {p_v2 : Value} (p_f2 : Sl LDecision h p_v2 p.lexicon.decisions) {p_v3 : Value} (p_f3 : Sl LQuestion h p_v3 p.questions) {p_v4 : Value} (p_f4 : Sl LVoter h p_v4 p.voters) (i : Int) (hi : 0 ≤ i ∧ i < (p.voters.length : Int)) : Calls Tryz.prog 265 #[.agg #[p_v0, p_v1, p_v2, p_v3, p_v4], .int .i64 i] w (Rets h w (fun _ _ res_ => res_ = .bool ((match p.voters[i.toNat]? with | some v => (!((p.voters.take i.toNat).any fun u => decide (u.id = v.id))) | none => true)))) := by
 refine zz (n := 12) (args := [.agg #[p_v0, p_v1, p_v2, p_v3, p_v4], .int .i64 i]) Tryz.func265 X X X ?_
 have st0 : St h w h w [] := St.start hs
 have p_f0_b := p_f0.le
 have p_f1_b := p_f1.le
 have p_f2_b := p_f2.le
 have p_f3_b := p_f3.le
 have p_f4_b := p_f4.le
 obtain ⟨v, hv⟩ : ∃ v, p.voters[i.toNat]? = some v := ⟨_, List.getElem?_eq_getElem (by omega)⟩
 refine W.sr<|zy st0 (cs := [p_v0, p_v1, p_v2, p_v3, p_v4]) X X X ?_
 intro b1 w2 h3 le4 hc5 st6
 refine zy st6 (cs := [.int .i64 i]) X X X ?_
 intro b7 w8 h9 le10 hc11 st12
 refine v_asB X X<|Y<|W.sr<|v_field_addr X Tryz.underlying32 X Tryz.sizeOf30 X X<|v_load_cells1 (j := 4) st12.sub (hc5.up le10) X X X Tryz.isAgg30 X<|v_load_cells1 (j := 0) st12.sub hc11 X X X Tryz.isAgg3 X ?_
 have f13 := Sl.take p_f4 (k := i.toNat) (by omega)
 refine zk rfl rfl (r_slice_to_sl (p_f4.up (le4.trans le10)) rfl rfl (hk := (show _ = ((i.toNat : Nat) : Int) by omega)) (by omega) Tryz.underlying30 Tryz.sizeOf79) ?_
 refine v_make_func X X X ?_
 refine zi st12 rfl rfl rfl Tryz.call266 rfl (c_slices_ContainsFunc_Lapi_Voter_api_Voter st12.sub (f13.up (le4.trans le10)) (fun x_ => (match (p).voters[(i).toNat]? with | some v => decide ((x_).id = v.id) | none => false)) Tryz.call267 (fun x_ h_ w_ vs_ le_ hs_ hx_ hr_ u_ hu_ => by obtain ⟨v0_, rfl, f0_⟩ := hr_; cases hu_; exact c_vote_asked_5_1 hs_ (u := x_) f0_ (p := p) ((p_f0.up (le4.trans le10)).up le_) ((p_f1.up (le4.trans le10)).up le_) ((p_f2.up (le4.trans le10)).up le_) ((p_f3.up (le4.trans le10)).up le_) ((p_f4.up (le4.trans le10)).up le_) ((hc5.up le10).up le_) (i := i) (hc11.up le_) (by exact hi))) ?_
 intro r14 w15 h16 le17 st18 q19
 obtain rfl := q19
 refine v_not X X<|v_asB X X<|Y<|zo<|za Tryz.results265 ?_
 refine ⟨h16, _, rfl, st18.done, ?_⟩
 refine zj ?_
 simp only [hv]
end Go.Pk

namespace Go.Pk
open Go Go.RowKit Go.Proofs
set_option maxRecDepth 4000 in
set_option maxHeartbeats 4000000 in
theorem c_vote_Check {h : Heap} {w : World} (hs : Sub h w) {p : Poll} {p_v0 : Value} (p_f0 : Sl LChapter h p_v0 p.text.chapters) {p_v1 : Value} (p_f1 : Sl LRule h p_v1 p.lexicon.rules) {p_v2 : Value} (p_f2 : Sl LDecision h p_v2 p.lexicon.decisions) {p_v3 : Value} (p_f3 : Sl LQuestion h p_v3 p.questions) {p_v4 : Value} (p_f4 : Sl LVoter h p_v4 p.voters) (K1 : Cells h 1 0 Tryz.glob1) (K0 : Cells h 0 0 Tryz.glob0) : Calls Tryz.prog 40 #[.agg #[p_v0, p_v1, p_v2, p_v3, p_v4]] w (Rets h w (fun _ _ res_ => res_ = .int .i64 (checkP p))) := by
 refine zz (n := 124) (args := [.agg #[p_v0, p_v1, p_v2, p_v3, p_v4]]) Tryz.func40 X X X ?_
 have st0 : St h w h w [] := St.start hs
 have p_f0_b := p_f0.le
 have p_f1_b := p_f1.le
 have p_f2_b := p_f2.le
 have p_f3_b := p_f3.le
 have p_f4_b := p_f4.le
 refine W.sr<|zy st0 (cs := [p_v0, p_v1, p_v2, p_v3, p_v4]) X X X ?_
 intro b1 w2 h3 le4 hc5 st6
 refine v_asI X X<|Y<|zf<|W.sr<|v_field_addr X Tryz.underlying32 X Tryz.sizeOf24 X X<|v_load_cellsN (j := 0) st6.sub hc5 (us := [p_v0]) X X Tryz.isAgg24 Tryz.sizeOf24 X X X<|v_field_addr X Tryz.underlying32 X Tryz.sizeOf28 X X<|v_load_cellsN (j := 1) st6.sub hc5 (us := [p_v1, p_v2]) X X Tryz.isAgg28 Tryz.sizeOf28 X X X<|zi st6 X X X Tryz.call96 X (c_stem_Check st6.sub (t := p.text) (p_f0.up le4) (x := p.lexicon) (p_f1.up le4) (p_f2.up le4) (K1.up le4)) ?_
 intro r7 w8 h9 le10 st11 q12
 obtain rfl := q12
 refine v_asI X X<|Y<|W.sr<|v_mvI X X<|v_neq X X X<|Y ?_
 refine zh rfl (fun c13 => ?_) (fun c13 => ?_)
 ·
  replace c13 := of_decide_eq_true c13
  refine W.sr<|v_mvI X X<|v_asI X X<|Y<|zo<|E<|za Tryz.results40 ?_
  refine ⟨h9, _, rfl, st11.done, ?_⟩
  refine zB ?_
  simp_all [checkP]
 ·
  replace c13 := of_decide_eq_false c13
  refine zr<|U<|zf<|zf ?_
  have hz : checkN p.text p.lexicon = 0 := by simpa using c13
  have htx : textB p.text = true := check_text hz
  refine zg<|v_field_addr X Tryz.underlying32 X Tryz.sizeOf29 X X<|v_load_cells1 (j := 3) st11.sub (hc5.up le10) X X X Tryz.isAgg29 X<|v_len (p_f3.up (le4.trans le10)) X Tryz.underlying29 X<|v_gtr X X X<|v_mvB X X ?_
  refine zx (d := 26) rfl (fun g14 => ?_) (fun g14 => ?_)
  ·
   replace g14 := of_decide_eq_true g14
   refine Z X X X X X<|Z X X X X X<|Z X X X X X<|Z X X X X X<|v_pickT (v := (.bool _)) X X X<|Y ?_
   refine zh rfl (fun c15 => ?_) (fun c15 => ?_)
   ·
    refine W.sr<|v_asI X X<|Y<|zo<|E<|za Tryz.results40 ?_
    refine ⟨h9, _, rfl, st11.done, ?_⟩
    refine zB ?_
    first | (refine (check_not hz ?_).symm; simp [pollB]; omega) | (refine (check_yes hz (poll_true ?_ ?_ hA ?_ hV ?_)).symm <;> omega) | (refine (check_not hz (poll_q (i := i) ?_)).symm; rw [quest_eq hq (show q.heads.length = k by omega)]; simpa using c13) | (refine (check_not hz (ask_no (k := k) hv (by have q_ := c13; rw [Int.toNat_natCast, hv] at q_; first | (obtain rfl : k = 0 := (by omega); simpa [askAt, inAll_one] using q_) | (obtain rfl : k = 1 := (by omega); simpa [askAt, inAll_one] using q_) | (obtain rfl : k = 2 := (by omega); simpa [askAt, inAll_one] using q_) | (obtain rfl : k = 3 := (by omega); simpa [askAt, inAll_one] using q_) | (obtain rfl : k = 4 := (by omega); simpa [askAt, inAll_one] using q_)))).symm)
   ·
    cases c15
  ·
   replace g14 := of_decide_eq_false g14
   refine M X X (d := 26) X<|v_field_addr X Tryz.underlying32 X Tryz.sizeOf30 X X<|M X X (d := 26) X<|v_load_cells1 (j := 4) st11.sub (hc5.up le10) X X X Tryz.isAgg30 X<|M X X (d := 26) X<|v_len (p_f4.up (le4.trans le10)) X Tryz.underlying30 X<|M X X (d := 26) X<|v_gtr X X X<|v_pickF (v := (.bool _)) X X X<|Y ?_
   refine zh rfl (fun c16 => ?_) (fun c16 => ?_)
   ·
    replace c16 := of_decide_eq_true c16
    refine W.sr<|v_asI X X<|Y<|zo<|E<|za Tryz.results40 ?_
    refine ⟨h9, _, rfl, st11.done, ?_⟩
    refine zB ?_
    first | (refine (check_not hz ?_).symm; simp [pollB]; omega) | (refine (check_yes hz (poll_true ?_ ?_ hA ?_ hV ?_)).symm <;> omega) | (refine (check_not hz (poll_q (i := i) ?_)).symm; rw [quest_eq hq (show q.heads.length = k by omega)]; simpa using c16) | (refine (check_not hz (ask_no (k := k) hv (by have q_ := c16; rw [Int.toNat_natCast, hv] at q_; first | (obtain rfl : k = 0 := (by omega); simpa [askAt, inAll_one] using q_) | (obtain rfl : k = 1 := (by omega); simpa [askAt, inAll_one] using q_) | (obtain rfl : k = 2 := (by omega); simpa [askAt, inAll_one] using q_) | (obtain rfl : k = 3 := (by omega); simpa [askAt, inAll_one] using q_) | (obtain rfl : k = 4 := (by omega); simpa [askAt, inAll_one] using q_)))).symm)
   ·
    replace c16 := of_decide_eq_false c16
    refine zr<|U<|zf<|W.sr<|v_field_addr X Tryz.underlying32 X Tryz.sizeOf29 X X<|v_load_cells1 (j := 3) st11.sub (hc5.up le10) X X X Tryz.isAgg29 X<|v_len (p_f3.up (le4.trans le10)) X Tryz.underlying29 X<|v_mvI X X<|Y<|zs ?_
    refine zG [2, 4, 5, 6, 7, 8, 9, 10, 35, 36, 37, 38, 39, 40, 41, 42, 43, 44, 45, 46, 47, 48, 49, 50, 51, 52, 53, 54, 55, 56, 57, 58, 59, 60, 61, 62, 63, 64, 65, 66, 67, 68, 69, 70, 71, 72, 73, 74, 75, 76, 77, 78, 79, 80, 81, 82, 83, 84, 85, 86, 87, 88, 89, 90, 91, 92, 93, 94, 95, 96, 97, 98, 99, 100, 101, 102, 103, 104, 105] (G := Nat × Heap) (fun ⟨i, h17⟩ => [(35, .int .i64 (i : Int))]) (fun ⟨i, h17⟩ w' => Le h9 h17 ∧ St h w h17 w' [] ∧ (i ≤ p.questions.length) ∧ (∀ j, j < i → questAt p j = true)) (fun ⟨i, h17⟩ => p.questions.length - i) ⟨0, h9⟩ ⟨rfl, trivial⟩ ⟨Le.refl _, st11, zK, zK⟩ ?_
    rintro ⟨i, h17⟩ _ w20 ⟨le18, st19, hi, hA⟩
    refine W.sr<|v_lss X X X<|Y<|zf ?_
    refine zh rfl (fun c21 => ?_) (fun c21 => ?_)
    ·
     replace c21 := of_decide_eq_true c21
     refine zr<|U<|zf<|zs<|W.sr<|v_mvI X X ?_
     have hq : ∃ y_, (p.questions)[i]? = some y_ := ⟨_, List.getElem?_eq_getElem (by omega)⟩
     obtain ⟨q, hq⟩ := hq
     obtain ⟨b22, o23, _, he25, hc24, hr_q⟩ := Sl.elem (p_f3.up ((le4.trans le10).trans le18)) hq
     obtain ⟨v26, rfl, f27⟩ := hr_q
     have f27_b := f27.le
     refine v_index_el he25 X X (hk := X) (hu := Tryz.underlying29) (hz := Tryz.sizeOf84) X<|v_load_call st19.sub hc24 X Tryz.isAgg84 Tryz.sizeOf84 X X<|zD st19 Tryz.zeroValue84 X X ?_
     intro b28 w29 st30
     refine v_asI X X<|zC st30 (k := 0) X X X (zp X (zp X (zp X (zp f27.one zQ)))) Tryz.sizeOf84 X X X ?_
     intro w31 st32
     obtain ⟨h33, le34, hb35, st37⟩ := st32.freeze (k := 0) rfl
     have hc36 := Cells.of hb35
     refine Y<|W.sr<|v_field_addr X Tryz.underlying32 X Tryz.sizeOf24 X X<|v_load_cellsN (j := 0) st37.sub (hc5.up ((le10.trans le18).trans le34)) (us := [p_v0]) X X Tryz.isAgg24 Tryz.sizeOf24 X X X<|v_field_addr X Tryz.underlying84 X Tryz.sizeOf70 X X<|v_load_cellsN (j := 0) st37.sub hc36 (us := [.int .i64 (q.at_.chapter), .int .i64 (q.at_.line), .int .i64 (q.at_.word)]) X X Tryz.isAgg70 Tryz.sizeOf70 X X X ?_
     have con := (c_leaf_At st37.sub (t := p.text) (p_f0.up (((le4.trans le10).trans le18).trans le34)) (p := q.at_))
     rw [htx] at con; simp only [Bool.true_and, if_true] at con
     refine zi st37 X X X Tryz.call85 X con ?_
     intro r38 w39 h40 le41 st42 q43
     obtain rfl := q43
     clear con
     refine v_mvT X X<|v_extract (v := (strV _)) X X X<|v_extract (v := (.int _ _)) X X X<|v_asS X X<|v_asI X X<|Y<|zf ?_
     rcases Bool.eq_false_or_eq_true (decide (((if placeB p.text q.at_ = true then (0 : Int) else 12)) = 0)) with g44 | g44
     ·
      have g44_r := g44
      replace g44 := of_decide_eq_true g44
      rcases Bool.eq_false_or_eq_true ((inAll (([(q.heads.length : Int)])) (2) (3))) with g45 | g45
      ·
       have g45_r := g45
       rcases Bool.eq_false_or_eq_true (decide ((i : Int) = 0)) with g46 | g46
       ·
        have g46_r := g46
        replace g46 := of_decide_eq_true g46
        refine zad (er := ([], [], [], [], 0)) (dsts := [48, 49, 50, 51, 52, 53, 54, 55, 56, 57, 58, 59, 60, 61, 62, 63, 64, 65, 66, 67, 68, 69, 70, 71, 72, 73, 8]) st42 Tryz.mixed<|zq 0 [] X t_kr t_kr X X (fun hD wD τD hL hS hO  => (r_mvI X))<|zq 1 [0] X t_kr t_kr X X (fun hD wD τD hL hS hO _ _ => (Run.lit (r_eql X X) g44_r))<|zq 2 [0] X t_kr t_kr X X (fun hD wD τD hL hS hO _ _ => (r_mvB X))<|zR 3 [0] X t_kr t_kr X X X (fun hD wD τD hL hS hO _ _ => ⟨rfl, (zA X Tryz.underlying84 X Tryz.sizeOf82 X)⟩)<|zR 4 [0, 1] X t_kr t_kr X X X (fun hD wD τD hL hS hO _ _ _ _ => ⟨rfl, (zc (j := 3) (hL.sub hS) (hc36.up le41) X X X Tryz.isAgg82)⟩)<|zR 5 [0, 2] X t_kr t_kr X X X (fun hD wD τD hL hS hO _ _ _ _ => ⟨rfl, (r_len (f27.up (le34.trans le41)) X Tryz.underlying82)⟩) ?_
        refine zJ 6 (.res (fun h' res_ => Sl LInt h' res_ ([(q.heads.length : Int)])) (fun _ _ _ hl f => f.up hl)) [0, 3] rfl t_kr t_kr ?_ ?_
        ·
         intro hD wD τD hL hS hO _ _ _ _
         have st47 := St.start hS
         refine M X X (d := 50) X<|zN (L := LInt) (xs := [(q.heads.length : Int)]) (cs := [.int .i64 (q.heads.length : Int)]) st47 (Enc.cons (L := LInt) (vs := [.int .i64 (q.heads.length : Int)]) (x := (q.heads.length : Int)) (h := hD) (X) Enc.nil) X X X Tryz.underlying42 Tryz.info3 X X X t_kr ?_
         intro v48 w49 h52 le53 f50 st51
         exact zt ⟨_, _, rfl, st51, _, rfl, f50⟩
        refine zJ 7 (.det (.bool (inAll (([(q.heads.length : Int)])) (2) (3)))) [0, 4] rfl t_kr t_kr ?_ ?_
        ·
         intro hD wD τD hL hS hO gv6_0 gf6_0 _ _
         have st54 := St.start hS
         refine M X X (d := 50) X<|zi st54 X X X Tryz.call55 X (c_vote_in st54.sub _ _ gf6_0) ?_
         intro r55 w56 h57 le58 st59 q60
         obtain rfl := q60
         exact zt ⟨_, _, rfl, st59, (), rfl, trivial⟩
        refine zq 8 [5, 0] X t_kr t_kr X X (fun hD wD τD hL hS hO _ _ _ _ => (Run.lit (r_pickT (v := (.bool _)) X X) g45_r))<|zq 9 [0, 1] X t_kr t_kr X X (fun hD wD τD hL hS hO _ _ _ _ => (r_mvB X))<|zR 10 [0] X t_kr t_kr X X X (fun hD wD τD hL hS hO _ _ => ⟨rfl, (r_mvI X)⟩)<|zR 11 [0, 1] X t_kr t_kr X X X (fun hD wD τD hL hS hO _ _ _ _ => ⟨rfl, (Run.lit (r_eql X X) g46_r)⟩)<|zR 12 [0, 2] X t_kr t_kr X X X (fun hD wD τD hL hS hO _ _ _ _ => ⟨rfl, (r_mvB X)⟩)<|zP 13 [0] X t_kr t_kr X X X X (fun hD wD τD hL hS hO _ _ => X)<|zP 14 [0, 1] X t_kr t_kr X X X X (fun hD wD τD hL hS hO _ _ _ _ => X)<|zP 15 [2] X t_kr t_kr X X X X (fun hD wD τD hL hS hO _ _ => X)<|zP 16 [0, 3] X t_kr t_kr X X X X (fun hD wD τD hL hS hO _ _ _ _ => X)<|zP 17 [2, 0, 4] X t_kr t_kr X X X X (fun hD wD τD hL hS hO _ _ _ _ _ _ => X)<|zP 18 [0, 5] X t_kr t_kr X X X X (fun hD wD τD hL hS hO _ _ _ _ => X)<|zP 19 [0, 6] X t_kr t_kr X X X X (fun hD wD τD hL hS hO _ _ _ _ => X)<|zP 20 [7] X t_kr t_kr X X X X (fun hD wD τD hL hS hO _ _ => X)<|zP 21 [0, 8] X t_kr t_kr X X X X (fun hD wD τD hL hS hO _ _ _ _ => X)<|zP 22 [2, 0, 9] X t_kr t_kr X X X X (fun hD wD τD hL hS hO _ _ _ _ _ _ => X)<|zP 23 [0, 10] X t_kr t_kr X X X X (fun hD wD τD hL hS hO _ _ _ _ => X)<|zR 24 [11, 0, 14] X t_kr t_kr X X X (fun hD wD τD hL hS hO _ _ _ _ _ _ => ⟨rfl, (r_pickT (v := (.bool _)) X X)⟩)<|zq 25 [15, 0] X t_kr t_kr X X (fun hD wD τD hL hS hO _ _ _ _ => (r_pickT (v := (.bool _)) X X))<|zq 26 [25, 24, 23, 22, 21, 20, 19, 18, 17, 16, 15, 14, 13, 12, 11, 10, 9, 8, 7, 6, 5, 4, 3, 2, 1, 0] X t_kr t_kr X X (fun hD wD τD hL hS hO _ _ _ _ _ _ _ _ _ _ _ _ gv6_0 gf6_0 _ _ _ _ _ _ _ _ _ _ _ _ _ _ _ _ _ _ _ _ _ _ _ _ _ _ _ _ _ _ _ _ _ _ _ _ _ _ => (r_asB X))<|Drw.nil X X X X X X ⟨t_kr, X, t_kr, X, t_kr, X, X, t_kr, cx_nil⟩ ?_
        intro hE61 w62 _ le63 st64 _ _ _ _ _ _ _ _ _ _ _ _ gv6_0x65 gf6_0x65 _ _ _ _ _ _ _ _ _ _ _ _ _ _ _ _ _ _ _ _ _ _ _ _ _ _ _ _ _ _ _ _ _ _ _ _ _ _ _ _
        refine AllDeps.fin X<|U<|zf<|W.sr<|v_field_addr X Tryz.underlying84 X Tryz.sizeOf82 X X<|v_load_cells1 (j := 3) st64.sub (hc36.up (le41.trans le63)) X X X Tryz.isAgg82 X<|v_len (f27.up ((le34.trans le41).trans le63)) X Tryz.underlying82 X<|v_mvI X X<|Y<|zs ?_
        refine zG [8, 9, 10, 77, 78, 79, 80, 81, 82, 83, 84, 85, 86, 87, 88, 89, 90, 91, 92, 93, 94, 95, 96, 97, 98, 99, 100, 101, 102] (G := Nat × Heap) (fun ⟨k, h66⟩ => [(8, .bool (questK p i q k)), (77, .int .i64 (k : Int))]) (fun ⟨k, h66⟩ w' => Le hE61 h66 ∧ St h w h66 w' [[]] ∧ (k ≤ q.heads.length)) (fun ⟨k, h66⟩ => q.heads.length - k) ⟨0, hE61⟩ ⟨(zj (by rw [questK_zero]; first | exact q_init0 g44 g45 g46 | exact q_init1 g44 g45 g46 hq1 | exact q_init2 g46 | exact q_init3 g46)), rfl, trivial⟩ ⟨Le.refl _, st64, zK⟩ ?_
        rintro ⟨k, h66⟩ _ w69 ⟨le67, st68, hk⟩
        refine W.sr<|v_lss X X X<|Y<|zf ?_
        refine zh rfl (fun c70 => ?_) (fun c70 => ?_)
        ·
         replace c70 := of_decide_eq_true c70
         refine zr<|U<|zf<|zs<|W.sr<|v_mvI X X ?_
         have hhd : ∃ y_, (q.heads)[k]? = some y_ := ⟨_, List.getElem?_eq_getElem (by omega)⟩
         obtain ⟨hd, hhd⟩ := hhd
         obtain ⟨b71, o72, _, he74, hc73, hr_hd⟩ := Sl.elem (f27.up (((le34.trans le41).trans le63).trans le67)) hhd
         obtain ⟨rfl, ls75, lu76⟩ := hr_hd
         simp only [big] at ls75
         refine v_index_el he74 X X (hk := X) (hu := Tryz.underlying82) (hz := Tryz.sizeOf72) X<|v_load_call st68.sub hc73 X Tryz.isAgg72 Tryz.sizeOf72 X X<|zD st68 Tryz.zeroValue72 X X ?_
         intro b77 w78 st79
         refine v_asI X X<|zC st79 (k := 1) X X X (zp X (zp X zQ)) Tryz.sizeOf72 X X X ?_
         intro w80 st81
         obtain ⟨h82, le83, hb84, st86⟩ := st81.freeze (k := 1) rfl
         have hc85 := Cells.of hb84
         refine Y<|zS Tryz.mixed t_kr (Cls h82 _) (Cls.drew st86)<|u_mvB X X<|u_mvB X X ?_
         refine zW (d := 83) rfl (fun g87 => ?_) (fun g87 => ?_)
         ·
          refine zb X X (d := 83) X<|zm X X (fun _ hC => (zM hC.sub hc85 X Tryz.isAgg72 Tryz.sizeOf72 X))<|zb X X (d := 83) X<|zU X X (fun _ => zT X Tryz.call98 X) (fun _ hC => Rets.quiet hC (c_vote_head hC.sub (hd := hd) t_str t_u8))<|u_pickT (v := (.bool _)) X X X<|u_mvB X X ?_
          refine zW (d := 87) rfl (fun g88 => ?_) (fun g88 => ?_)
          ·
           refine zb X X (d := 87) X<|u_mvI X X<|zb X X (d := 87) X<|u_eql X X X<|zb X X (d := 87) X<|u_mvB X X ?_
           refine zW (d := 90) rfl (fun g89 => ?_) (fun g89 => ?_)
           ·
            replace g89 := of_decide_eq_true g89
            refine O X X (d := 90) X X X<|O X X (d := 90) X X X<|O X X (d := 90) X X X<|O X X (d := 90) X X X<|O X X (d := 90) X X X<|O X X (d := 90) X X X<|O X X (d := 90) X X X<|O X X (d := 90) X X X<|O X X (d := 90) X X X<|zb X X (d := 87) X<|u_pickT (v := (.bool _)) X X X<|u_pickT (v := (.bool _)) X X X<|u_asB X X<|zI ?_
            rintro w90 ⟨h91, s92⟩
            have st93 := st86.call0 s92
            refine zw<|U<|zg<|v_add X X t_om X<|v_mvI X X<|Y ?_
            refine ⟨⟨k + 1, h91⟩, ⟨?_, rfl, trivial⟩, ?_, ⟨((le67.trans le83).trans s92.le), st93.take 1, ?_⟩, ?_⟩
            ·exact zj (by rw [questK_succ]; first | exact q_step0 g87 g88 g89 hhd | exact q_step1 g87 g88 g89 hhd hh1 | exact q_step2 g89 hhd | exact q_step3 g89)
            ·exact zH
            ·first | omega | (simp; omega)
            ·show q.heads.length - ((k + 1)) < q.heads.length - k
             omega
           ·
            replace g89 := of_decide_eq_false g89
            refine zb X X (d := 90) X<|u_field_addr X Tryz.underlying84 X Tryz.sizeOf82 X X<|zb X X (d := 90) X<|zm X X (fun _ hC => (zc (j := 3) hC.sub (hc36.up (((le41.trans le63).trans le67).trans le83)) X X X Tryz.isAgg82))<|zb X X (d := 90) X<|u_mvI X X<|zb X X (d := 90) X<|u_sub X X t_om X<|zb X X (d := 90) X ?_
            have hh1 : ∃ y_, (q.heads)[(k - 1)]? = some y_ := ⟨_, List.getElem?_eq_getElem (by omega)⟩
            obtain ⟨h1, hh1⟩ := hh1
            obtain ⟨b94, o95, _, he97, hc96, hr_h1⟩ := Sl.elem (f27.up ((((le34.trans le41).trans le63).trans le67).trans le83)) hh1
            obtain ⟨rfl, ls98, lu99⟩ := hr_h1
            simp only [big] at ls98
            refine zm rfl rfl (fun _ _ => (zE he97 rfl rfl (hk := (show _ = (((k - 1) : Nat) : Int) by omega)) (hu := Tryz.underlying82) (hz := Tryz.sizeOf72))) ?_
            refine zb X X (d := 90) X<|zm X X (fun _ hC => (zM hC.sub hc96 X Tryz.isAgg72 Tryz.sizeOf72 X))<|zb X X (d := 90) X<|zm X X (fun _ hC => (zM hC.sub hc85 X Tryz.isAgg72 Tryz.sizeOf72 X))<|zb X X (d := 90) X<|zU X X (fun _ => zT X Tryz.call99 X) (fun _ hC => Rets.quiet hC (c_vote_heads hC.sub (a := h1) t_str t_u8 (b := hd) t_str t_u8))<|zb X X (d := 90) X<|u_lss X X X<|zb X X (d := 87) X<|u_pickF (v := (.bool _)) X X X<|u_pickT (v := (.bool _)) X X X<|u_asB X X<|zI ?_
            rintro w100 ⟨h101, s102⟩
            have st103 := st86.call0 s102
            refine zw<|U<|zg<|v_add X X t_om X<|v_mvI X X<|Y ?_
            refine ⟨⟨k + 1, h101⟩, ⟨?_, rfl, trivial⟩, ?_, ⟨((le67.trans le83).trans s102.le), st103.take 1, ?_⟩, ?_⟩
            ·exact zj (by rw [questK_succ]; first | exact q_step0 g87 g88 g89 hhd | exact q_step1 g87 g88 g89 hhd hh1 | exact q_step2 g89 hhd | exact q_step3 g89)
            ·exact zH
            ·first | omega | (simp; omega)
            ·show q.heads.length - ((k + 1)) < q.heads.length - k
             omega
          ·
           refine O X X (d := 87) X X X<|O X X (d := 87) X X X<|O X X (d := 87) X X X<|zl X X (d := 90) X X<|zl X X (d := 90) X X<|zl X X (d := 90) X X<|zl X X (d := 90) X X<|zl X X (d := 90) X X<|zl X X (d := 90) X X<|zl X X (d := 90) X X<|zl X X (d := 90) X X<|zl X X (d := 90) X X<|O X X (d := 87) X X X<|u_pickF (v := (.bool _)) X X X<|u_asB X X<|zI ?_
           rintro w104 ⟨h105, s106⟩
           have st107 := st86.call0 s106
           refine zw<|U<|zg<|v_add X X t_om X<|v_mvI X X<|Y ?_
           refine ⟨⟨k + 1, h105⟩, ⟨?_, rfl, trivial⟩, ?_, ⟨((le67.trans le83).trans s106.le), st107.take 1, ?_⟩, ?_⟩
           ·exact zj (by rw [questK_succ]; first | exact q_step0 g46 g87 g88 hhd | exact q_step1 g46 g87 g88 hhd hh1 | exact q_step2 g88 hhd | exact q_step3 g88)
           ·exact zH
           ·first | omega | (simp; omega)
           ·show q.heads.length - ((k + 1)) < q.heads.length - k
            omega
         ·
          refine O X X (d := 83) X X X<|O X X (d := 83) X X X<|u_pickF (v := (.bool _)) X X X<|u_mvB X X<|O X X (d := 87) X X X<|O X X (d := 87) X X X<|O X X (d := 87) X X X<|zl X X (d := 90) X X<|zl X X (d := 90) X X<|zl X X (d := 90) X X<|zl X X (d := 90) X X<|zl X X (d := 90) X X<|zl X X (d := 90) X X<|zl X X (d := 90) X X<|zl X X (d := 90) X X<|zl X X (d := 90) X X<|O X X (d := 87) X X X<|u_pickF (v := (.bool _)) X X X<|u_asB X X<|zI ?_
          rintro w108 ⟨h109, s110⟩
          have st111 := st86.call0 s110
          refine zw<|U<|zg<|v_add X X t_om X<|v_mvI X X<|Y ?_
          refine ⟨⟨k + 1, h109⟩, ⟨?_, rfl, trivial⟩, ?_, ⟨((le67.trans le83).trans s110.le), st111.take 1, ?_⟩, ?_⟩
          ·exact zj (by rw [questK_succ]; first | exact q_step0 g45 g46 g87 hhd | exact q_step1 g45 g46 g87 hhd hh1 | exact q_step2 g87 hhd | exact q_step3 g87)
          ·exact zH
          ·first | omega | (simp; omega)
          ·show q.heads.length - ((k + 1)) < q.heads.length - k
           omega
        ·
         replace c70 := of_decide_eq_false c70
         refine zL<|ze<|ze<|zF<|U<|W.sr<|v_mvB X X<|v_not X X<|Y ?_
         refine zh rfl (fun c112 => ?_) (fun c112 => ?_)
         ·
          refine W.sr<|v_asI X X<|Y<|zo<|zn<|E<|E<|zn<|E<|za Tryz.results40 ?_
          refine ⟨h66, _, rfl, st68.done, ?_⟩
          refine zB ?_
          first | (refine (check_not hz ?_).symm; simp [pollB]; omega) | (refine (check_yes hz (poll_true ?_ ?_ hA ?_ hV ?_)).symm <;> omega) | (refine (check_not hz (poll_q (i := i) ?_)).symm; rw [quest_eq hq (show q.heads.length = k by omega)]; simpa using c112) | (refine (check_not hz (ask_no (k := k) hv (by have q_ := c112; rw [Int.toNat_natCast, hv] at q_; first | (obtain rfl : k = 0 := (by omega); simpa [askAt, inAll_one] using q_) | (obtain rfl : k = 1 := (by omega); simpa [askAt, inAll_one] using q_) | (obtain rfl : k = 2 := (by omega); simpa [askAt, inAll_one] using q_) | (obtain rfl : k = 3 := (by omega); simpa [askAt, inAll_one] using q_) | (obtain rfl : k = 4 := (by omega); simpa [askAt, inAll_one] using q_)))).symm)
         ·
          refine zr<|zw<|U<|zg<|v_add X X t_om X<|v_mvI X X<|Y ?_
          refine ⟨⟨i + 1, h66⟩, ⟨rfl, trivial⟩, ?_, ⟨((((le18.trans le34).trans le41).trans le63).trans le67), st68.take 0, ?_, ?_⟩, ?_⟩
          ·exact zH
          ·first | omega | (simp; omega)
          ·exact all_lt_succ hA (by rw [quest_eq hq (show q.heads.length = k by omega)]; simpa using c112)
          ·show p.questions.length - ((i + 1)) < p.questions.length - i
           omega
       ·
        have g46_r := g46
        replace g46 := of_decide_eq_false g46
        have hq1 : ∃ y_, (p.questions)[(i - 1)]? = some y_ := ⟨_, List.getElem?_eq_getElem (by omega)⟩
        obtain ⟨q1, hq1⟩ := hq1
        obtain ⟨b113, o114, _, he116, hc115, hr_q1⟩ := Sl.elem (p_f3.up ((((le4.trans le10).trans le18).trans le34).trans le41)) hq1
        obtain ⟨v117, rfl, f118⟩ := hr_q1
        have f118_b := f118.le
        refine zad (er := ([], [], [], [], 0)) (dsts := [48, 49, 50, 51, 52, 53, 54, 55, 56, 57, 58, 59, 60, 61, 62, 63, 64, 65, 66, 67, 68, 69, 70, 71, 72, 73, 8]) st42 Tryz.mixed<|zq 0 [] X t_kr t_kr X X (fun hD wD τD hL hS hO  => (r_mvI X))<|zq 1 [0] X t_kr t_kr X X (fun hD wD τD hL hS hO _ _ => (Run.lit (r_eql X X) g44_r))<|zq 2 [0] X t_kr t_kr X X (fun hD wD τD hL hS hO _ _ => (r_mvB X))<|zR 3 [0] X t_kr t_kr X X X (fun hD wD τD hL hS hO _ _ => ⟨rfl, (zA X Tryz.underlying84 X Tryz.sizeOf82 X)⟩)<|zR 4 [0, 1] X t_kr t_kr X X X (fun hD wD τD hL hS hO _ _ _ _ => ⟨rfl, (zc (j := 3) (hL.sub hS) (hc36.up le41) X X X Tryz.isAgg82)⟩)<|zR 5 [0, 2] X t_kr t_kr X X X (fun hD wD τD hL hS hO _ _ _ _ => ⟨rfl, (r_len (f27.up (le34.trans le41)) X Tryz.underlying82)⟩) ?_
        refine zJ 6 (.res (fun h' res_ => Sl LInt h' res_ ([(q.heads.length : Int)])) (fun _ _ _ hl f => f.up hl)) [0, 3] rfl t_kr t_kr ?_ ?_
        ·
         intro hD wD τD hL hS hO _ _ _ _
         have st119 := St.start hS
         refine M X X (d := 50) X<|zN (L := LInt) (xs := [(q.heads.length : Int)]) (cs := [.int .i64 (q.heads.length : Int)]) st119 (Enc.cons (L := LInt) (vs := [.int .i64 (q.heads.length : Int)]) (x := (q.heads.length : Int)) (h := hD) (X) Enc.nil) X X X Tryz.underlying42 Tryz.info3 X X X t_kr ?_
         intro v120 w121 h124 le125 f122 st123
         exact zt ⟨_, _, rfl, st123, _, rfl, f122⟩
        refine zJ 7 (.det (.bool (inAll (([(q.heads.length : Int)])) (2) (3)))) [0, 4] rfl t_kr t_kr ?_ ?_
        ·
         intro hD wD τD hL hS hO gv6_0 gf6_0 _ _
         have st126 := St.start hS
         refine M X X (d := 50) X<|zi st126 X X X Tryz.call55 X (c_vote_in st126.sub _ _ gf6_0) ?_
         intro r127 w128 h129 le130 st131 q132
         obtain rfl := q132
         exact zt ⟨_, _, rfl, st131, (), rfl, trivial⟩
        refine zq 8 [5, 0] X t_kr t_kr X X (fun hD wD τD hL hS hO _ _ _ _ => (Run.lit (r_pickT (v := (.bool _)) X X) g45_r))<|zq 9 [0, 1] X t_kr t_kr X X (fun hD wD τD hL hS hO _ _ _ _ => (r_mvB X))<|zR 10 [0] X t_kr t_kr X X X (fun hD wD τD hL hS hO _ _ => ⟨rfl, (r_mvI X)⟩)<|zR 11 [0, 1] X t_kr t_kr X X X (fun hD wD τD hL hS hO _ _ _ _ => ⟨rfl, (Run.lit (r_eql X X) g46_r)⟩)<|zR 12 [0, 2] X t_kr t_kr X X X (fun hD wD τD hL hS hO _ _ _ _ => ⟨rfl, (r_mvB X)⟩)<|zR 13 [0] X t_kr t_kr X X X (fun hD wD τD hL hS hO _ _ => ⟨rfl, (zA X Tryz.underlying32 X Tryz.sizeOf29 X)⟩)<|zR 14 [0, 1] X t_kr t_kr X X X (fun hD wD τD hL hS hO _ _ _ _ => ⟨rfl, (zc (j := 3) (hL.sub hS) (hc5.up (((le10.trans le18).trans le34).trans le41)) X X X Tryz.isAgg29)⟩)<|zR 15 [2] X t_kr t_kr X X X (fun hD wD τD hL hS hO _ _ => ⟨rfl, (r_mvI X)⟩)<|zR 16 [0, 3] X t_kr t_kr X X X (fun hD wD τD hL hS hO _ _ _ _ => ⟨rfl, (r_sub X X t_om)⟩) ?_
        refine zR 17 [2, 0, 4] rfl t_kr t_kr rfl rfl rfl (fun hD wD τD hL hS hO _ _ _ _ _ _ => ⟨rfl, (zE he116 rfl rfl (hk := (show _ = (((i - 1) : Nat) : Int) by omega)) (hu := Tryz.underlying29) (hz := Tryz.sizeOf84))⟩) ?_
        refine zR 18 [0, 5] X t_kr t_kr X X X (fun hD wD τD hL hS hO _ _ _ _ => ⟨rfl, (zA X Tryz.underlying84 X Tryz.sizeOf70 X)⟩)<|zR 19 [0, 6] X t_kr t_kr X X X (fun hD wD τD hL hS hO _ _ _ _ => ⟨rfl, (r_load_cellsN (j := 0) (hL.sub hS) hc115 (us := [.int .i64 (q1.at_.chapter), .int .i64 (q1.at_.line), .int .i64 (q1.at_.word)]) X X Tryz.isAgg70 Tryz.sizeOf70 X X)⟩)<|zR 20 [7] X t_kr t_kr X X X (fun hD wD τD hL hS hO _ _ => ⟨rfl, (zA X Tryz.underlying84 X Tryz.sizeOf70 X)⟩)<|zR 21 [0, 8] X t_kr t_kr X X X (fun hD wD τD hL hS hO _ _ _ _ => ⟨rfl, (r_load_cellsN (j := 0) (hL.sub hS) (hc36.up le41) (us := [.int .i64 (q.at_.chapter), .int .i64 (q.at_.line), .int .i64 (q.at_.word)]) X X Tryz.isAgg70 Tryz.sizeOf70 X X)⟩) ?_
        refine zJ 22 (.det (.int .i64 ((orL [cmpI (q1.at_).chapter (q.at_).chapter, cmpI (q1.at_).line (q.at_).line, cmpI (q1.at_).word (q.at_).word])))) [2, 0, 9] rfl t_kr t_kr ?_ ?_
        ·
         intro hD wD τD hL hS hO _ _ _ _ _ _
         have st133 := St.start hS
         refine M X X (d := 60) X<|zi st133 X X X Tryz.call97 X (c_vote_places st133.sub (a := q1.at_) (b := q.at_)) ?_
         intro r134 w135 h136 le137 st138 q139
         obtain rfl := q139
         exact zt ⟨_, _, rfl, st138, (), rfl, trivial⟩
        refine zR 23 [0, 10] X t_kr t_kr X X X (fun hD wD τD hL hS hO _ _ _ _ => ⟨rfl, (r_lss X X)⟩)<|zR 24 [11, 0, 14] X t_kr t_kr X X X (fun hD wD τD hL hS hO _ _ _ _ _ _ => ⟨rfl, (r_pickF (v := (.bool _)) X X)⟩)<|zq 25 [15, 0] X t_kr t_kr X X (fun hD wD τD hL hS hO _ _ _ _ => (r_pickT (v := (.bool _)) X X))<|zq 26 [25, 24, 23, 22, 21, 20, 19, 18, 17, 16, 15, 14, 13, 12, 11, 10, 9, 8, 7, 6, 5, 4, 3, 2, 1, 0] X t_kr t_kr X X (fun hD wD τD hL hS hO _ _ _ _ _ _ _ _ _ _ _ _ gv6_0 gf6_0 _ _ _ _ _ _ _ _ _ _ _ _ _ _ _ _ _ _ _ _ _ _ _ _ _ _ _ _ _ _ _ _ _ _ _ _ _ _ => (r_asB X))<|Drw.nil X X X X X X ⟨t_kr, X, t_kr, X, t_kr, X, X, t_kr, cx_nil⟩ ?_
        intro hE140 w141 _ le142 st143 _ _ _ _ _ _ _ _ _ _ _ _ gv6_0x144 gf6_0x144 _ _ _ _ _ _ _ _ _ _ _ _ _ _ _ _ _ _ _ _ _ _ _ _ _ _ _ _ _ _ _ _ _ _ _ _ _ _ _ _
        refine AllDeps.fin X<|U<|zf<|W.sr<|v_field_addr X Tryz.underlying84 X Tryz.sizeOf82 X X<|v_load_cells1 (j := 3) st143.sub (hc36.up (le41.trans le142)) X X X Tryz.isAgg82 X<|v_len (f27.up ((le34.trans le41).trans le142)) X Tryz.underlying82 X<|v_mvI X X<|Y<|zs ?_
        refine zG [8, 9, 10, 77, 78, 79, 80, 81, 82, 83, 84, 85, 86, 87, 88, 89, 90, 91, 92, 93, 94, 95, 96, 97, 98, 99, 100, 101, 102] (G := Nat × Heap) (fun ⟨k, h145⟩ => [(8, .bool (questK p i q k)), (77, .int .i64 (k : Int))]) (fun ⟨k, h145⟩ w' => Le hE140 h145 ∧ St h w h145 w' [[]] ∧ (k ≤ q.heads.length)) (fun ⟨k, h145⟩ => q.heads.length - k) ⟨0, hE140⟩ ⟨(zj (by rw [questK_zero]; first | exact q_init0 g44 g45 g46 | exact q_init1 g44 g45 g46 hq1 | exact q_init2 g46 | exact q_init3 g46)), rfl, trivial⟩ ⟨Le.refl _, st143, zK⟩ ?_
        rintro ⟨k, h145⟩ _ w148 ⟨le146, st147, hk⟩
        refine W.sr<|v_lss X X X<|Y<|zf ?_
        refine zh rfl (fun c149 => ?_) (fun c149 => ?_)
        ·
         replace c149 := of_decide_eq_true c149
         refine zr<|U<|zf<|zs<|W.sr<|v_mvI X X ?_
         have hhd : ∃ y_, (q.heads)[k]? = some y_ := ⟨_, List.getElem?_eq_getElem (by omega)⟩
         obtain ⟨hd, hhd⟩ := hhd
         obtain ⟨b150, o151, _, he153, hc152, hr_hd⟩ := Sl.elem (f27.up (((le34.trans le41).trans le142).trans le146)) hhd
         obtain ⟨rfl, ls154, lu155⟩ := hr_hd
         simp only [big] at ls154
         refine v_index_el he153 X X (hk := X) (hu := Tryz.underlying82) (hz := Tryz.sizeOf72) X<|v_load_call st147.sub hc152 X Tryz.isAgg72 Tryz.sizeOf72 X X<|zD st147 Tryz.zeroValue72 X X ?_
         intro b156 w157 st158
         refine v_asI X X<|zC st158 (k := 1) X X X (zp X (zp X zQ)) Tryz.sizeOf72 X X X ?_
         intro w159 st160
         obtain ⟨h161, le162, hb163, st165⟩ := st160.freeze (k := 1) rfl
         have hc164 := Cells.of hb163
         refine Y<|zS Tryz.mixed t_kr (Cls h161 _) (Cls.drew st165)<|u_mvB X X<|u_mvB X X ?_
         refine zW (d := 83) rfl (fun g166 => ?_) (fun g166 => ?_)
         ·
          refine zb X X (d := 83) X<|zm X X (fun _ hC => (zM hC.sub hc164 X Tryz.isAgg72 Tryz.sizeOf72 X))<|zb X X (d := 83) X<|zU X X (fun _ => zT X Tryz.call98 X) (fun _ hC => Rets.quiet hC (c_vote_head hC.sub (hd := hd) t_str t_u8))<|u_pickT (v := (.bool _)) X X X<|u_mvB X X ?_
          refine zW (d := 87) rfl (fun g167 => ?_) (fun g167 => ?_)
          ·
           refine zb X X (d := 87) X<|u_mvI X X<|zb X X (d := 87) X<|u_eql X X X<|zb X X (d := 87) X<|u_mvB X X ?_
           refine zW (d := 90) rfl (fun g168 => ?_) (fun g168 => ?_)
           ·
            replace g168 := of_decide_eq_true g168
            refine O X X (d := 90) X X X<|O X X (d := 90) X X X<|O X X (d := 90) X X X<|O X X (d := 90) X X X<|O X X (d := 90) X X X<|O X X (d := 90) X X X<|O X X (d := 90) X X X<|O X X (d := 90) X X X<|O X X (d := 90) X X X<|zb X X (d := 87) X<|u_pickT (v := (.bool _)) X X X<|u_pickT (v := (.bool _)) X X X<|u_asB X X<|zI ?_
            rintro w169 ⟨h170, s171⟩
            have st172 := st165.call0 s171
            refine zw<|U<|zg<|v_add X X t_om X<|v_mvI X X<|Y ?_
            refine ⟨⟨k + 1, h170⟩, ⟨?_, rfl, trivial⟩, ?_, ⟨((le146.trans le162).trans s171.le), st172.take 1, ?_⟩, ?_⟩
            ·exact zj (by rw [questK_succ]; first | exact q_step0 g166 g167 g168 hhd | exact q_step1 g166 g167 g168 hhd hh1 | exact q_step2 g168 hhd | exact q_step3 g168)
            ·exact zH
            ·first | omega | (simp; omega)
            ·show q.heads.length - ((k + 1)) < q.heads.length - k
             omega
           ·
            replace g168 := of_decide_eq_false g168
            refine zb X X (d := 90) X<|u_field_addr X Tryz.underlying84 X Tryz.sizeOf82 X X<|zb X X (d := 90) X<|zm X X (fun _ hC => (zc (j := 3) hC.sub (hc36.up (((le41.trans le142).trans le146).trans le162)) X X X Tryz.isAgg82))<|zb X X (d := 90) X<|u_mvI X X<|zb X X (d := 90) X<|u_sub X X t_om X<|zb X X (d := 90) X ?_
            have hh1 : ∃ y_, (q.heads)[(k - 1)]? = some y_ := ⟨_, List.getElem?_eq_getElem (by omega)⟩
            obtain ⟨h1, hh1⟩ := hh1
            obtain ⟨b173, o174, _, he176, hc175, hr_h1⟩ := Sl.elem (f27.up ((((le34.trans le41).trans le142).trans le146).trans le162)) hh1
            obtain ⟨rfl, ls177, lu178⟩ := hr_h1
            simp only [big] at ls177
            refine zm rfl rfl (fun _ _ => (zE he176 rfl rfl (hk := (show _ = (((k - 1) : Nat) : Int) by omega)) (hu := Tryz.underlying82) (hz := Tryz.sizeOf72))) ?_
            refine zb X X (d := 90) X<|zm X X (fun _ hC => (zM hC.sub hc175 X Tryz.isAgg72 Tryz.sizeOf72 X))<|zb X X (d := 90) X<|zm X X (fun _ hC => (zM hC.sub hc164 X Tryz.isAgg72 Tryz.sizeOf72 X))<|zb X X (d := 90) X<|zU X X (fun _ => zT X Tryz.call99 X) (fun _ hC => Rets.quiet hC (c_vote_heads hC.sub (a := h1) t_str t_u8 (b := hd) t_str t_u8))<|zb X X (d := 90) X<|u_lss X X X<|zb X X (d := 87) X<|u_pickF (v := (.bool _)) X X X<|u_pickT (v := (.bool _)) X X X<|u_asB X X<|zI ?_
            rintro w179 ⟨h180, s181⟩
            have st182 := st165.call0 s181
            refine zw<|U<|zg<|v_add X X t_om X<|v_mvI X X<|Y ?_
            refine ⟨⟨k + 1, h180⟩, ⟨?_, rfl, trivial⟩, ?_, ⟨((le146.trans le162).trans s181.le), st182.take 1, ?_⟩, ?_⟩
            ·exact zj (by rw [questK_succ]; first | exact q_step0 g166 g167 g168 hhd | exact q_step1 g166 g167 g168 hhd hh1 | exact q_step2 g168 hhd | exact q_step3 g168)
            ·exact zH
            ·first | omega | (simp; omega)
            ·show q.heads.length - ((k + 1)) < q.heads.length - k
             omega
          ·
           refine O X X (d := 87) X X X<|O X X (d := 87) X X X<|O X X (d := 87) X X X<|zl X X (d := 90) X X<|zl X X (d := 90) X X<|zl X X (d := 90) X X<|zl X X (d := 90) X X<|zl X X (d := 90) X X<|zl X X (d := 90) X X<|zl X X (d := 90) X X<|zl X X (d := 90) X X<|zl X X (d := 90) X X<|O X X (d := 87) X X X<|u_pickF (v := (.bool _)) X X X<|u_asB X X<|zI ?_
           rintro w183 ⟨h184, s185⟩
           have st186 := st165.call0 s185
           refine zw<|U<|zg<|v_add X X t_om X<|v_mvI X X<|Y ?_
           refine ⟨⟨k + 1, h184⟩, ⟨?_, rfl, trivial⟩, ?_, ⟨((le146.trans le162).trans s185.le), st186.take 1, ?_⟩, ?_⟩
           ·exact zj (by rw [questK_succ]; first | exact q_step0 g46 g166 g167 hhd | exact q_step1 g46 g166 g167 hhd hh1 | exact q_step2 g167 hhd | exact q_step3 g167)
           ·exact zH
           ·first | omega | (simp; omega)
           ·show q.heads.length - ((k + 1)) < q.heads.length - k
            omega
         ·
          refine O X X (d := 83) X X X<|O X X (d := 83) X X X<|u_pickF (v := (.bool _)) X X X<|u_mvB X X<|O X X (d := 87) X X X<|O X X (d := 87) X X X<|O X X (d := 87) X X X<|zl X X (d := 90) X X<|zl X X (d := 90) X X<|zl X X (d := 90) X X<|zl X X (d := 90) X X<|zl X X (d := 90) X X<|zl X X (d := 90) X X<|zl X X (d := 90) X X<|zl X X (d := 90) X X<|zl X X (d := 90) X X<|O X X (d := 87) X X X<|u_pickF (v := (.bool _)) X X X<|u_asB X X<|zI ?_
          rintro w187 ⟨h188, s189⟩
          have st190 := st165.call0 s189
          refine zw<|U<|zg<|v_add X X t_om X<|v_mvI X X<|Y ?_
          refine ⟨⟨k + 1, h188⟩, ⟨?_, rfl, trivial⟩, ?_, ⟨((le146.trans le162).trans s189.le), st190.take 1, ?_⟩, ?_⟩
          ·exact zj (by rw [questK_succ]; first | exact q_step0 g45 g46 g166 hhd | exact q_step1 g45 g46 g166 hhd hh1 | exact q_step2 g166 hhd | exact q_step3 g166)
          ·exact zH
          ·first | omega | (simp; omega)
          ·show q.heads.length - ((k + 1)) < q.heads.length - k
           omega
        ·
         replace c149 := of_decide_eq_false c149
         refine zL<|ze<|ze<|zF<|U<|W.sr<|v_mvB X X<|v_not X X<|Y ?_
         refine zh rfl (fun c191 => ?_) (fun c191 => ?_)
         ·
          refine W.sr<|v_asI X X<|Y<|zo<|zn<|E<|E<|zn<|E<|za Tryz.results40 ?_
          refine ⟨h145, _, rfl, st147.done, ?_⟩
          refine zB ?_
          first | (refine (check_not hz ?_).symm; simp [pollB]; omega) | (refine (check_yes hz (poll_true ?_ ?_ hA ?_ hV ?_)).symm <;> omega) | (refine (check_not hz (poll_q (i := i) ?_)).symm; rw [quest_eq hq (show q.heads.length = k by omega)]; simpa using c191) | (refine (check_not hz (ask_no (k := k) hv (by have q_ := c191; rw [Int.toNat_natCast, hv] at q_; first | (obtain rfl : k = 0 := (by omega); simpa [askAt, inAll_one] using q_) | (obtain rfl : k = 1 := (by omega); simpa [askAt, inAll_one] using q_) | (obtain rfl : k = 2 := (by omega); simpa [askAt, inAll_one] using q_) | (obtain rfl : k = 3 := (by omega); simpa [askAt, inAll_one] using q_) | (obtain rfl : k = 4 := (by omega); simpa [askAt, inAll_one] using q_)))).symm)
         ·
          refine zr<|zw<|U<|zg<|v_add X X t_om X<|v_mvI X X<|Y ?_
          refine ⟨⟨i + 1, h145⟩, ⟨rfl, trivial⟩, ?_, ⟨((((le18.trans le34).trans le41).trans le142).trans le146), st147.take 0, ?_, ?_⟩, ?_⟩
          ·exact zH
          ·first | omega | (simp; omega)
          ·exact all_lt_succ hA (by rw [quest_eq hq (show q.heads.length = k by omega)]; simpa using c191)
          ·show p.questions.length - ((i + 1)) < p.questions.length - i
           omega
      ·
       have g45_r := g45
       refine zad (er := ([], [], [], [], 0)) (dsts := [48, 49, 50, 51, 52, 53, 54, 55, 56, 57, 58, 59, 60, 61, 62, 63, 64, 65, 66, 67, 68, 69, 70, 71, 72, 73, 8]) st42 Tryz.mixed<|zq 0 [] X t_kr t_kr X X (fun hD wD τD hL hS hO  => (r_mvI X))<|zq 1 [0] X t_kr t_kr X X (fun hD wD τD hL hS hO _ _ => (Run.lit (r_eql X X) g44_r))<|zq 2 [0] X t_kr t_kr X X (fun hD wD τD hL hS hO _ _ => (r_mvB X))<|zR 3 [0] X t_kr t_kr X X X (fun hD wD τD hL hS hO _ _ => ⟨rfl, (zA X Tryz.underlying84 X Tryz.sizeOf82 X)⟩)<|zR 4 [0, 1] X t_kr t_kr X X X (fun hD wD τD hL hS hO _ _ _ _ => ⟨rfl, (zc (j := 3) (hL.sub hS) (hc36.up le41) X X X Tryz.isAgg82)⟩)<|zR 5 [0, 2] X t_kr t_kr X X X (fun hD wD τD hL hS hO _ _ _ _ => ⟨rfl, (r_len (f27.up (le34.trans le41)) X Tryz.underlying82)⟩) ?_
       refine zJ 6 (.res (fun h' res_ => Sl LInt h' res_ ([(q.heads.length : Int)])) (fun _ _ _ hl f => f.up hl)) [0, 3] rfl t_kr t_kr ?_ ?_
       ·
        intro hD wD τD hL hS hO _ _ _ _
        have st192 := St.start hS
        refine M X X (d := 50) X<|zN (L := LInt) (xs := [(q.heads.length : Int)]) (cs := [.int .i64 (q.heads.length : Int)]) st192 (Enc.cons (L := LInt) (vs := [.int .i64 (q.heads.length : Int)]) (x := (q.heads.length : Int)) (h := hD) (X) Enc.nil) X X X Tryz.underlying42 Tryz.info3 X X X t_kr ?_
        intro v193 w194 h197 le198 f195 st196
        exact zt ⟨_, _, rfl, st196, _, rfl, f195⟩
       refine zJ 7 (.det (.bool (inAll (([(q.heads.length : Int)])) (2) (3)))) [0, 4] rfl t_kr t_kr ?_ ?_
       ·
        intro hD wD τD hL hS hO gv6_0 gf6_0 _ _
        have st199 := St.start hS
        refine M X X (d := 50) X<|zi st199 X X X Tryz.call55 X (c_vote_in st199.sub _ _ gf6_0) ?_
        intro r200 w201 h202 le203 st204 q205
        obtain rfl := q205
        exact zt ⟨_, _, rfl, st204, (), rfl, trivial⟩
       refine zq 8 [5, 0] X t_kr t_kr X X (fun hD wD τD hL hS hO _ _ _ _ => (Run.lit (r_pickT (v := (.bool _)) X X) g45_r))<|zq 9 [0, 1] X t_kr t_kr X X (fun hD wD τD hL hS hO _ _ _ _ => (r_mvB X))<|zP 10 [0] X t_kr t_kr X X X X (fun hD wD τD hL hS hO _ _ => X)<|zP 11 [0, 1] X t_kr t_kr X X X X (fun hD wD τD hL hS hO _ _ _ _ => X)<|zP 12 [0, 2] X t_kr t_kr X X X X (fun hD wD τD hL hS hO _ _ _ _ => X)<|zab 13 [0] X t_kr t_kr X X X (fun hD wD τD hL hS hO _ _ => X)<|zab 14 [0, 1] X t_kr t_kr X X X (fun hD wD τD hL hS hO _ _ _ _ => X)<|zab 15 [2] X t_kr t_kr X X X (fun hD wD τD hL hS hO _ _ => X)<|zab 16 [0, 3] X t_kr t_kr X X X (fun hD wD τD hL hS hO _ _ _ _ => X)<|zab 17 [2, 0, 4] X t_kr t_kr X X X (fun hD wD τD hL hS hO _ _ _ _ _ _ => X)<|zab 18 [0, 5] X t_kr t_kr X X X (fun hD wD τD hL hS hO _ _ _ _ => X)<|zab 19 [0, 6] X t_kr t_kr X X X (fun hD wD τD hL hS hO _ _ _ _ => X)<|zab 20 [7] X t_kr t_kr X X X (fun hD wD τD hL hS hO _ _ => X)<|zab 21 [0, 8] X t_kr t_kr X X X (fun hD wD τD hL hS hO _ _ _ _ => X)<|zab 22 [2, 0, 9] X t_kr t_kr X X X (fun hD wD τD hL hS hO _ _ _ _ _ _ => X)<|zab 23 [0, 10] X t_kr t_kr X X X (fun hD wD τD hL hS hO _ _ _ _ => X)<|zP 24 [11, 0, 14] X t_kr t_kr X X X X (fun hD wD τD hL hS hO _ _ _ _ _ _ => X)<|zq 25 [15, 0] X t_kr t_kr X X (fun hD wD τD hL hS hO _ _ _ _ => (r_pickF (v := (.bool _)) X X))<|zq 26 [25, 24, 23, 22, 21, 20, 19, 18, 17, 16, 15, 14, 13, 12, 11, 10, 9, 8, 7, 6, 5, 4, 3, 2, 1, 0] X t_kr t_kr X X (fun hD wD τD hL hS hO _ _ _ _ _ _ _ _ _ _ _ _ gv6_0 gf6_0 _ _ _ _ _ _ _ _ _ _ _ _ _ _ _ _ _ _ _ _ _ _ _ _ _ _ _ _ _ _ _ _ _ _ _ _ _ _ => (r_asB X))<|Drw.nil X X X X X X ⟨t_kr, X, t_kr, X, t_kr, X, X, t_kr, cx_nil⟩ ?_
       intro hE206 w207 _ le208 st209 _ _ _ _ _ _ _ _ _ _ _ _ gv6_0x210 gf6_0x210 _ _ _ _ _ _ _ _ _ _ _ _ _ _ _ _ _ _ _ _ _ _ _ _ _ _ _ _ _ _ _ _ _ _ _ _ _ _ _ _
       refine AllDeps.fin X<|U<|zf<|W.sr<|v_field_addr X Tryz.underlying84 X Tryz.sizeOf82 X X<|v_load_cells1 (j := 3) st209.sub (hc36.up (le41.trans le208)) X X X Tryz.isAgg82 X<|v_len (f27.up ((le34.trans le41).trans le208)) X Tryz.underlying82 X<|v_mvI X X<|Y<|zs ?_
       refine zG [8, 9, 10, 77, 78, 79, 80, 81, 82, 83, 84, 85, 86, 87, 88, 89, 90, 91, 92, 93, 94, 95, 96, 97, 98, 99, 100, 101, 102] (G := Nat × Heap) (fun ⟨k, h211⟩ => [(8, .bool (questK p i q k)), (77, .int .i64 (k : Int))]) (fun ⟨k, h211⟩ w' => Le hE206 h211 ∧ St h w h211 w' [[]] ∧ (k ≤ q.heads.length)) (fun ⟨k, h211⟩ => q.heads.length - k) ⟨0, hE206⟩ ⟨(zj (by rw [questK_zero]; first | exact q_init0 g14 g44 g45 | exact q_init1 g14 g44 g45 hq1 | exact q_init2 g45 | exact q_init3 g45)), rfl, trivial⟩ ⟨Le.refl _, st209, zK⟩ ?_
       rintro ⟨k, h211⟩ _ w214 ⟨le212, st213, hk⟩
       refine W.sr<|v_lss X X X<|Y<|zf ?_
       refine zh rfl (fun c215 => ?_) (fun c215 => ?_)
       ·
        replace c215 := of_decide_eq_true c215
        refine zr<|U<|zf<|zs<|W.sr<|v_mvI X X ?_
        have hhd : ∃ y_, (q.heads)[k]? = some y_ := ⟨_, List.getElem?_eq_getElem (by omega)⟩
        obtain ⟨hd, hhd⟩ := hhd
        obtain ⟨b216, o217, _, he219, hc218, hr_hd⟩ := Sl.elem (f27.up (((le34.trans le41).trans le208).trans le212)) hhd
        obtain ⟨rfl, ls220, lu221⟩ := hr_hd
        simp only [big] at ls220
        refine v_index_el he219 X X (hk := X) (hu := Tryz.underlying82) (hz := Tryz.sizeOf72) X<|v_load_call st213.sub hc218 X Tryz.isAgg72 Tryz.sizeOf72 X X<|zD st213 Tryz.zeroValue72 X X ?_
        intro b222 w223 st224
        refine v_asI X X<|zC st224 (k := 1) X X X (zp X (zp X zQ)) Tryz.sizeOf72 X X X ?_
        intro w225 st226
        obtain ⟨h227, le228, hb229, st231⟩ := st226.freeze (k := 1) rfl
        have hc230 := Cells.of hb229
        refine Y<|zS Tryz.mixed t_kr (Cls h227 _) (Cls.drew st231)<|u_mvB X X<|u_mvB X X ?_
        refine zW (d := 83) rfl (fun g232 => ?_) (fun g232 => ?_)
        ·
         refine zb X X (d := 83) X<|zm X X (fun _ hC => (zM hC.sub hc230 X Tryz.isAgg72 Tryz.sizeOf72 X))<|zb X X (d := 83) X<|zU X X (fun _ => zT X Tryz.call98 X) (fun _ hC => Rets.quiet hC (c_vote_head hC.sub (hd := hd) t_str t_u8))<|u_pickT (v := (.bool _)) X X X<|u_mvB X X ?_
         refine zW (d := 87) rfl (fun g233 => ?_) (fun g233 => ?_)
         ·
          refine zb X X (d := 87) X<|u_mvI X X<|zb X X (d := 87) X<|u_eql X X X<|zb X X (d := 87) X<|u_mvB X X ?_
          refine zW (d := 90) rfl (fun g234 => ?_) (fun g234 => ?_)
          ·
           replace g234 := of_decide_eq_true g234
           refine O X X (d := 90) X X X<|O X X (d := 90) X X X<|O X X (d := 90) X X X<|O X X (d := 90) X X X<|O X X (d := 90) X X X<|O X X (d := 90) X X X<|O X X (d := 90) X X X<|O X X (d := 90) X X X<|O X X (d := 90) X X X<|zb X X (d := 87) X<|u_pickT (v := (.bool _)) X X X<|u_pickT (v := (.bool _)) X X X<|u_asB X X<|zI ?_
           rintro w235 ⟨h236, s237⟩
           have st238 := st231.call0 s237
           refine zw<|U<|zg<|v_add X X t_om X<|v_mvI X X<|Y ?_
           refine ⟨⟨k + 1, h236⟩, ⟨?_, rfl, trivial⟩, ?_, ⟨((le212.trans le228).trans s237.le), st238.take 1, ?_⟩, ?_⟩
           ·exact zj (by rw [questK_succ]; first | exact q_step0 g232 g233 g234 hhd | exact q_step1 g232 g233 g234 hhd hh1 | exact q_step2 g234 hhd | exact q_step3 g234)
           ·exact zH
           ·first | omega | (simp; omega)
           ·show q.heads.length - ((k + 1)) < q.heads.length - k
            omega
          ·
           replace g234 := of_decide_eq_false g234
           refine zb X X (d := 90) X<|u_field_addr X Tryz.underlying84 X Tryz.sizeOf82 X X<|zb X X (d := 90) X<|zm X X (fun _ hC => (zc (j := 3) hC.sub (hc36.up (((le41.trans le208).trans le212).trans le228)) X X X Tryz.isAgg82))<|zb X X (d := 90) X<|u_mvI X X<|zb X X (d := 90) X<|u_sub X X t_om X<|zb X X (d := 90) X ?_
           have hh1 : ∃ y_, (q.heads)[(k - 1)]? = some y_ := ⟨_, List.getElem?_eq_getElem (by omega)⟩
           obtain ⟨h1, hh1⟩ := hh1
           obtain ⟨b239, o240, _, he242, hc241, hr_h1⟩ := Sl.elem (f27.up ((((le34.trans le41).trans le208).trans le212).trans le228)) hh1
           obtain ⟨rfl, ls243, lu244⟩ := hr_h1
           simp only [big] at ls243
           refine zm rfl rfl (fun _ _ => (zE he242 rfl rfl (hk := (show _ = (((k - 1) : Nat) : Int) by omega)) (hu := Tryz.underlying82) (hz := Tryz.sizeOf72))) ?_
           refine zb X X (d := 90) X<|zm X X (fun _ hC => (zM hC.sub hc241 X Tryz.isAgg72 Tryz.sizeOf72 X))<|zb X X (d := 90) X<|zm X X (fun _ hC => (zM hC.sub hc230 X Tryz.isAgg72 Tryz.sizeOf72 X))<|zb X X (d := 90) X<|zU X X (fun _ => zT X Tryz.call99 X) (fun _ hC => Rets.quiet hC (c_vote_heads hC.sub (a := h1) t_str t_u8 (b := hd) t_str t_u8))<|zb X X (d := 90) X<|u_lss X X X<|zb X X (d := 87) X<|u_pickF (v := (.bool _)) X X X<|u_pickT (v := (.bool _)) X X X<|u_asB X X<|zI ?_
           rintro w245 ⟨h246, s247⟩
           have st248 := st231.call0 s247
           refine zw<|U<|zg<|v_add X X t_om X<|v_mvI X X<|Y ?_
           refine ⟨⟨k + 1, h246⟩, ⟨?_, rfl, trivial⟩, ?_, ⟨((le212.trans le228).trans s247.le), st248.take 1, ?_⟩, ?_⟩
           ·exact zj (by rw [questK_succ]; first | exact q_step0 g232 g233 g234 hhd | exact q_step1 g232 g233 g234 hhd hh1 | exact q_step2 g234 hhd | exact q_step3 g234)
           ·exact zH
           ·first | omega | (simp; omega)
           ·show q.heads.length - ((k + 1)) < q.heads.length - k
            omega
         ·
          refine O X X (d := 87) X X X<|O X X (d := 87) X X X<|O X X (d := 87) X X X<|zl X X (d := 90) X X<|zl X X (d := 90) X X<|zl X X (d := 90) X X<|zl X X (d := 90) X X<|zl X X (d := 90) X X<|zl X X (d := 90) X X<|zl X X (d := 90) X X<|zl X X (d := 90) X X<|zl X X (d := 90) X X<|O X X (d := 87) X X X<|u_pickF (v := (.bool _)) X X X<|u_asB X X<|zI ?_
          rintro w249 ⟨h250, s251⟩
          have st252 := st231.call0 s251
          refine zw<|U<|zg<|v_add X X t_om X<|v_mvI X X<|Y ?_
          refine ⟨⟨k + 1, h250⟩, ⟨?_, rfl, trivial⟩, ?_, ⟨((le212.trans le228).trans s251.le), st252.take 1, ?_⟩, ?_⟩
          ·exact zj (by rw [questK_succ]; first | exact q_step0 g45 g232 g233 hhd | exact q_step1 g45 g232 g233 hhd hh1 | exact q_step2 g233 hhd | exact q_step3 g233)
          ·exact zH
          ·first | omega | (simp; omega)
          ·show q.heads.length - ((k + 1)) < q.heads.length - k
           omega
        ·
         refine O X X (d := 83) X X X<|O X X (d := 83) X X X<|u_pickF (v := (.bool _)) X X X<|u_mvB X X<|O X X (d := 87) X X X<|O X X (d := 87) X X X<|O X X (d := 87) X X X<|zl X X (d := 90) X X<|zl X X (d := 90) X X<|zl X X (d := 90) X X<|zl X X (d := 90) X X<|zl X X (d := 90) X X<|zl X X (d := 90) X X<|zl X X (d := 90) X X<|zl X X (d := 90) X X<|zl X X (d := 90) X X<|O X X (d := 87) X X X<|u_pickF (v := (.bool _)) X X X<|u_asB X X<|zI ?_
         rintro w253 ⟨h254, s255⟩
         have st256 := st231.call0 s255
         refine zw<|U<|zg<|v_add X X t_om X<|v_mvI X X<|Y ?_
         refine ⟨⟨k + 1, h254⟩, ⟨?_, rfl, trivial⟩, ?_, ⟨((le212.trans le228).trans s255.le), st256.take 1, ?_⟩, ?_⟩
         ·exact zj (by rw [questK_succ]; first | exact q_step0 g44 g45 g232 hhd | exact q_step1 g44 g45 g232 hhd hh1 | exact q_step2 g232 hhd | exact q_step3 g232)
         ·exact zH
         ·first | omega | (simp; omega)
         ·show q.heads.length - ((k + 1)) < q.heads.length - k
          omega
       ·
        replace c215 := of_decide_eq_false c215
        refine zL<|ze<|ze<|zF<|U<|W.sr<|v_mvB X X<|v_not X X<|Y ?_
        refine zh rfl (fun c257 => ?_) (fun c257 => ?_)
        ·
         refine W.sr<|v_asI X X<|Y<|zo<|zn<|E<|E<|zn<|E<|za Tryz.results40 ?_
         refine ⟨h211, _, rfl, st213.done, ?_⟩
         refine zB ?_
         first | (refine (check_not hz ?_).symm; simp [pollB]; omega) | (refine (check_yes hz (poll_true ?_ ?_ hA ?_ hV ?_)).symm <;> omega) | (refine (check_not hz (poll_q (i := i) ?_)).symm; rw [quest_eq hq (show q.heads.length = k by omega)]; simpa using c257) | (refine (check_not hz (ask_no (k := k) hv (by have q_ := c257; rw [Int.toNat_natCast, hv] at q_; first | (obtain rfl : k = 0 := (by omega); simpa [askAt, inAll_one] using q_) | (obtain rfl : k = 1 := (by omega); simpa [askAt, inAll_one] using q_) | (obtain rfl : k = 2 := (by omega); simpa [askAt, inAll_one] using q_) | (obtain rfl : k = 3 := (by omega); simpa [askAt, inAll_one] using q_) | (obtain rfl : k = 4 := (by omega); simpa [askAt, inAll_one] using q_)))).symm)
        ·
         refine zr<|zw<|U<|zg<|v_add X X t_om X<|v_mvI X X<|Y ?_
         refine ⟨⟨i + 1, h211⟩, ⟨rfl, trivial⟩, ?_, ⟨((((le18.trans le34).trans le41).trans le208).trans le212), st213.take 0, ?_, ?_⟩, ?_⟩
         ·exact zH
         ·first | omega | (simp; omega)
         ·exact all_lt_succ hA (by rw [quest_eq hq (show q.heads.length = k by omega)]; simpa using c257)
         ·show p.questions.length - ((i + 1)) < p.questions.length - i
          omega
     ·
      have g44_r := g44
      replace g44 := of_decide_eq_false g44
      refine zad (er := ([], [], [], [], 0)) (dsts := [48, 49, 50, 51, 52, 53, 54, 55, 56, 57, 58, 59, 60, 61, 62, 63, 64, 65, 66, 67, 68, 69, 70, 71, 72, 73, 8]) st42 Tryz.mixed<|zq 0 [] X t_kr t_kr X X (fun hD wD τD hL hS hO  => (r_mvI X))<|zq 1 [0] X t_kr t_kr X X (fun hD wD τD hL hS hO _ _ => (Run.lit (r_eql X X) g44_r))<|zq 2 [0] X t_kr t_kr X X (fun hD wD τD hL hS hO _ _ => (r_mvB X))<|zP 3 [0] X t_kr t_kr X X X X (fun hD wD τD hL hS hO _ _ => X)<|zP 4 [0, 1] X t_kr t_kr X X X X (fun hD wD τD hL hS hO _ _ _ _ => X)<|zP 5 [0, 2] X t_kr t_kr X X X X (fun hD wD τD hL hS hO _ _ _ _ => X)<|zP 6 [0, 3] X t_kr t_kr X X X X (fun hD wD τD hL hS hO _ _ _ _ => X)<|zP 7 [0, 4] X t_kr t_kr X X X X (fun hD wD τD hL hS hO _ _ _ _ => X)<|zq 8 [5, 0] X t_kr t_kr X X (fun hD wD τD hL hS hO _ _ _ _ => (r_pickF (v := (.bool _)) X X))<|zq 9 [0, 1] X t_kr t_kr X X (fun hD wD τD hL hS hO _ _ _ _ => (r_mvB X))<|zP 10 [0] X t_kr t_kr X X X X (fun hD wD τD hL hS hO _ _ => X)<|zP 11 [0, 1] X t_kr t_kr X X X X (fun hD wD τD hL hS hO _ _ _ _ => X)<|zP 12 [0, 2] X t_kr t_kr X X X X (fun hD wD τD hL hS hO _ _ _ _ => X)<|zab 13 [0] X t_kr t_kr X X X (fun hD wD τD hL hS hO _ _ => X)<|zab 14 [0, 1] X t_kr t_kr X X X (fun hD wD τD hL hS hO _ _ _ _ => X)<|zab 15 [2] X t_kr t_kr X X X (fun hD wD τD hL hS hO _ _ => X)<|zab 16 [0, 3] X t_kr t_kr X X X (fun hD wD τD hL hS hO _ _ _ _ => X)<|zab 17 [2, 0, 4] X t_kr t_kr X X X (fun hD wD τD hL hS hO _ _ _ _ _ _ => X)<|zab 18 [0, 5] X t_kr t_kr X X X (fun hD wD τD hL hS hO _ _ _ _ => X)<|zab 19 [0, 6] X t_kr t_kr X X X (fun hD wD τD hL hS hO _ _ _ _ => X)<|zab 20 [7] X t_kr t_kr X X X (fun hD wD τD hL hS hO _ _ => X)<|zab 21 [0, 8] X t_kr t_kr X X X (fun hD wD τD hL hS hO _ _ _ _ => X)<|zab 22 [2, 0, 9] X t_kr t_kr X X X (fun hD wD τD hL hS hO _ _ _ _ _ _ => X)<|zab 23 [0, 10] X t_kr t_kr X X X (fun hD wD τD hL hS hO _ _ _ _ => X)<|zP 24 [11, 0, 14] X t_kr t_kr X X X X (fun hD wD τD hL hS hO _ _ _ _ _ _ => X)<|zq 25 [15, 0] X t_kr t_kr X X (fun hD wD τD hL hS hO _ _ _ _ => (r_pickF (v := (.bool _)) X X))<|zq 26 [25, 24, 23, 22, 21, 20, 19, 18, 17, 16, 15, 14, 13, 12, 11, 10, 9, 8, 7, 6, 5, 4, 3, 2, 1, 0] X t_kr t_kr X X (fun hD wD τD hL hS hO _ _ _ _ _ _ _ _ _ _ _ _ _ _ _ _ _ _ _ _ _ _ _ _ _ _ _ _ _ _ _ _ _ _ _ _ _ _ _ _ _ _ _ _ _ _ _ _ _ _ _ _ => (r_asB X))<|Drw.nil X X X X X X ⟨t_kr, X, t_kr, X, t_kr, X, X, t_kr, cx_nil⟩ ?_
      intro hE258 w259 _ le260 st261 _ _ _ _ _ _ _ _ _ _ _ _ _ _ _ _ _ _ _ _ _ _ _ _ _ _ _ _ _ _ _ _ _ _ _ _ _ _ _ _ _ _ _ _ _ _ _ _ _ _ _ _ _ _
      refine AllDeps.fin X<|U<|zf<|W.sr<|v_field_addr X Tryz.underlying84 X Tryz.sizeOf82 X X<|v_load_cells1 (j := 3) st261.sub (hc36.up (le41.trans le260)) X X X Tryz.isAgg82 X<|v_len (f27.up ((le34.trans le41).trans le260)) X Tryz.underlying82 X<|v_mvI X X<|Y<|zs ?_
      refine zG [8, 9, 10, 77, 78, 79, 80, 81, 82, 83, 84, 85, 86, 87, 88, 89, 90, 91, 92, 93, 94, 95, 96, 97, 98, 99, 100, 101, 102] (G := Nat × Heap) (fun ⟨k, h263⟩ => [(8, .bool (questK p i q k)), (77, .int .i64 (k : Int))]) (fun ⟨k, h263⟩ w' => Le hE258 h263 ∧ St h w h263 w' [[]] ∧ (k ≤ q.heads.length)) (fun ⟨k, h263⟩ => q.heads.length - k) ⟨0, hE258⟩ ⟨(zj (by rw [questK_zero]; first | exact q_init0 %g3 g14 g44 | exact q_init1 %g3 g14 g44 hq1 | exact q_init2 g44 | exact q_init3 g44)), rfl, trivial⟩ ⟨Le.refl _, st261, zK⟩ ?_
      rintro ⟨k, h263⟩ _ w266 ⟨le264, st265, hk⟩
      refine W.sr<|v_lss X X X<|Y<|zf ?_
      refine zh rfl (fun c267 => ?_) (fun c267 => ?_)
      ·
       replace c267 := of_decide_eq_true c267
       refine zr<|U<|zf<|zs<|W.sr<|v_mvI X X ?_
       have hhd : ∃ y_, (q.heads)[k]? = some y_ := ⟨_, List.getElem?_eq_getElem (by omega)⟩
       obtain ⟨hd, hhd⟩ := hhd
       obtain ⟨b268, o269, _, he271, hc270, hr_hd⟩ := Sl.elem (f27.up (((le34.trans le41).trans le260).trans le264)) hhd
       obtain ⟨rfl, ls272, lu273⟩ := hr_hd
       simp only [big] at ls272
       refine v_index_el he271 X X (hk := X) (hu := Tryz.underlying82) (hz := Tryz.sizeOf72) X<|v_load_call st265.sub hc270 X Tryz.isAgg72 Tryz.sizeOf72 X X<|zD st265 Tryz.zeroValue72 X X ?_
       intro b274 w275 st276
       refine v_asI X X<|zC st276 (k := 1) X X X (zp X (zp X zQ)) Tryz.sizeOf72 X X X ?_
       intro w277 st278
       obtain ⟨h279, le280, hb281, st283⟩ := st278.freeze (k := 1) rfl
       have hc282 := Cells.of hb281
       refine Y<|zS Tryz.mixed t_kr (Cls h279 _) (Cls.drew st283)<|u_mvB X X<|u_mvB X X ?_
       refine zW (d := 83) rfl (fun g284 => ?_) (fun g284 => ?_)
       ·
        refine zb X X (d := 83) X<|zm X X (fun _ hC => (zM hC.sub hc282 X Tryz.isAgg72 Tryz.sizeOf72 X))<|zb X X (d := 83) X<|zU X X (fun _ => zT X Tryz.call98 X) (fun _ hC => Rets.quiet hC (c_vote_head hC.sub (hd := hd) t_str t_u8))<|u_pickT (v := (.bool _)) X X X<|u_mvB X X ?_
        refine zW (d := 87) rfl (fun g285 => ?_) (fun g285 => ?_)
        ·
         refine zb X X (d := 87) X<|u_mvI X X<|zb X X (d := 87) X<|u_eql X X X<|zb X X (d := 87) X<|u_mvB X X ?_
         refine zW (d := 90) rfl (fun g286 => ?_) (fun g286 => ?_)
         ·
          replace g286 := of_decide_eq_true g286
          refine O X X (d := 90) X X X<|O X X (d := 90) X X X<|O X X (d := 90) X X X<|O X X (d := 90) X X X<|O X X (d := 90) X X X<|O X X (d := 90) X X X<|O X X (d := 90) X X X<|O X X (d := 90) X X X<|O X X (d := 90) X X X<|zb X X (d := 87) X<|u_pickT (v := (.bool _)) X X X<|u_pickT (v := (.bool _)) X X X<|u_asB X X<|zI ?_
          rintro w287 ⟨h288, s289⟩
          have st290 := st283.call0 s289
          refine zw<|U<|zg<|v_add X X t_om X<|v_mvI X X<|Y ?_
          refine ⟨⟨k + 1, h288⟩, ⟨?_, rfl, trivial⟩, ?_, ⟨((le264.trans le280).trans s289.le), st290.take 1, ?_⟩, ?_⟩
          ·exact zj (by rw [questK_succ]; first | exact q_step0 g284 g285 g286 hhd | exact q_step1 g284 g285 g286 hhd hh1 | exact q_step2 g286 hhd | exact q_step3 g286)
          ·exact zH
          ·first | omega | (simp; omega)
          ·show q.heads.length - ((k + 1)) < q.heads.length - k
           omega
         ·
          replace g286 := of_decide_eq_false g286
          refine zb X X (d := 90) X<|u_field_addr X Tryz.underlying84 X Tryz.sizeOf82 X X<|zb X X (d := 90) X<|zm X X (fun _ hC => (zc (j := 3) hC.sub (hc36.up (((le41.trans le260).trans le264).trans le280)) X X X Tryz.isAgg82))<|zb X X (d := 90) X<|u_mvI X X<|zb X X (d := 90) X<|u_sub X X t_om X<|zb X X (d := 90) X ?_
          have hh1 : ∃ y_, (q.heads)[(k - 1)]? = some y_ := ⟨_, List.getElem?_eq_getElem (by omega)⟩
          obtain ⟨h1, hh1⟩ := hh1
          obtain ⟨b291, o292, _, he294, hc293, hr_h1⟩ := Sl.elem (f27.up ((((le34.trans le41).trans le260).trans le264).trans le280)) hh1
          obtain ⟨rfl, ls295, lu296⟩ := hr_h1
          simp only [big] at ls295
          refine zm rfl rfl (fun _ _ => (zE he294 rfl rfl (hk := (show _ = (((k - 1) : Nat) : Int) by omega)) (hu := Tryz.underlying82) (hz := Tryz.sizeOf72))) ?_
          refine zb X X (d := 90) X<|zm X X (fun _ hC => (zM hC.sub hc293 X Tryz.isAgg72 Tryz.sizeOf72 X))<|zb X X (d := 90) X<|zm X X (fun _ hC => (zM hC.sub hc282 X Tryz.isAgg72 Tryz.sizeOf72 X))<|zb X X (d := 90) X<|zU X X (fun _ => zT X Tryz.call99 X) (fun _ hC => Rets.quiet hC (c_vote_heads hC.sub (a := h1) t_str t_u8 (b := hd) t_str t_u8))<|zb X X (d := 90) X<|u_lss X X X<|zb X X (d := 87) X<|u_pickF (v := (.bool _)) X X X<|u_pickT (v := (.bool _)) X X X<|u_asB X X<|zI ?_
          rintro w297 ⟨h298, s299⟩
          have st300 := st283.call0 s299
          refine zw<|U<|zg<|v_add X X t_om X<|v_mvI X X<|Y ?_
          refine ⟨⟨k + 1, h298⟩, ⟨?_, rfl, trivial⟩, ?_, ⟨((le264.trans le280).trans s299.le), st300.take 1, ?_⟩, ?_⟩
          ·exact zj (by rw [questK_succ]; first | exact q_step0 g284 g285 g286 hhd | exact q_step1 g284 g285 g286 hhd hh1 | exact q_step2 g286 hhd | exact q_step3 g286)
          ·exact zH
          ·first | omega | (simp; omega)
          ·show q.heads.length - ((k + 1)) < q.heads.length - k
           omega
        ·
         refine O X X (d := 87) X X X<|O X X (d := 87) X X X<|O X X (d := 87) X X X<|zl X X (d := 90) X X<|zl X X (d := 90) X X<|zl X X (d := 90) X X<|zl X X (d := 90) X X<|zl X X (d := 90) X X<|zl X X (d := 90) X X<|zl X X (d := 90) X X<|zl X X (d := 90) X X<|zl X X (d := 90) X X<|O X X (d := 87) X X X<|u_pickF (v := (.bool _)) X X X<|u_asB X X<|zI ?_
         rintro w301 ⟨h302, s303⟩
         have st304 := st283.call0 s303
         refine zw<|U<|zg<|v_add X X t_om X<|v_mvI X X<|Y ?_
         refine ⟨⟨k + 1, h302⟩, ⟨?_, rfl, trivial⟩, ?_, ⟨((le264.trans le280).trans s303.le), st304.take 1, ?_⟩, ?_⟩
         ·exact zj (by rw [questK_succ]; first | exact q_step0 g44 g284 g285 hhd | exact q_step1 g44 g284 g285 hhd hh1 | exact q_step2 g285 hhd | exact q_step3 g285)
         ·exact zH
         ·first | omega | (simp; omega)
         ·show q.heads.length - ((k + 1)) < q.heads.length - k
          omega
       ·
        refine O X X (d := 83) X X X<|O X X (d := 83) X X X<|u_pickF (v := (.bool _)) X X X<|u_mvB X X<|O X X (d := 87) X X X<|O X X (d := 87) X X X<|O X X (d := 87) X X X<|zl X X (d := 90) X X<|zl X X (d := 90) X X<|zl X X (d := 90) X X<|zl X X (d := 90) X X<|zl X X (d := 90) X X<|zl X X (d := 90) X X<|zl X X (d := 90) X X<|zl X X (d := 90) X X<|zl X X (d := 90) X X<|O X X (d := 87) X X X<|u_pickF (v := (.bool _)) X X X<|u_asB X X<|zI ?_
        rintro w305 ⟨h306, s307⟩
        have st308 := st283.call0 s307
        refine zw<|U<|zg<|v_add X X t_om X<|v_mvI X X<|Y ?_
        refine ⟨⟨k + 1, h306⟩, ⟨?_, rfl, trivial⟩, ?_, ⟨((le264.trans le280).trans s307.le), st308.take 1, ?_⟩, ?_⟩
        ·exact zj (by rw [questK_succ]; first | exact q_step0 g14 g44 g284 hhd | exact q_step1 g14 g44 g284 hhd hh1 | exact q_step2 g284 hhd | exact q_step3 g284)
        ·exact zH
        ·first | omega | (simp; omega)
        ·show q.heads.length - ((k + 1)) < q.heads.length - k
         omega
      ·
       replace c267 := of_decide_eq_false c267
       refine zL<|ze<|ze<|zF<|U<|W.sr<|v_mvB X X<|v_not X X<|Y ?_
       refine zh rfl (fun c309 => ?_) (fun c309 => ?_)
       ·
        refine W.sr<|v_asI X X<|Y<|zo<|zn<|E<|E<|zn<|E<|za Tryz.results40 ?_
        refine ⟨h263, _, rfl, st265.done, ?_⟩
        refine zB ?_
        first | (refine (check_not hz ?_).symm; simp [pollB]; omega) | (refine (check_yes hz (poll_true ?_ ?_ hA ?_ hV ?_)).symm <;> omega) | (refine (check_not hz (poll_q (i := i) ?_)).symm; rw [quest_eq hq (show q.heads.length = k by omega)]; simpa using c309) | (refine (check_not hz (ask_no (k := k) hv (by have q_ := c309; rw [Int.toNat_natCast, hv] at q_; first | (obtain rfl : k = 0 := (by omega); simpa [askAt, inAll_one] using q_) | (obtain rfl : k = 1 := (by omega); simpa [askAt, inAll_one] using q_) | (obtain rfl : k = 2 := (by omega); simpa [askAt, inAll_one] using q_) | (obtain rfl : k = 3 := (by omega); simpa [askAt, inAll_one] using q_) | (obtain rfl : k = 4 := (by omega); simpa [askAt, inAll_one] using q_)))).symm)
       ·
        refine zr<|zw<|U<|zg<|v_add X X t_om X<|v_mvI X X<|Y ?_
        refine ⟨⟨i + 1, h263⟩, ⟨rfl, trivial⟩, ?_, ⟨((((le18.trans le34).trans le41).trans le260).trans le264), st265.take 0, ?_, ?_⟩, ?_⟩
        ·exact zH
        ·first | omega | (simp; omega)
        ·exact all_lt_succ hA (by rw [quest_eq hq (show q.heads.length = k by omega)]; simpa using c309)
        ·show p.questions.length - ((i + 1)) < p.questions.length - i
         omega
    ·
     replace c21 := of_decide_eq_false c21
     refine zL<|ze<|ze<|zF<|U<|zf<|W.sr<|v_field_addr X Tryz.underlying32 X Tryz.sizeOf30 X X<|v_load_cells1 (j := 4) st19.sub (hc5.up (le10.trans le18)) X X X Tryz.isAgg30 X<|v_len (p_f4.up ((le4.trans le10).trans le18)) X Tryz.underlying30 X<|v_mvI X X<|Y<|zs ?_
     refine zG [2, 11, 13, 109, 110, 111, 112, 113, 114, 115, 116, 117, 118, 119, 120, 121, 122, 123] (G := Nat × Heap) (fun ⟨j, h310⟩ => [(109, .int .i64 (j : Int))]) (fun ⟨j, h310⟩ w' => Le h17 h310 ∧ St h w h310 w' [] ∧ (j ≤ p.voters.length) ∧ (∀ i, i < j → voterAt p i = true)) (fun ⟨j, h310⟩ => p.voters.length - j) ⟨0, h17⟩ ⟨rfl, trivial⟩ ⟨Le.refl _, st19, zK, zK⟩ ?_
     rintro ⟨j, h310⟩ _ w313 ⟨le311, st312, hj, hV⟩
     refine W.sr<|v_lss X X X<|Y<|zf ?_
     refine zh rfl (fun c314 => ?_) (fun c314 => ?_)
     ·
      replace c314 := of_decide_eq_true c314
      refine zr<|U<|zf<|zs<|zf ?_
      obtain ⟨v, hv⟩ : ∃ y, (p.voters)[j]? = some y := ⟨_, List.getElem?_eq_getElem (by omega)⟩
      refine zg<|v_mvI X X<|v_asI X X<|Y<|W.sr<|v_load_call st312.sub (K0.up (((le4.trans le10).trans le18).trans le311)) X Tryz.isAgg163 Tryz.sizeOf163 X X<|v_mvI X X<|Y<|zs ?_
      refine zG [2, 13, 113, 114, 115, 116, 117, 118, 119, 120, 121, 122] (G := Nat × Heap) (fun ⟨k, h315⟩ => [(113, .int .i64 (k : Int))]) (fun ⟨k, h315⟩ w' => Le h310 h315 ∧ St h w h315 w' [] ∧ (k ≤ 5) ∧ (∀ m, m < k → askAt p v j m = true)) (fun ⟨k, h315⟩ => 5 - k) ⟨0, h310⟩ ⟨rfl, trivial⟩ ⟨Le.refl _, st312, zK, zK⟩ ?_
      rintro ⟨k, h315⟩ _ w318 ⟨le316, st317, hk5, hK⟩
      refine W.sr<|v_lss X X X<|Y<|zf ?_
      refine zh rfl (fun c319 => ?_) (fun c319 => ?_)
      ·
       replace c319 := of_decide_eq_true c319
       refine zr<|U<|zf<|zs<|zf ?_
       rcases (show (k : Int) = 0 ∨ (k : Int) = 1 ∨ (k : Int) = 2 ∨ (k : Int) = 3 ∨ (k : Int) = 4 by omega) with hk320 | hk320 | hk320 | hk320 | hk320
       ·
        refine zg ?_
        refine zk rfl rfl (r_index_arrv (us := [.func (.func 261) #[] #[]]) rfl rfl (show _ = ((0 : Nat) : Int) by rw [hk320]; rfl) rfl Tryz.underlying163 Tryz.isAgg162 Tryz.sizeOf162 rfl) ?_
        refine zD st317 Tryz.zeroValue162 X X ?_
        intro b321 w322 st323
        refine zC st323 (k := 0) X X X (zp X zQ) Tryz.sizeOf162 X X X ?_
        intro w324 st325
        obtain ⟨h326, le327, hb328, st330⟩ := st325.freeze (k := 0) rfl
        have hc329 := Cells.of hb328
        refine Y<|W.sr<|v_field_addr X Tryz.underlying162 X Tryz.sizeOf160 X X<|v_load_cells1 (j := 0) st330.sub hc329 X X X Tryz.isAgg160 X<|v_load_call st330.sub (hc5.up ((((le10.trans le18).trans le311).trans le316).trans le327)) X Tryz.isAgg32 Tryz.sizeOf32 X X<|v_mvI X X ?_
        refine OpsL.callFV (fs := []) (cs := []) st330 rfl rfl rfl rfl Tryz.call261 rfl (c_vote_asked_1 st330.sub (p := p) (p_f0.up (((((le4.trans le10).trans le18).trans le311).trans le316).trans le327)) (p_f1.up (((((le4.trans le10).trans le18).trans le311).trans le316).trans le327)) (p_f2.up (((((le4.trans le10).trans le18).trans le311).trans le316).trans le327)) (p_f3.up (((((le4.trans le10).trans le18).trans le311).trans le316).trans le327)) (p_f4.up (((((le4.trans le10).trans le18).trans le311).trans le316).trans le327)) _ (by omega)) ?_
        intro r331 w332 h333 le334 st335 q336
        obtain rfl := q336
        refine v_not X X<|Y ?_
        refine zh rfl (fun c337 => ?_) (fun c337 => ?_)
        ·
         refine W.sr<|v_asI X X<|Y<|zo<|zn<|E<|E<|zn<|zn<|E<|E<|zn<|E<|za Tryz.results40 ?_
         refine ⟨h333, _, rfl, st335.done, ?_⟩
         refine zB ?_
         first | (refine (check_not hz ?_).symm; simp [pollB]; omega) | (refine (check_yes hz (poll_true ?_ ?_ hA ?_ hV ?_)).symm <;> omega) | (refine (check_not hz (poll_q (i := i) ?_)).symm; rw [quest_eq hq (show q.heads.length = k by omega)]; simpa using c337) | (refine (check_not hz (ask_no (k := k) hv (by have q_ := c337; rw [Int.toNat_natCast, hv] at q_; first | (obtain rfl : k = 0 := (by omega); simpa [askAt, inAll_one] using q_) | (obtain rfl : k = 1 := (by omega); simpa [askAt, inAll_one] using q_) | (obtain rfl : k = 2 := (by omega); simpa [askAt, inAll_one] using q_) | (obtain rfl : k = 3 := (by omega); simpa [askAt, inAll_one] using q_) | (obtain rfl : k = 4 := (by omega); simpa [askAt, inAll_one] using q_)))).symm)
        ·
         refine zr<|zw<|U<|zg<|v_add X X t_om X<|v_mvI X X<|Y ?_
         refine ⟨⟨k + 1, h333⟩, ⟨rfl, trivial⟩, ?_, ⟨((le316.trans le327).trans le334), st335.take 0, ?_, ?_⟩, ?_⟩
         ·exact zH
         ·first | omega | (simp; omega)
         ·exact all_lt_succ hK (by have q_ := c337; rw [Int.toNat_natCast, hv] at q_; first | (obtain rfl : k = 0 := (by omega); simpa [askAt, inAll_one] using q_) | (obtain rfl : k = 1 := (by omega); simpa [askAt, inAll_one] using q_) | (obtain rfl : k = 2 := (by omega); simpa [askAt, inAll_one] using q_) | (obtain rfl : k = 3 := (by omega); simpa [askAt, inAll_one] using q_) | (obtain rfl : k = 4 := (by omega); simpa [askAt, inAll_one] using q_))
         ·show 5 - ((k + 1)) < 5 - k
          omega
       ·
        refine zg ?_
        refine zk rfl rfl (r_index_arrv (us := [.func (.func 262) #[] #[]]) rfl rfl (show _ = ((1 : Nat) : Int) by rw [hk320]; rfl) rfl Tryz.underlying163 Tryz.isAgg162 Tryz.sizeOf162 rfl) ?_
        refine zD st317 Tryz.zeroValue162 X X ?_
        intro b338 w339 st340
        refine zC st340 (k := 0) X X X (zp X zQ) Tryz.sizeOf162 X X X ?_
        intro w341 st342
        obtain ⟨h343, le344, hb345, st347⟩ := st342.freeze (k := 0) rfl
        have hc346 := Cells.of hb345
        refine Y<|W.sr<|v_field_addr X Tryz.underlying162 X Tryz.sizeOf160 X X<|v_load_cells1 (j := 0) st347.sub hc346 X X X Tryz.isAgg160 X<|v_load_call st347.sub (hc5.up ((((le10.trans le18).trans le311).trans le316).trans le344)) X Tryz.isAgg32 Tryz.sizeOf32 X X<|v_mvI X X ?_
        refine OpsL.callFV (fs := []) (cs := []) st347 rfl rfl rfl rfl Tryz.call262 rfl (c_vote_asked_2 st347.sub (p := p) (p_f0.up (((((le4.trans le10).trans le18).trans le311).trans le316).trans le344)) (p_f1.up (((((le4.trans le10).trans le18).trans le311).trans le316).trans le344)) (p_f2.up (((((le4.trans le10).trans le18).trans le311).trans le316).trans le344)) (p_f3.up (((((le4.trans le10).trans le18).trans le311).trans le316).trans le344)) (p_f4.up (((((le4.trans le10).trans le18).trans le311).trans le316).trans le344)) _ (by omega)) ?_
        intro r348 w349 h350 le351 st352 q353
        obtain rfl := q353
        refine v_not X X<|Y ?_
        refine zh rfl (fun c354 => ?_) (fun c354 => ?_)
        ·
         refine W.sr<|v_asI X X<|Y<|zo<|zn<|E<|E<|zn<|zn<|E<|E<|zn<|E<|za Tryz.results40 ?_
         refine ⟨h350, _, rfl, st352.done, ?_⟩
         refine zB ?_
         first | (refine (check_not hz ?_).symm; simp [pollB]; omega) | (refine (check_yes hz (poll_true ?_ ?_ hA ?_ hV ?_)).symm <;> omega) | (refine (check_not hz (poll_q (i := i) ?_)).symm; rw [quest_eq hq (show q.heads.length = k by omega)]; simpa using c354) | (refine (check_not hz (ask_no (k := k) hv (by have q_ := c354; rw [Int.toNat_natCast, hv] at q_; first | (obtain rfl : k = 0 := (by omega); simpa [askAt, inAll_one] using q_) | (obtain rfl : k = 1 := (by omega); simpa [askAt, inAll_one] using q_) | (obtain rfl : k = 2 := (by omega); simpa [askAt, inAll_one] using q_) | (obtain rfl : k = 3 := (by omega); simpa [askAt, inAll_one] using q_) | (obtain rfl : k = 4 := (by omega); simpa [askAt, inAll_one] using q_)))).symm)
        ·
         refine zr<|zw<|U<|zg<|v_add X X t_om X<|v_mvI X X<|Y ?_
         refine ⟨⟨k + 1, h350⟩, ⟨rfl, trivial⟩, ?_, ⟨((le316.trans le344).trans le351), st352.take 0, ?_, ?_⟩, ?_⟩
         ·exact zH
         ·first | omega | (simp; omega)
         ·exact all_lt_succ hK (by have q_ := c354; rw [Int.toNat_natCast, hv] at q_; first | (obtain rfl : k = 0 := (by omega); simpa [askAt, inAll_one] using q_) | (obtain rfl : k = 1 := (by omega); simpa [askAt, inAll_one] using q_) | (obtain rfl : k = 2 := (by omega); simpa [askAt, inAll_one] using q_) | (obtain rfl : k = 3 := (by omega); simpa [askAt, inAll_one] using q_) | (obtain rfl : k = 4 := (by omega); simpa [askAt, inAll_one] using q_))
         ·show 5 - ((k + 1)) < 5 - k
          omega
       ·
        refine zg ?_
        refine zk rfl rfl (r_index_arrv (us := [.func (.func 263) #[] #[]]) rfl rfl (show _ = ((2 : Nat) : Int) by rw [hk320]; rfl) rfl Tryz.underlying163 Tryz.isAgg162 Tryz.sizeOf162 rfl) ?_
        refine zD st317 Tryz.zeroValue162 X X ?_
        intro b355 w356 st357
        refine zC st357 (k := 0) X X X (zp X zQ) Tryz.sizeOf162 X X X ?_
        intro w358 st359
        obtain ⟨h360, le361, hb362, st364⟩ := st359.freeze (k := 0) rfl
        have hc363 := Cells.of hb362
        refine Y<|W.sr<|v_field_addr X Tryz.underlying162 X Tryz.sizeOf160 X X<|v_load_cells1 (j := 0) st364.sub hc363 X X X Tryz.isAgg160 X<|v_load_call st364.sub (hc5.up ((((le10.trans le18).trans le311).trans le316).trans le361)) X Tryz.isAgg32 Tryz.sizeOf32 X X<|v_mvI X X ?_
        refine OpsL.callFV (fs := []) (cs := []) st364 rfl rfl rfl rfl Tryz.call263 rfl (c_vote_asked_3 st364.sub (p := p) (p_f0.up (((((le4.trans le10).trans le18).trans le311).trans le316).trans le361)) (p_f1.up (((((le4.trans le10).trans le18).trans le311).trans le316).trans le361)) (p_f2.up (((((le4.trans le10).trans le18).trans le311).trans le316).trans le361)) (p_f3.up (((((le4.trans le10).trans le18).trans le311).trans le316).trans le361)) (p_f4.up (((((le4.trans le10).trans le18).trans le311).trans le316).trans le361)) _ (by omega)) ?_
        intro r365 w366 h367 le368 st369 q370
        obtain rfl := q370
        refine v_not X X<|Y ?_
        refine zh rfl (fun c371 => ?_) (fun c371 => ?_)
        ·
         refine W.sr<|v_asI X X<|Y<|zo<|zn<|E<|E<|zn<|zn<|E<|E<|zn<|E<|za Tryz.results40 ?_
         refine ⟨h367, _, rfl, st369.done, ?_⟩
         refine zB ?_
         first | (refine (check_not hz ?_).symm; simp [pollB]; omega) | (refine (check_yes hz (poll_true ?_ ?_ hA ?_ hV ?_)).symm <;> omega) | (refine (check_not hz (poll_q (i := i) ?_)).symm; rw [quest_eq hq (show q.heads.length = k by omega)]; simpa using c371) | (refine (check_not hz (ask_no (k := k) hv (by have q_ := c371; rw [Int.toNat_natCast, hv] at q_; first | (obtain rfl : k = 0 := (by omega); simpa [askAt, inAll_one] using q_) | (obtain rfl : k = 1 := (by omega); simpa [askAt, inAll_one] using q_) | (obtain rfl : k = 2 := (by omega); simpa [askAt, inAll_one] using q_) | (obtain rfl : k = 3 := (by omega); simpa [askAt, inAll_one] using q_) | (obtain rfl : k = 4 := (by omega); simpa [askAt, inAll_one] using q_)))).symm)
        ·
         refine zr<|zw<|U<|zg<|v_add X X t_om X<|v_mvI X X<|Y ?_
         refine ⟨⟨k + 1, h367⟩, ⟨rfl, trivial⟩, ?_, ⟨((le316.trans le361).trans le368), st369.take 0, ?_, ?_⟩, ?_⟩
         ·exact zH
         ·first | omega | (simp; omega)
         ·exact all_lt_succ hK (by have q_ := c371; rw [Int.toNat_natCast, hv] at q_; first | (obtain rfl : k = 0 := (by omega); simpa [askAt, inAll_one] using q_) | (obtain rfl : k = 1 := (by omega); simpa [askAt, inAll_one] using q_) | (obtain rfl : k = 2 := (by omega); simpa [askAt, inAll_one] using q_) | (obtain rfl : k = 3 := (by omega); simpa [askAt, inAll_one] using q_) | (obtain rfl : k = 4 := (by omega); simpa [askAt, inAll_one] using q_))
         ·show 5 - ((k + 1)) < 5 - k
          omega
       ·
        refine zg ?_
        refine zk rfl rfl (r_index_arrv (us := [.func (.func 264) #[] #[]]) rfl rfl (show _ = ((3 : Nat) : Int) by rw [hk320]; rfl) rfl Tryz.underlying163 Tryz.isAgg162 Tryz.sizeOf162 rfl) ?_
        refine zD st317 Tryz.zeroValue162 X X ?_
        intro b372 w373 st374
        refine zC st374 (k := 0) X X X (zp X zQ) Tryz.sizeOf162 X X X ?_
        intro w375 st376
        obtain ⟨h377, le378, hb379, st381⟩ := st376.freeze (k := 0) rfl
        have hc380 := Cells.of hb379
        refine Y<|W.sr<|v_field_addr X Tryz.underlying162 X Tryz.sizeOf160 X X<|v_load_cells1 (j := 0) st381.sub hc380 X X X Tryz.isAgg160 X<|v_load_call st381.sub (hc5.up ((((le10.trans le18).trans le311).trans le316).trans le378)) X Tryz.isAgg32 Tryz.sizeOf32 X X<|v_mvI X X ?_
        refine OpsL.callFV (fs := []) (cs := []) st381 rfl rfl rfl rfl Tryz.call264 rfl (c_vote_asked_4 st381.sub (p := p) (p_f0.up (((((le4.trans le10).trans le18).trans le311).trans le316).trans le378)) (p_f1.up (((((le4.trans le10).trans le18).trans le311).trans le316).trans le378)) (p_f2.up (((((le4.trans le10).trans le18).trans le311).trans le316).trans le378)) (p_f3.up (((((le4.trans le10).trans le18).trans le311).trans le316).trans le378)) (p_f4.up (((((le4.trans le10).trans le18).trans le311).trans le316).trans le378)) _ (by omega) (by intro u hu_; exact asked_len hv (hK 2 (by omega)))) ?_
        intro r382 w383 h384 le385 st386 q387
        obtain rfl := q387
        refine v_not X X<|Y ?_
        refine zh rfl (fun c388 => ?_) (fun c388 => ?_)
        ·
         refine W.sr<|v_asI X X<|Y<|zo<|zn<|E<|E<|zn<|zn<|E<|E<|zn<|E<|za Tryz.results40 ?_
         refine ⟨h384, _, rfl, st386.done, ?_⟩
         refine zB ?_
         first | (refine (check_not hz ?_).symm; simp [pollB]; omega) | (refine (check_yes hz (poll_true ?_ ?_ hA ?_ hV ?_)).symm <;> omega) | (refine (check_not hz (poll_q (i := i) ?_)).symm; rw [quest_eq hq (show q.heads.length = k by omega)]; simpa using c388) | (refine (check_not hz (ask_no (k := k) hv (by have q_ := c388; rw [Int.toNat_natCast, hv] at q_; first | (obtain rfl : k = 0 := (by omega); simpa [askAt, inAll_one] using q_) | (obtain rfl : k = 1 := (by omega); simpa [askAt, inAll_one] using q_) | (obtain rfl : k = 2 := (by omega); simpa [askAt, inAll_one] using q_) | (obtain rfl : k = 3 := (by omega); simpa [askAt, inAll_one] using q_) | (obtain rfl : k = 4 := (by omega); simpa [askAt, inAll_one] using q_)))).symm)
        ·
         refine zr<|zw<|U<|zg<|v_add X X t_om X<|v_mvI X X<|Y ?_
         refine ⟨⟨k + 1, h384⟩, ⟨rfl, trivial⟩, ?_, ⟨((le316.trans le378).trans le385), st386.take 0, ?_, ?_⟩, ?_⟩
         ·exact zH
         ·first | omega | (simp; omega)
         ·exact all_lt_succ hK (by have q_ := c388; rw [Int.toNat_natCast, hv] at q_; first | (obtain rfl : k = 0 := (by omega); simpa [askAt, inAll_one] using q_) | (obtain rfl : k = 1 := (by omega); simpa [askAt, inAll_one] using q_) | (obtain rfl : k = 2 := (by omega); simpa [askAt, inAll_one] using q_) | (obtain rfl : k = 3 := (by omega); simpa [askAt, inAll_one] using q_) | (obtain rfl : k = 4 := (by omega); simpa [askAt, inAll_one] using q_))
         ·show 5 - ((k + 1)) < 5 - k
          omega
       ·
        refine zg ?_
        refine zk rfl rfl (r_index_arrv (us := [.func (.func 265) #[] #[]]) rfl rfl (show _ = ((4 : Nat) : Int) by rw [hk320]; rfl) rfl Tryz.underlying163 Tryz.isAgg162 Tryz.sizeOf162 rfl) ?_
        refine zD st317 Tryz.zeroValue162 X X ?_
        intro b389 w390 st391
        refine zC st391 (k := 0) X X X (zp X zQ) Tryz.sizeOf162 X X X ?_
        intro w392 st393
        obtain ⟨h394, le395, hb396, st398⟩ := st393.freeze (k := 0) rfl
        have hc397 := Cells.of hb396
        refine Y<|W.sr<|v_field_addr X Tryz.underlying162 X Tryz.sizeOf160 X X<|v_load_cells1 (j := 0) st398.sub hc397 X X X Tryz.isAgg160 X<|v_load_call st398.sub (hc5.up ((((le10.trans le18).trans le311).trans le316).trans le395)) X Tryz.isAgg32 Tryz.sizeOf32 X X<|v_mvI X X ?_
        refine OpsL.callFV (fs := []) (cs := []) st398 rfl rfl rfl rfl Tryz.call265 rfl (c_vote_asked_5 st398.sub (p := p) (p_f0.up (((((le4.trans le10).trans le18).trans le311).trans le316).trans le395)) (p_f1.up (((((le4.trans le10).trans le18).trans le311).trans le316).trans le395)) (p_f2.up (((((le4.trans le10).trans le18).trans le311).trans le316).trans le395)) (p_f3.up (((((le4.trans le10).trans le18).trans le311).trans le316).trans le395)) (p_f4.up (((((le4.trans le10).trans le18).trans le311).trans le316).trans le395)) _ (by omega)) ?_
        intro r399 w400 h401 le402 st403 q404
        obtain rfl := q404
        refine v_not X X<|Y ?_
        refine zh rfl (fun c405 => ?_) (fun c405 => ?_)
        ·
         refine W.sr<|v_asI X X<|Y<|zo<|zn<|E<|E<|zn<|zn<|E<|E<|zn<|E<|za Tryz.results40 ?_
         refine ⟨h401, _, rfl, st403.done, ?_⟩
         refine zB ?_
         first | (refine (check_not hz ?_).symm; simp [pollB]; omega) | (refine (check_yes hz (poll_true ?_ ?_ hA ?_ hV ?_)).symm <;> omega) | (refine (check_not hz (poll_q (i := i) ?_)).symm; rw [quest_eq hq (show q.heads.length = k by omega)]; simpa using c405) | (refine (check_not hz (ask_no (k := k) hv (by have q_ := c405; rw [Int.toNat_natCast, hv] at q_; first | (obtain rfl : k = 0 := (by omega); simpa [askAt, inAll_one] using q_) | (obtain rfl : k = 1 := (by omega); simpa [askAt, inAll_one] using q_) | (obtain rfl : k = 2 := (by omega); simpa [askAt, inAll_one] using q_) | (obtain rfl : k = 3 := (by omega); simpa [askAt, inAll_one] using q_) | (obtain rfl : k = 4 := (by omega); simpa [askAt, inAll_one] using q_)))).symm)
        ·
         refine zr<|zw<|U<|zg<|v_add X X t_om X<|v_mvI X X<|Y ?_
         refine ⟨⟨k + 1, h401⟩, ⟨rfl, trivial⟩, ?_, ⟨((le316.trans le395).trans le402), st403.take 0, ?_, ?_⟩, ?_⟩
         ·exact zH
         ·first | omega | (simp; omega)
         ·exact all_lt_succ hK (by have q_ := c405; rw [Int.toNat_natCast, hv] at q_; first | (obtain rfl : k = 0 := (by omega); simpa [askAt, inAll_one] using q_) | (obtain rfl : k = 1 := (by omega); simpa [askAt, inAll_one] using q_) | (obtain rfl : k = 2 := (by omega); simpa [askAt, inAll_one] using q_) | (obtain rfl : k = 3 := (by omega); simpa [askAt, inAll_one] using q_) | (obtain rfl : k = 4 := (by omega); simpa [askAt, inAll_one] using q_))
         ·show 5 - ((k + 1)) < 5 - k
          omega
      ·
       replace c319 := of_decide_eq_false c319
       refine zL<|ze<|ze<|zF<|zw<|U<|zg<|v_add X X t_om X<|v_mvI X X<|Y ?_
       refine ⟨⟨j + 1, h315⟩, ⟨rfl, trivial⟩, ?_, ⟨(le311.trans le316), st317, ?_, ?_⟩, ?_⟩
       ·exact zH
       ·first | omega | (simp; omega)
       ·exact all_lt_succ hV (ask_all hv hK (by omega))
       ·show p.voters.length - ((j + 1)) < p.voters.length - j
        omega
     ·
      replace c314 := of_decide_eq_false c314
      refine zL<|ze<|ze<|zF<|U<|W.sr<|v_asI X X<|Y<|zo<|za Tryz.results40 ?_
      refine ⟨h310, _, rfl, st312.done, ?_⟩
      refine zB ?_
      first | (refine (check_not hz ?_).symm; simp [pollB]; omega) | (refine (check_yes hz (poll_true ?_ ?_ hA ?_ hV ?_)).symm <;> omega) | (refine (check_not hz (poll_q (i := i) ?_)).symm; rw [quest_eq hq (show q.heads.length = k by omega)]; simpa using c314) | (refine (check_not hz (ask_no (k := k) hv (by have q_ := c314; rw [Int.toNat_natCast, hv] at q_; first | (obtain rfl : k = 0 := (by omega); simpa [askAt, inAll_one] using q_) | (obtain rfl : k = 1 := (by omega); simpa [askAt, inAll_one] using q_) | (obtain rfl : k = 2 := (by omega); simpa [askAt, inAll_one] using q_) | (obtain rfl : k = 3 := (by omega); simpa [askAt, inAll_one] using q_) | (obtain rfl : k = 4 := (by omega); simpa [askAt, inAll_one] using q_)))).symm)
end Go.Pk
