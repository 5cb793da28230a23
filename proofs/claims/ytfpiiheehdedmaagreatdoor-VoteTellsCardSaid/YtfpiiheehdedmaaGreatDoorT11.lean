/- A PART OF THE PROOF: contracts of functions, each walked once (much of it printed by a program of the author's own). -/
import Derived.Test.YtfpiiheehdedmaaGreatDoorT8
import Derived.Test.YtfpiiheehdedmaaGreatDoorT2
import Derived.Test.YtfpiiheehdedmaaGreatDoorT1
import Derived.Test.YtfpiiheehdedmaaGreatDoorT3
set_option linter.unusedSimpArgs false
set_option linter.unusedVariables false
namespace Go.Pk
open Go Go.RowKit Go.Proofs
set_option maxRecDepth 4000 in
theorem zZ {h : Heap} {w : World} (hs : Sub h w) (n : Int) (lo : Int) (hi : Int) : Calls Tryz.prog 57 #[.int .i64 n, .int .i64 lo, .int .i64 hi] w (Rets h w (fun _ _ res_ => res_ = .bool (inB n lo hi))) := by
 refine zz (n := 15) (args := [.int .i64 n, .int .i64 lo, .int .i64 hi]) Tryz.func57 X X X ?_
 have st0 : St h w h w [] := St.start hs
 refine W.sr<|v_asB X X<|Y<|W.sr<|v_mvI X X<|v_mvI X X<|v_geq X X X<|v_mvB X X ?_
 refine zx (d := 10) rfl (fun g1 => ?_) (fun g1 => ?_)
 ·
  replace g1 := of_decide_eq_true g1
  refine M X X (d := 10) X<|v_mvI X X<|M X X (d := 10) X<|v_mvI X X<|M X X (d := 10) X<|zk X X (r_leq X X)<|v_pickT (v := (.bool _)) X X X<|v_asB X X<|Y<|zo<|za Tryz.results57 ?_
  refine ⟨h, _, rfl, st0.done, ?_⟩
  refine zj ?_
  first | (simp_all [inB]; done) | (simp_all [inB]; omega)
 ·
  replace g1 := of_decide_eq_false g1
  refine Z X X X X X<|Z X X X X X<|Z X X X X X<|v_pickF (v := (.bool _)) X X X<|v_asB X X<|Y<|zo<|za Tryz.results57 ?_
  refine ⟨h, _, rfl, st0.done, ?_⟩
  refine zj ?_
  first | (simp_all [inB]; done) | (simp_all [inB]; omega)
set_option maxRecDepth 4000 in
set_option maxHeartbeats 4000000 in
theorem c_postilref07_Poll {h : Heap} {w : World} (hs : Sub h w) {p : Poll} {p_v0 : Value} (p_f0 : Sl LChapter h p_v0 p.text.chapters) {p_v1 : Value} (p_f1 : Sl LRule h p_v1 p.lexicon.rules) {p_v2 : Value} (p_f2 : Sl LDecision h p_v2 p.lexicon.decisions) {p_v3 : Value} (p_f3 : Sl LQuestion h p_v3 p.questions) {p_v4 : Value} (p_f4 : Sl LVoter h p_v4 p.voters) (ht : textB p.text = true) : Calls Tryz.prog 105 #[.agg #[p_v0, p_v1, p_v2, p_v3, p_v4]] w (Rets h w (fun _ _ res_ => res_ = .bool (pollB p))) := by
 refine zz (n := 162) (args := [.agg #[p_v0, p_v1, p_v2, p_v3, p_v4]]) Tryz.func105 X X X ?_
 have st0 : St h w h w [] := St.start hs
 have p_f0_b := p_f0.le
 have p_f1_b := p_f1.le
 have p_f2_b := p_f2.le
 have p_f3_b := p_f3.le
 have p_f4_b := p_f4.le
 refine W.sr<|zy st0 (cs := [p_v0, p_v1, p_v2, p_v3, p_v4]) X X X ?_
 intro b1 w2 h3 le4 hc5 st6
 refine v_asB X X<|Y<|zf<|W.sr<|v_field_addr X Tryz.underlying32 X Tryz.sizeOf29 X X<|v_load_cells1 (j := 3) st6.sub hc5 X X X Tryz.isAgg29 X<|v_len (p_f3.up le4) X Tryz.underlying29 X<|v_gtr X X X<|v_mvB X X ?_
 refine zx (d := 14) rfl (fun g7 => ?_) (fun g7 => ?_)
 ·
  replace g7 := of_decide_eq_true g7
  refine Z X X X X X<|Z X X X X X<|Z X X X X X<|Z X X X X X<|v_pickT (v := (.bool _)) X X X<|Y ?_
  refine zh rfl (fun c8 => ?_) (fun c8 => ?_)
  ·
   refine W.sr<|v_asB X X<|Y<|zo<|E<|za Tryz.results105 ?_
   refine ⟨h3, _, rfl, st6.done, ?_⟩
   refine zj ?_
   first | (refine (poll_true ?_ ?_ hA ?_ hV ?_).symm <;> omega) | (refine (poll_v3 hv hu ?_ ?_).symm <;> first | omega | assumption) | (refine (poll_v2 hv (k := m) ?_).symm; simp only [votesAt, hn, hqk]; simp_all; done) | (refine (poll_v (i := i) ?_).symm; simp only [voterAt, hv, voterOk]; simp_all; done) | (refine (poll_v (i := i) ?_).symm; simp only [voterAt, hv, voterOk]; simp_all <;> (intros; omega)) | (refine (poll_q2 hq (k := k) ?_).symm; simp only [headsOkAt, hhd]; simp_all; done) | (refine (poll_q2 hq (k := k) ?_).symm; simp only [headsOkAt, hhd, hh1]; cases k <;> simp_all; done) | (refine (poll_q (i := i) ?_).symm; simp only [questAt, hq]; simp_all; done) | (refine (poll_q (i := i) ?_).symm; simp only [questAt, hq, hq1]; cases i <;> simp_all; done) | (simp_all [pollB]; done) | (simp_all [pollB]; omega)
  ·
   cases c8
 ·
  replace g7 := of_decide_eq_false g7
  refine M X X (d := 14) X<|v_field_addr X Tryz.underlying32 X Tryz.sizeOf30 X X<|M X X (d := 14) X<|v_load_cells1 (j := 4) st6.sub hc5 X X X Tryz.isAgg30 X<|M X X (d := 14) X<|v_len (p_f4.up le4) X Tryz.underlying30 X<|M X X (d := 14) X<|v_gtr X X X<|v_pickF (v := (.bool _)) X X X<|Y ?_
  refine zh rfl (fun c9 => ?_) (fun c9 => ?_)
  ·
   replace c9 := of_decide_eq_true c9
   refine W.sr<|v_asB X X<|Y<|zo<|E<|za Tryz.results105 ?_
   refine ⟨h3, _, rfl, st6.done, ?_⟩
   refine zj ?_
   first | (refine (poll_true ?_ ?_ hA ?_ hV ?_).symm <;> omega) | (refine (poll_v3 hv hu ?_ ?_).symm <;> first | omega | assumption) | (refine (poll_v2 hv (k := m) ?_).symm; simp only [votesAt, hn, hqk]; simp_all; done) | (refine (poll_v (i := i) ?_).symm; simp only [voterAt, hv, voterOk]; simp_all; done) | (refine (poll_v (i := i) ?_).symm; simp only [voterAt, hv, voterOk]; simp_all <;> (intros; omega)) | (refine (poll_q2 hq (k := k) ?_).symm; simp only [headsOkAt, hhd]; simp_all; done) | (refine (poll_q2 hq (k := k) ?_).symm; simp only [headsOkAt, hhd, hh1]; cases k <;> simp_all; done) | (refine (poll_q (i := i) ?_).symm; simp only [questAt, hq]; simp_all; done) | (refine (poll_q (i := i) ?_).symm; simp only [questAt, hq, hq1]; cases i <;> simp_all; done) | (simp_all [pollB]; done) | (simp_all [pollB]; omega)
  ·
   replace c9 := of_decide_eq_false c9
   refine zr<|U<|zf<|W.sr<|v_asI X X<|Y<|zs ?_
   refine zG [2, 3, 4, 5, 20, 21, 22, 23, 24, 25, 26, 27, 28, 29, 30, 31, 32, 33, 34, 35, 36, 37, 38, 39, 40, 41, 42, 43, 44, 45, 46, 47, 48, 49, 50, 51, 52, 53, 54, 55, 56, 57, 58, 59, 60, 61, 62, 63, 64, 65, 66, 67, 68, 69, 70, 71, 72, 73, 74, 75, 76, 77, 78, 79, 80, 81, 82, 83, 84, 85, 86, 87, 88, 89, 90, 91, 92, 93, 94] (G := Nat × Heap) (fun ⟨i, h10⟩ => [(3, .int .i64 (i : Int))]) (fun ⟨i, h10⟩ w' => Le h3 h10 ∧ St h w h10 w' [] ∧ (i ≤ p.questions.length) ∧ (∀ j, j < i → questAt p j = true)) (fun ⟨i, h10⟩ => p.questions.length - i) ⟨0, h3⟩ ⟨rfl, trivial⟩ ⟨Le.refl _, st6, zK, zK⟩ ?_
   rintro ⟨i, h10⟩ _ w13 ⟨le11, st12, hi, hA⟩
   refine zf<|W.sr<|v_mvI X X<|v_field_addr X Tryz.underlying32 X Tryz.sizeOf29 X X<|v_load_cells1 (j := 3) st12.sub (hc5.up le11) X X X Tryz.isAgg29 X<|v_len (p_f3.up (le4.trans le11)) X Tryz.underlying29 X<|v_lss X X X<|Y ?_
   refine zh rfl (fun c14 => ?_) (fun c14 => ?_)
   ·
    replace c14 := of_decide_eq_true c14
    refine zr<|U<|zf<|zs<|W.sr<|v_field_addr X Tryz.underlying32 X Tryz.sizeOf29 X X<|v_load_cells1 (j := 3) st12.sub (hc5.up le11) X X X Tryz.isAgg29 X<|v_mvI X X ?_
    have hq : ∃ y_, (p.questions)[i]? = some y_ := ⟨_, List.getElem?_eq_getElem (by omega)⟩
    obtain ⟨q, hq⟩ := hq
    obtain ⟨b15, o16, _, he18, hc17, hr_q⟩ := Sl.elem (p_f3.up (le4.trans le11)) hq
    obtain ⟨v19, rfl, f20⟩ := hr_q
    have f20_b := f20.le
    refine v_index_el he18 X X (hk := X) (hu := Tryz.underlying29) (hz := Tryz.sizeOf84) X<|v_load_call st12.sub hc17 X Tryz.isAgg84 Tryz.sizeOf84 X X<|zD st12 Tryz.zeroValue84 X X ?_
    intro b21 w22 st23
    refine zC st23 (k := 0) X X X (zp X (zp X (zp X (zp f20.one zQ)))) Tryz.sizeOf84 X X X ?_
    intro w24 st25
    obtain ⟨h26, le27, hb28, st30⟩ := st25.freeze (k := 0) rfl
    have hc29 := Cells.of hb28
    refine Y<|zf<|zf<|zS Tryz.mixed t_kr (Cls h26 _) (Cls.drew st30)<|u_field_addr X Tryz.underlying32 X Tryz.sizeOf24 X X<|zm X X (fun _ hC => (r_load_cellsN (j := 0) hC.sub (hc5.up (le11.trans le27)) (us := [p_v0]) X X Tryz.isAgg24 Tryz.sizeOf24 X X))<|u_field_addr X Tryz.underlying84 X Tryz.sizeOf70 X X<|zm X X (fun _ hC => (r_load_cellsN (j := 0) hC.sub hc29 (us := [.int .i64 (q.at_.chapter), .int .i64 (q.at_.line), .int .i64 (q.at_.word)]) X X Tryz.isAgg70 Tryz.sizeOf70 X X))<|zU X X (fun _ => zT X Tryz.call113 X) (fun _ hC => Rets.quiet hC (c_postilref01_Place hC.sub (t := p.text) (p_f0.up ((le4.trans le11).trans le27)) (p := q.at_)))<|u_not X X<|u_mvB X X ?_
    refine zW (d := 38) rfl (fun g31 => ?_) (fun g31 => ?_)
    ·
     refine O X X (d := 38) X X X<|O X X (d := 38) X X X<|O X X (d := 38) X X X<|zl X X (d := 41) X X<|zl X X (d := 41) X X<|zl X X (d := 41) X X<|zl X X (d := 41) X X<|zl X X (d := 41) X X<|zl X X (d := 41) X X<|zl X X (d := 41) X X<|zl X X (d := 41) X X<|zl X X (d := 41) X X<|zl X X (d := 41) X X<|zl X X (d := 41) X X<|O X X (d := 38) X X X<|u_pickT (v := (.bool _)) X X X<|u_mvB X X<|O X X (d := 55) X X X<|O X X (d := 55) X X X<|O X X (d := 55) X X X<|O X X (d := 55) X X X<|O X X (d := 55) X X X<|u_pickT (v := (.bool _)) X X X<|zI ?_
     rintro w32 ⟨h33, s34⟩
     have st35 := st30.call0 s34
     refine U ?_
     refine zh rfl (fun c36 => ?_) (fun c36 => ?_)
     ·
      refine W.sr<|v_asB X X<|Y<|zo<|E<|zn<|E<|E<|zn<|E<|za Tryz.results105 ?_
      refine ⟨h33, _, rfl, st35.done, ?_⟩
      refine zj ?_
      first | (refine (poll_true ?_ ?_ hA ?_ hV ?_).symm <;> omega) | (refine (poll_v3 hv hu ?_ ?_).symm <;> first | omega | assumption) | (refine (poll_v2 hv (k := m) ?_).symm; simp only [votesAt, hn, hqk]; simp_all; done) | (refine (poll_v (i := i) ?_).symm; simp only [voterAt, hv, voterOk]; simp_all; done) | (refine (poll_v (i := i) ?_).symm; simp only [voterAt, hv, voterOk]; simp_all <;> (intros; omega)) | (refine (poll_q2 hq (k := k) ?_).symm; simp only [headsOkAt, hhd]; simp_all; done) | (refine (poll_q2 hq (k := k) ?_).symm; simp only [headsOkAt, hhd, hh1]; cases k <;> simp_all; done) | (refine (poll_q (i := i) ?_).symm; simp only [questAt, hq]; simp_all; done) | (refine (poll_q (i := i) ?_).symm; simp only [questAt, hq, hq1]; cases i <;> simp_all; done) | (simp_all [pollB]; done) | (simp_all [pollB]; omega)
     ·
      cases c36
    ·
     refine zb X X (d := 38) X<|u_mvI X X<|zb X X (d := 38) X<|u_gtr X X X<|zb X X (d := 38) X<|u_mvB X X ?_
     refine zW (d := 41) rfl (fun g37 => ?_) (fun g37 => ?_)
     ·
      replace g37 := of_decide_eq_true g37
      refine zb X X (d := 41) X<|u_field_addr X Tryz.underlying32 X Tryz.sizeOf29 X X<|zb X X (d := 41) X<|zm X X (fun _ hC => (zc (j := 3) hC.sub (hc5.up (le11.trans le27)) X X X Tryz.isAgg29))<|zb X X (d := 41) X<|u_mvI X X<|zb X X (d := 41) X<|u_sub X X t_om X<|zb X X (d := 41) X ?_
      have hq1 : ∃ y_, (p.questions)[(i - 1)]? = some y_ := ⟨_, List.getElem?_eq_getElem (by omega)⟩
      obtain ⟨q1, hq1⟩ := hq1
      obtain ⟨b38, o39, _, he41, hc40, hr_q1⟩ := Sl.elem (p_f3.up ((le4.trans le11).trans le27)) hq1
      obtain ⟨v42, rfl, f43⟩ := hr_q1
      have f43_b := f43.le
      refine zm rfl rfl (fun _ _ => (zE he41 rfl rfl (hk := (show _ = (((i - 1) : Nat) : Int) by omega)) (hu := Tryz.underlying29) (hz := Tryz.sizeOf84))) ?_
      refine zb X X (d := 41) X<|u_field_addr X Tryz.underlying84 X Tryz.sizeOf70 X X<|zb X X (d := 41) X<|zm X X (fun _ hC => (r_load_cellsN (j := 0) hC.sub hc40 (us := [.int .i64 (q1.at_.chapter), .int .i64 (q1.at_.line), .int .i64 (q1.at_.word)]) X X Tryz.isAgg70 Tryz.sizeOf70 X X))<|zb X X (d := 41) X<|u_field_addr X Tryz.underlying84 X Tryz.sizeOf70 X X<|zb X X (d := 41) X<|zm X X (fun _ hC => (r_load_cellsN (j := 0) hC.sub hc29 (us := [.int .i64 (q.at_.chapter), .int .i64 (q.at_.line), .int .i64 (q.at_.word)]) X X Tryz.isAgg70 Tryz.sizeOf70 X X))<|zb X X (d := 41) X<|zU X X (fun _ => zT X Tryz.call146 X) (fun _ hC => Rets.quiet hC (c_postilref01_Before hC.sub (a := q1.at_) (b := q.at_)))<|zb X X (d := 41) X<|u_not X X<|zb X X (d := 38) X<|u_pickT (v := (.bool _)) X X X<|u_pickF (v := (.bool _)) X X X<|u_mvB X X ?_
      refine zW (d := 55) rfl (fun g44 => ?_) (fun g44 => ?_)
      ·
       refine O X X (d := 55) X X X<|O X X (d := 55) X X X<|O X X (d := 55) X X X<|O X X (d := 55) X X X<|O X X (d := 55) X X X<|u_pickT (v := (.bool _)) X X X<|zI ?_
       rintro w45 ⟨h46, s47⟩
       have st48 := st30.call0 s47
       refine U ?_
       refine zh rfl (fun c49 => ?_) (fun c49 => ?_)
       ·
        refine W.sr<|v_asB X X<|Y<|zo<|E<|zn<|E<|E<|zn<|E<|za Tryz.results105 ?_
        refine ⟨h46, _, rfl, st48.done, ?_⟩
        refine zj ?_
        first | (refine (poll_true ?_ ?_ hA ?_ hV ?_).symm <;> omega) | (refine (poll_v3 hv hu ?_ ?_).symm <;> first | omega | assumption) | (refine (poll_v2 hv (k := m) ?_).symm; simp only [votesAt, hn, hqk]; simp_all; done) | (refine (poll_v (i := i) ?_).symm; simp only [voterAt, hv, voterOk]; simp_all; done) | (refine (poll_v (i := i) ?_).symm; simp only [voterAt, hv, voterOk]; simp_all <;> (intros; omega)) | (refine (poll_q2 hq (k := k) ?_).symm; simp only [headsOkAt, hhd]; simp_all; done) | (refine (poll_q2 hq (k := k) ?_).symm; simp only [headsOkAt, hhd, hh1]; cases k <;> simp_all; done) | (refine (poll_q (i := i) ?_).symm; simp only [questAt, hq]; simp_all; done) | (refine (poll_q (i := i) ?_).symm; simp only [questAt, hq, hq1]; cases i <;> simp_all; done) | (simp_all [pollB]; done) | (simp_all [pollB]; omega)
       ·
        cases c49
      ·
       refine zb X X (d := 55) X<|u_field_addr X Tryz.underlying84 X Tryz.sizeOf82 X X<|zb X X (d := 55) X<|zm X X (fun _ hC => (zc (j := 3) hC.sub hc29 X X X Tryz.isAgg82))<|zb X X (d := 55) X<|u_len (f20.up le27) X Tryz.underlying82 X<|zb X X (d := 55) X<|zU X X (fun _ => zT X Tryz.call57 X) (fun _ hC => Rets.quiet hC (zZ hC.sub _ _ _))<|zb X X (d := 55) X<|u_not X X<|u_pickF (v := (.bool _)) X X X<|zI ?_
       rintro w50 ⟨h51, s52⟩
       have st53 := st30.call0 s52
       refine U ?_
       refine zh rfl (fun c54 => ?_) (fun c54 => ?_)
       ·
        refine W.sr<|v_asB X X<|Y<|zo<|E<|zn<|E<|E<|zn<|E<|za Tryz.results105 ?_
        refine ⟨h51, _, rfl, st53.done, ?_⟩
        refine zj ?_
        first | (refine (poll_true ?_ ?_ hA ?_ hV ?_).symm <;> omega) | (refine (poll_v3 hv hu ?_ ?_).symm <;> first | omega | assumption) | (refine (poll_v2 hv (k := m) ?_).symm; simp only [votesAt, hn, hqk]; simp_all; done) | (refine (poll_v (i := i) ?_).symm; simp only [voterAt, hv, voterOk]; simp_all; done) | (refine (poll_v (i := i) ?_).symm; simp only [voterAt, hv, voterOk]; simp_all <;> (intros; omega)) | (refine (poll_q2 hq (k := k) ?_).symm; simp only [headsOkAt, hhd]; simp_all; done) | (refine (poll_q2 hq (k := k) ?_).symm; simp only [headsOkAt, hhd, hh1]; cases k <;> simp_all; done) | (refine (poll_q (i := i) ?_).symm; simp only [questAt, hq]; simp_all; done) | (refine (poll_q (i := i) ?_).symm; simp only [questAt, hq, hq1]; cases i <;> simp_all; done) | (simp_all [pollB]; done) | (simp_all [pollB]; omega)
       ·
        refine zr<|U<|zf ?_
        have hq0 : placeB p.text q.at_ = true ∧ (decide (i = 0) || beforeB ((p.questions[i - 1]?).getD zQuestion).at_ q.at_) = true ∧ inB q.heads.length 2 3 = true := ⟨by simp_all, by first | (simp_all; done) | (rw [hq1]; simp_all; done) | (simp_all; omega), by simp_all⟩
        refine zg<|v_asI X X<|Y<|zs ?_
        refine zG [2, 5, 62, 63, 64, 65, 66, 67, 68, 69, 70, 71, 72, 73, 74, 75, 76, 77, 78, 79, 80, 81, 82, 83, 84, 85, 86, 87, 88, 89, 90, 91, 92, 93, 94] (G := Nat × Heap) (fun ⟨k, h55⟩ => [(5, .int .i64 (k : Int))]) (fun ⟨k, h55⟩ w' => Le h51 h55 ∧ St h w h55 w' [[]] ∧ (k ≤ q.heads.length) ∧ (∀ j, j < k → headsOkAt q.heads j = true)) (fun ⟨k, h55⟩ => q.heads.length - k) ⟨0, h51⟩ ⟨rfl, trivial⟩ ⟨Le.refl _, st53, zK, zK⟩ ?_
        rintro ⟨k, h55⟩ _ w58 ⟨le56, st57, hk, hB⟩
        refine zf<|W.sr<|v_mvI X X<|v_field_addr X Tryz.underlying84 X Tryz.sizeOf82 X X<|v_load_cells1 (j := 3) st57.sub (hc29.up (s52.le.trans le56)) X X X Tryz.isAgg82 X<|v_len (f20.up ((le27.trans s52.le).trans le56)) X Tryz.underlying82 X<|v_lss X X X<|Y ?_
        refine zh rfl (fun c59 => ?_) (fun c59 => ?_)
        ·
         replace c59 := of_decide_eq_true c59
         refine zr<|U<|zf<|zs<|zf<|zS Tryz.mixed t_kr (Cls h55 _) (Cls.drew st57)<|u_field_addr X Tryz.underlying84 X Tryz.sizeOf82 X X<|zm X X (fun _ hC => (zc (j := 3) hC.sub (hc29.up (s52.le.trans le56)) X X X Tryz.isAgg82))<|u_mvI X X ?_
         have hhd : ∃ y_, (q.heads)[k]? = some y_ := ⟨_, List.getElem?_eq_getElem (by omega)⟩
         obtain ⟨hd, hhd⟩ := hhd
         obtain ⟨b60, o61, _, he63, hc62, hr_hd⟩ := Sl.elem (f20.up ((le27.trans s52.le).trans le56)) hhd
         obtain ⟨rfl, ls64, lu65⟩ := hr_hd
         simp only [big] at ls64
         refine u_index_el he63 X X (hk := X) (hu := Tryz.underlying82) (hz := Tryz.sizeOf72) X<|zm X X (fun _ hC => (zM hC.sub hc62 X Tryz.isAgg72 Tryz.sizeOf72 X))<|zU X X (fun _ => zT X Tryz.call147 X) (fun _ hC => Rets.quiet hC (c_postilref04_Head hC.sub (hd := hd) t_str t_u8))<|u_not X X<|u_mvB X X ?_
         refine zW (d := 76) rfl (fun g66 => ?_) (fun g66 => ?_)
         ·
          refine O X X (d := 76) X X X<|O X X (d := 76) X X X<|O X X (d := 76) X X X<|zl X X (d := 79) X X<|zl X X (d := 79) X X<|zl X X (d := 79) X X<|zl X X (d := 79) X X<|zl X X (d := 79) X X<|zl X X (d := 79) X X<|zl X X (d := 79) X X<|zl X X (d := 79) X X<|zl X X (d := 79) X X<|zl X X (d := 79) X X<|zl X X (d := 79) X X<|zl X X (d := 79) X X<|zl X X (d := 79) X X<|O X X (d := 76) X X X<|u_pickT (v := (.bool _)) X X X<|zI ?_
          rintro w67 ⟨h68, s69⟩
          have st70 := st57.call0 s69
          refine U ?_
          refine zh rfl (fun c71 => ?_) (fun c71 => ?_)
          ·
           refine W.sr<|v_asB X X<|Y<|zo<|zn<|E<|E<|zn<|zn<|E<|E<|zn<|E<|za Tryz.results105 ?_
           refine ⟨h68, _, rfl, st70.done, ?_⟩
           refine zj ?_
           first | (refine (poll_true ?_ ?_ hA ?_ hV ?_).symm <;> omega) | (refine (poll_v3 hv hu ?_ ?_).symm <;> first | omega | assumption) | (refine (poll_v2 hv (k := m) ?_).symm; simp only [votesAt, hn, hqk]; simp_all; done) | (refine (poll_v (i := i) ?_).symm; simp only [voterAt, hv, voterOk]; simp_all; done) | (refine (poll_v (i := i) ?_).symm; simp only [voterAt, hv, voterOk]; simp_all <;> (intros; omega)) | (refine (poll_q2 hq (k := k) ?_).symm; simp only [headsOkAt, hhd]; simp_all; done) | (refine (poll_q2 hq (k := k) ?_).symm; simp only [headsOkAt, hhd, hh1]; cases k <;> simp_all; done) | (refine (poll_q (i := i) ?_).symm; simp only [questAt, hq]; simp_all; done) | (refine (poll_q (i := i) ?_).symm; simp only [questAt, hq, hq1]; cases i <;> simp_all; done) | (simp_all [pollB]; done) | (simp_all [pollB]; omega)
          ·
           cases c71
         ·
          refine zb X X (d := 76) X<|u_mvI X X<|zb X X (d := 76) X<|u_gtr X X X<|zb X X (d := 76) X<|u_mvB X X ?_
          refine zW (d := 79) rfl (fun g72 => ?_) (fun g72 => ?_)
          ·
           replace g72 := of_decide_eq_true g72
           refine zb X X (d := 79) X<|u_field_addr X Tryz.underlying84 X Tryz.sizeOf82 X X<|zb X X (d := 79) X<|zm X X (fun _ hC => (zc (j := 3) hC.sub (hc29.up (s52.le.trans le56)) X X X Tryz.isAgg82))<|zb X X (d := 79) X<|u_mvI X X<|zb X X (d := 79) X<|u_sub X X t_om X<|zb X X (d := 79) X ?_
           have hh1 : ∃ y_, (q.heads)[(k - 1)]? = some y_ := ⟨_, List.getElem?_eq_getElem (by omega)⟩
           obtain ⟨h1, hh1⟩ := hh1
           obtain ⟨b73, o74, _, he76, hc75, hr_h1⟩ := Sl.elem (f20.up ((le27.trans s52.le).trans le56)) hh1
           obtain ⟨rfl, ls77, lu78⟩ := hr_h1
           simp only [big] at ls77
           refine zm rfl rfl (fun _ _ => (zE he76 rfl rfl (hk := (show _ = (((k - 1) : Nat) : Int) by omega)) (hu := Tryz.underlying82) (hz := Tryz.sizeOf72))) ?_
           refine zb X X (d := 79) X<|zm X X (fun _ hC => (zM hC.sub hc75 X Tryz.isAgg72 Tryz.sizeOf72 X))<|zb X X (d := 79) X<|u_field_addr X Tryz.underlying84 X Tryz.sizeOf82 X X<|zb X X (d := 79) X<|zm X X (fun _ hC => (zc (j := 3) hC.sub (hc29.up (s52.le.trans le56)) X X X Tryz.isAgg82))<|zb X X (d := 79) X<|u_mvI X X<|zb X X (d := 79) X<|u_index_el he63 X X (hk := X) (hu := Tryz.underlying82) (hz := Tryz.sizeOf72) X<|zb X X (d := 79) X<|zm X X (fun _ hC => (zM hC.sub hc62 X Tryz.isAgg72 Tryz.sizeOf72 X))<|zb X X (d := 79) X<|zU X X (fun _ => zT X Tryz.call148 X) (fun _ hC => Rets.quiet hC (c_postilref04_Less hC.sub (a := h1) t_str t_u8 (b := hd) t_str t_u8))<|zb X X (d := 79) X<|u_not X X<|zb X X (d := 76) X<|u_pickT (v := (.bool _)) X X X<|u_pickF (v := (.bool _)) X X X<|zI ?_
           rintro w79 ⟨h80, s81⟩
           have st82 := st57.call0 s81
           refine U ?_
           refine zh rfl (fun c83 => ?_) (fun c83 => ?_)
           ·
            refine W.sr<|v_asB X X<|Y<|zo<|zn<|E<|E<|zn<|zn<|E<|E<|zn<|E<|za Tryz.results105 ?_
            refine ⟨h80, _, rfl, st82.done, ?_⟩
            refine zj ?_
            first | (refine (poll_true ?_ ?_ hA ?_ hV ?_).symm <;> omega) | (refine (poll_v3 hv hu ?_ ?_).symm <;> first | omega | assumption) | (refine (poll_v2 hv (k := m) ?_).symm; simp only [votesAt, hn, hqk]; simp_all; done) | (refine (poll_v (i := i) ?_).symm; simp only [voterAt, hv, voterOk]; simp_all; done) | (refine (poll_v (i := i) ?_).symm; simp only [voterAt, hv, voterOk]; simp_all <;> (intros; omega)) | (refine (poll_q2 hq (k := k) ?_).symm; simp only [headsOkAt, hhd]; simp_all; done) | (refine (poll_q2 hq (k := k) ?_).symm; simp only [headsOkAt, hhd, hh1]; cases k <;> simp_all; done) | (refine (poll_q (i := i) ?_).symm; simp only [questAt, hq]; simp_all; done) | (refine (poll_q (i := i) ?_).symm; simp only [questAt, hq, hq1]; cases i <;> simp_all; done) | (simp_all [pollB]; done) | (simp_all [pollB]; omega)
           ·
            refine zr<|zw<|U<|zg<|v_mvI X X<|v_add X X t_om X<|v_asI X X<|Y ?_
            refine ⟨⟨k + 1, h80⟩, ⟨rfl, trivial⟩, ?_, ⟨(le56.trans s81.le), st82, ?_, ?_⟩, ?_⟩
            ·exact zH
            ·first | omega | (simp; omega)
            ·exact all_lt_succ hB (by simp only [headsOkAt, hhd]; first | (simp_all; done) | (rw [hh1]; simp_all; done) | (simp_all; omega))
            ·show q.heads.length - ((k + 1)) < q.heads.length - k
             omega
          ·
           replace g72 := of_decide_eq_false g72
           refine O X X (d := 79) X X X<|O X X (d := 79) X X X<|O X X (d := 79) X X X<|O X X (d := 79) X X X<|O X X (d := 79) X X X<|O X X (d := 79) X X X<|O X X (d := 79) X X X<|O X X (d := 79) X X X<|O X X (d := 79) X X X<|O X X (d := 79) X X X<|O X X (d := 79) X X X<|O X X (d := 79) X X X<|O X X (d := 79) X X X<|zb X X (d := 76) X<|u_pickF (v := (.bool _)) X X X<|u_pickF (v := (.bool _)) X X X<|zI ?_
           rintro w84 ⟨h85, s86⟩
           have st87 := st57.call0 s86
           refine U ?_
           refine zh rfl (fun c88 => ?_) (fun c88 => ?_)
           ·
            cases c88
           ·
            refine zr<|zw<|U<|zg<|v_mvI X X<|v_add X X t_om X<|v_asI X X<|Y ?_
            refine ⟨⟨k + 1, h85⟩, ⟨rfl, trivial⟩, ?_, ⟨(le56.trans s86.le), st87, ?_, ?_⟩, ?_⟩
            ·exact zH
            ·first | omega | (simp; omega)
            ·exact all_lt_succ hB (by simp only [headsOkAt, hhd]; first | (simp_all; done) | (rw [hh1]; simp_all; done) | (simp_all; omega))
            ·show q.heads.length - ((k + 1)) < q.heads.length - k
             omega
        ·
         replace c59 := of_decide_eq_false c59
         refine zL<|ze<|ze<|zF<|zw<|U<|zg<|v_mvI X X<|v_add X X t_om X<|v_asI X X<|Y ?_
         have hqi : questAt p i = true := by simp only [questAt, hq, hq0.1, hq0.2.1, hq0.2.2, Bool.and_true, Bool.true_and]; exact range_all hB (by omega)
         refine ⟨⟨i + 1, h55⟩, ⟨rfl, trivial⟩, ?_, ⟨(((le11.trans le27).trans s52.le).trans le56), st57.take 0, ?_, ?_⟩, ?_⟩
         ·exact zH
         ·first | omega | (simp; omega)
         ·exact all_lt_succ hA hqi
         ·show p.questions.length - ((i + 1)) < p.questions.length - i
          omega
     ·
      replace g37 := of_decide_eq_false g37
      refine O X X (d := 41) X X X<|O X X (d := 41) X X X<|O X X (d := 41) X X X<|O X X (d := 41) X X X<|O X X (d := 41) X X X<|O X X (d := 41) X X X<|O X X (d := 41) X X X<|O X X (d := 41) X X X<|O X X (d := 41) X X X<|O X X (d := 41) X X X<|O X X (d := 41) X X X<|zb X X (d := 38) X<|u_pickF (v := (.bool _)) X X X<|u_pickF (v := (.bool _)) X X X<|u_mvB X X<|zb X X (d := 55) X<|u_field_addr X Tryz.underlying84 X Tryz.sizeOf82 X X<|zb X X (d := 55) X<|zm X X (fun _ hC => (zc (j := 3) hC.sub hc29 X X X Tryz.isAgg82))<|zb X X (d := 55) X<|u_len (f20.up le27) X Tryz.underlying82 X<|zb X X (d := 55) X<|zU X X (fun _ => zT X Tryz.call57 X) (fun _ hC => Rets.quiet hC (zZ hC.sub _ _ _))<|zb X X (d := 55) X<|u_not X X<|u_pickF (v := (.bool _)) X X X<|zI ?_
      rintro w89 ⟨h90, s91⟩
      have st92 := st30.call0 s91
      refine U ?_
      refine zh rfl (fun c93 => ?_) (fun c93 => ?_)
      ·
       refine W.sr<|v_asB X X<|Y<|zo<|E<|zn<|E<|E<|zn<|E<|za Tryz.results105 ?_
       refine ⟨h90, _, rfl, st92.done, ?_⟩
       refine zj ?_
       first | (refine (poll_true ?_ ?_ hA ?_ hV ?_).symm <;> omega) | (refine (poll_v3 hv hu ?_ ?_).symm <;> first | omega | assumption) | (refine (poll_v2 hv (k := m) ?_).symm; simp only [votesAt, hn, hqk]; simp_all; done) | (refine (poll_v (i := i) ?_).symm; simp only [voterAt, hv, voterOk]; simp_all; done) | (refine (poll_v (i := i) ?_).symm; simp only [voterAt, hv, voterOk]; simp_all <;> (intros; omega)) | (refine (poll_q2 hq (k := k) ?_).symm; simp only [headsOkAt, hhd]; simp_all; done) | (refine (poll_q2 hq (k := k) ?_).symm; simp only [headsOkAt, hhd, hh1]; cases k <;> simp_all; done) | (refine (poll_q (i := i) ?_).symm; simp only [questAt, hq]; simp_all; done) | (refine (poll_q (i := i) ?_).symm; simp only [questAt, hq, hq1]; cases i <;> simp_all; done) | (simp_all [pollB]; done) | (simp_all [pollB]; omega)
      ·
       refine zr<|U<|zf ?_
       have hq0 : placeB p.text q.at_ = true ∧ (decide (i = 0) || beforeB ((p.questions[i - 1]?).getD zQuestion).at_ q.at_) = true ∧ inB q.heads.length 2 3 = true := ⟨by simp_all, by first | (simp_all; done) | (rw [hq1]; simp_all; done) | (simp_all; omega), by simp_all⟩
       refine zg<|v_asI X X<|Y<|zs ?_
       refine zG [2, 5, 62, 63, 64, 65, 66, 67, 68, 69, 70, 71, 72, 73, 74, 75, 76, 77, 78, 79, 80, 81, 82, 83, 84, 85, 86, 87, 88, 89, 90, 91, 92, 93, 94] (G := Nat × Heap) (fun ⟨k, h94⟩ => [(5, .int .i64 (k : Int))]) (fun ⟨k, h94⟩ w' => Le h90 h94 ∧ St h w h94 w' [[]] ∧ (k ≤ q.heads.length) ∧ (∀ j, j < k → headsOkAt q.heads j = true)) (fun ⟨k, h94⟩ => q.heads.length - k) ⟨0, h90⟩ ⟨rfl, trivial⟩ ⟨Le.refl _, st92, zK, zK⟩ ?_
       rintro ⟨k, h94⟩ _ w97 ⟨le95, st96, hk, hB⟩
       refine zf<|W.sr<|v_mvI X X<|v_field_addr X Tryz.underlying84 X Tryz.sizeOf82 X X<|v_load_cells1 (j := 3) st96.sub (hc29.up (s91.le.trans le95)) X X X Tryz.isAgg82 X<|v_len (f20.up ((le27.trans s91.le).trans le95)) X Tryz.underlying82 X<|v_lss X X X<|Y ?_
       refine zh rfl (fun c98 => ?_) (fun c98 => ?_)
       ·
        replace c98 := of_decide_eq_true c98
        refine zr<|U<|zf<|zs<|zf<|zS Tryz.mixed t_kr (Cls h94 _) (Cls.drew st96)<|u_field_addr X Tryz.underlying84 X Tryz.sizeOf82 X X<|zm X X (fun _ hC => (zc (j := 3) hC.sub (hc29.up (s91.le.trans le95)) X X X Tryz.isAgg82))<|u_mvI X X ?_
        have hhd : ∃ y_, (q.heads)[k]? = some y_ := ⟨_, List.getElem?_eq_getElem (by omega)⟩
        obtain ⟨hd, hhd⟩ := hhd
        obtain ⟨b99, o100, _, he102, hc101, hr_hd⟩ := Sl.elem (f20.up ((le27.trans s91.le).trans le95)) hhd
        obtain ⟨rfl, ls103, lu104⟩ := hr_hd
        simp only [big] at ls103
        refine u_index_el he102 X X (hk := X) (hu := Tryz.underlying82) (hz := Tryz.sizeOf72) X<|zm X X (fun _ hC => (zM hC.sub hc101 X Tryz.isAgg72 Tryz.sizeOf72 X))<|zU X X (fun _ => zT X Tryz.call147 X) (fun _ hC => Rets.quiet hC (c_postilref04_Head hC.sub (hd := hd) t_str t_u8))<|u_not X X<|u_mvB X X ?_
        refine zW (d := 76) rfl (fun g105 => ?_) (fun g105 => ?_)
        ·
         refine O X X (d := 76) X X X<|O X X (d := 76) X X X<|O X X (d := 76) X X X<|zl X X (d := 79) X X<|zl X X (d := 79) X X<|zl X X (d := 79) X X<|zl X X (d := 79) X X<|zl X X (d := 79) X X<|zl X X (d := 79) X X<|zl X X (d := 79) X X<|zl X X (d := 79) X X<|zl X X (d := 79) X X<|zl X X (d := 79) X X<|zl X X (d := 79) X X<|zl X X (d := 79) X X<|zl X X (d := 79) X X<|O X X (d := 76) X X X<|u_pickT (v := (.bool _)) X X X<|zI ?_
         rintro w106 ⟨h107, s108⟩
         have st109 := st96.call0 s108
         refine U ?_
         refine zh rfl (fun c110 => ?_) (fun c110 => ?_)
         ·
          refine W.sr<|v_asB X X<|Y<|zo<|zn<|E<|E<|zn<|zn<|E<|E<|zn<|E<|za Tryz.results105 ?_
          refine ⟨h107, _, rfl, st109.done, ?_⟩
          refine zj ?_
          first | (refine (poll_true ?_ ?_ hA ?_ hV ?_).symm <;> omega) | (refine (poll_v3 hv hu ?_ ?_).symm <;> first | omega | assumption) | (refine (poll_v2 hv (k := m) ?_).symm; simp only [votesAt, hn, hqk]; simp_all; done) | (refine (poll_v (i := i) ?_).symm; simp only [voterAt, hv, voterOk]; simp_all; done) | (refine (poll_v (i := i) ?_).symm; simp only [voterAt, hv, voterOk]; simp_all <;> (intros; omega)) | (refine (poll_q2 hq (k := k) ?_).symm; simp only [headsOkAt, hhd]; simp_all; done) | (refine (poll_q2 hq (k := k) ?_).symm; simp only [headsOkAt, hhd, hh1]; cases k <;> simp_all; done) | (refine (poll_q (i := i) ?_).symm; simp only [questAt, hq]; simp_all; done) | (refine (poll_q (i := i) ?_).symm; simp only [questAt, hq, hq1]; cases i <;> simp_all; done) | (simp_all [pollB]; done) | (simp_all [pollB]; omega)
         ·
          cases c110
        ·
         refine zb X X (d := 76) X<|u_mvI X X<|zb X X (d := 76) X<|u_gtr X X X<|zb X X (d := 76) X<|u_mvB X X ?_
         refine zW (d := 79) rfl (fun g111 => ?_) (fun g111 => ?_)
         ·
          replace g111 := of_decide_eq_true g111
          refine zb X X (d := 79) X<|u_field_addr X Tryz.underlying84 X Tryz.sizeOf82 X X<|zb X X (d := 79) X<|zm X X (fun _ hC => (zc (j := 3) hC.sub (hc29.up (s91.le.trans le95)) X X X Tryz.isAgg82))<|zb X X (d := 79) X<|u_mvI X X<|zb X X (d := 79) X<|u_sub X X t_om X<|zb X X (d := 79) X ?_
          have hh1 : ∃ y_, (q.heads)[(k - 1)]? = some y_ := ⟨_, List.getElem?_eq_getElem (by omega)⟩
          obtain ⟨h1, hh1⟩ := hh1
          obtain ⟨b112, o113, _, he115, hc114, hr_h1⟩ := Sl.elem (f20.up ((le27.trans s91.le).trans le95)) hh1
          obtain ⟨rfl, ls116, lu117⟩ := hr_h1
          simp only [big] at ls116
          refine zm rfl rfl (fun _ _ => (zE he115 rfl rfl (hk := (show _ = (((k - 1) : Nat) : Int) by omega)) (hu := Tryz.underlying82) (hz := Tryz.sizeOf72))) ?_
          refine zb X X (d := 79) X<|zm X X (fun _ hC => (zM hC.sub hc114 X Tryz.isAgg72 Tryz.sizeOf72 X))<|zb X X (d := 79) X<|u_field_addr X Tryz.underlying84 X Tryz.sizeOf82 X X<|zb X X (d := 79) X<|zm X X (fun _ hC => (zc (j := 3) hC.sub (hc29.up (s91.le.trans le95)) X X X Tryz.isAgg82))<|zb X X (d := 79) X<|u_mvI X X<|zb X X (d := 79) X<|u_index_el he102 X X (hk := X) (hu := Tryz.underlying82) (hz := Tryz.sizeOf72) X<|zb X X (d := 79) X<|zm X X (fun _ hC => (zM hC.sub hc101 X Tryz.isAgg72 Tryz.sizeOf72 X))<|zb X X (d := 79) X<|zU X X (fun _ => zT X Tryz.call148 X) (fun _ hC => Rets.quiet hC (c_postilref04_Less hC.sub (a := h1) t_str t_u8 (b := hd) t_str t_u8))<|zb X X (d := 79) X<|u_not X X<|zb X X (d := 76) X<|u_pickT (v := (.bool _)) X X X<|u_pickF (v := (.bool _)) X X X<|zI ?_
          rintro w118 ⟨h119, s120⟩
          have st121 := st96.call0 s120
          refine U ?_
          refine zh rfl (fun c122 => ?_) (fun c122 => ?_)
          ·
           refine W.sr<|v_asB X X<|Y<|zo<|zn<|E<|E<|zn<|zn<|E<|E<|zn<|E<|za Tryz.results105 ?_
           refine ⟨h119, _, rfl, st121.done, ?_⟩
           refine zj ?_
           first | (refine (poll_true ?_ ?_ hA ?_ hV ?_).symm <;> omega) | (refine (poll_v3 hv hu ?_ ?_).symm <;> first | omega | assumption) | (refine (poll_v2 hv (k := m) ?_).symm; simp only [votesAt, hn, hqk]; simp_all; done) | (refine (poll_v (i := i) ?_).symm; simp only [voterAt, hv, voterOk]; simp_all; done) | (refine (poll_v (i := i) ?_).symm; simp only [voterAt, hv, voterOk]; simp_all <;> (intros; omega)) | (refine (poll_q2 hq (k := k) ?_).symm; simp only [headsOkAt, hhd]; simp_all; done) | (refine (poll_q2 hq (k := k) ?_).symm; simp only [headsOkAt, hhd, hh1]; cases k <;> simp_all; done) | (refine (poll_q (i := i) ?_).symm; simp only [questAt, hq]; simp_all; done) | (refine (poll_q (i := i) ?_).symm; simp only [questAt, hq, hq1]; cases i <;> simp_all; done) | (simp_all [pollB]; done) | (simp_all [pollB]; omega)
          ·
           refine zr<|zw<|U<|zg<|v_mvI X X<|v_add X X t_om X<|v_asI X X<|Y ?_
           refine ⟨⟨k + 1, h119⟩, ⟨rfl, trivial⟩, ?_, ⟨(le95.trans s120.le), st121, ?_, ?_⟩, ?_⟩
           ·exact zH
           ·first | omega | (simp; omega)
           ·exact all_lt_succ hB (by simp only [headsOkAt, hhd]; first | (simp_all; done) | (rw [hh1]; simp_all; done) | (simp_all; omega))
           ·show q.heads.length - ((k + 1)) < q.heads.length - k
            omega
         ·
          replace g111 := of_decide_eq_false g111
          refine O X X (d := 79) X X X<|O X X (d := 79) X X X<|O X X (d := 79) X X X<|O X X (d := 79) X X X<|O X X (d := 79) X X X<|O X X (d := 79) X X X<|O X X (d := 79) X X X<|O X X (d := 79) X X X<|O X X (d := 79) X X X<|O X X (d := 79) X X X<|O X X (d := 79) X X X<|O X X (d := 79) X X X<|O X X (d := 79) X X X<|zb X X (d := 76) X<|u_pickF (v := (.bool _)) X X X<|u_pickF (v := (.bool _)) X X X<|zI ?_
          rintro w123 ⟨h124, s125⟩
          have st126 := st96.call0 s125
          refine U ?_
          refine zh rfl (fun c127 => ?_) (fun c127 => ?_)
          ·
           cases c127
          ·
           refine zr<|zw<|U<|zg<|v_mvI X X<|v_add X X t_om X<|v_asI X X<|Y ?_
           refine ⟨⟨k + 1, h124⟩, ⟨rfl, trivial⟩, ?_, ⟨(le95.trans s125.le), st126, ?_, ?_⟩, ?_⟩
           ·exact zH
           ·first | omega | (simp; omega)
           ·exact all_lt_succ hB (by simp only [headsOkAt, hhd]; first | (simp_all; done) | (rw [hh1]; simp_all; done) | (simp_all; omega))
           ·show q.heads.length - ((k + 1)) < q.heads.length - k
            omega
       ·
        replace c98 := of_decide_eq_false c98
        refine zL<|ze<|ze<|zF<|zw<|U<|zg<|v_mvI X X<|v_add X X t_om X<|v_asI X X<|Y ?_
        have hqi : questAt p i = true := by simp only [questAt, hq, hq0.1, hq0.2.1, hq0.2.2, Bool.and_true, Bool.true_and]; exact range_all hB (by omega)
        refine ⟨⟨i + 1, h94⟩, ⟨rfl, trivial⟩, ?_, ⟨(((le11.trans le27).trans s91.le).trans le95), st96.take 0, ?_, ?_⟩, ?_⟩
        ·exact zH
        ·first | omega | (simp; omega)
        ·exact all_lt_succ hA hqi
        ·show p.questions.length - ((i + 1)) < p.questions.length - i
         omega
   ·
    replace c14 := of_decide_eq_false c14
    refine zL<|ze<|ze<|zF<|U<|zf<|W.sr<|v_asI X X<|Y<|zs ?_
    refine zG [2, 6, 7, 8, 9, 95, 96, 97, 98, 99, 100, 101, 102, 103, 104, 105, 106, 107, 108, 109, 110, 111, 112, 113, 114, 115, 116, 117, 118, 119, 120, 121, 122, 123, 124, 125, 126, 127, 128, 129, 130, 131, 132, 133, 134, 135, 136, 137, 138, 139, 140, 141, 142, 143, 144, 145, 146, 147, 148, 149, 150, 151, 152, 153, 154, 155, 156, 157, 158, 159, 160, 161] (G := Nat × Heap) (fun ⟨i, h128⟩ => [(6, .int .i64 (i : Int))]) (fun ⟨i, h128⟩ w' => Le h10 h128 ∧ St h w h128 w' [] ∧ (i ≤ p.voters.length) ∧ (∀ j, j < i → voterAt p j = true)) (fun ⟨i, h128⟩ => p.voters.length - i) ⟨0, h10⟩ ⟨rfl, trivial⟩ ⟨Le.refl _, st12, zK, zK⟩ ?_
    rintro ⟨i, h128⟩ _ w131 ⟨le129, st130, hj, hV⟩
    refine zf<|W.sr<|v_mvI X X<|v_field_addr X Tryz.underlying32 X Tryz.sizeOf30 X X<|v_load_cells1 (j := 4) st130.sub (hc5.up (le11.trans le129)) X X X Tryz.isAgg30 X<|v_len (p_f4.up ((le4.trans le11).trans le129)) X Tryz.underlying30 X<|v_lss X X X<|Y ?_
    refine zh rfl (fun c132 => ?_) (fun c132 => ?_)
    ·
     replace c132 := of_decide_eq_true c132
     refine zr<|U<|zf<|zs<|W.sr<|v_field_addr X Tryz.underlying32 X Tryz.sizeOf30 X X<|v_load_cells1 (j := 4) st130.sub (hc5.up (le11.trans le129)) X X X Tryz.isAgg30 X<|v_mvI X X ?_
     have hv : ∃ y_, (p.voters)[i]? = some y_ := ⟨_, List.getElem?_eq_getElem (by omega)⟩
     obtain ⟨v, hv⟩ := hv
     obtain ⟨b133, o134, _, he136, hc135, hr_v⟩ := Sl.elem (p_f4.up ((le4.trans le11).trans le129)) hv
     obtain ⟨v137, rfl, f138⟩ := hr_v
     have f138_b := f138.le
     refine v_index_el he136 X X (hk := X) (hu := Tryz.underlying30) (hz := Tryz.sizeOf79) X<|v_load_call st130.sub hc135 X Tryz.isAgg79 Tryz.sizeOf79 X X<|zD st130 Tryz.zeroValue79 X X ?_
     intro b139 w140 st141
     refine zC st141 (k := 0) X X X (zp X (zp X (zp f138.one zQ))) Tryz.sizeOf79 X X X ?_
     intro w142 st143
     obtain ⟨h144, le145, hb146, st148⟩ := st143.freeze (k := 0) rfl
     have hc147 := Cells.of hb146
     refine Y<|zf<|W.sr<|v_field_addr X Tryz.underlying79 X Tryz.sizeOf3 X X<|v_load_cells1 (j := 0) st148.sub hc147 X X X Tryz.isAgg3 X<|zi st148 X X X Tryz.call57 X (zZ st148.sub _ _ _) ?_
     intro r149 w150 h151 le152 st153 q154
     obtain rfl := q154
     refine v_not X X<|v_mvB X X ?_
     refine zx (d := 111) rfl (fun g155 => ?_) (fun g155 => ?_)
     ·
      refine Z X X X X X<|Z X X X X X<|Z X X X X X<|Z X X X X X<|v_pickT (v := (.bool _)) X X X<|v_mvB X X<|Z X X X X X<|Z X X X X X<|Z X X X X X<|Z X X X X X<|Z X X X X X<|Z X X X X X<|Z X X X X X<|v_pickT (v := (.bool _)) X X X<|Y ?_
      refine zh rfl (fun c156 => ?_) (fun c156 => ?_)
      ·
       refine W.sr<|v_asB X X<|Y<|zo<|E<|zn<|E<|E<|zn<|E<|za Tryz.results105 ?_
       refine ⟨h151, _, rfl, st153.done, ?_⟩
       refine zj ?_
       first | (refine (poll_true ?_ ?_ hA ?_ hV ?_).symm <;> omega) | (refine (poll_v3 hv hu ?_ ?_).symm <;> first | omega | assumption) | (refine (poll_v2 hv (k := m) ?_).symm; simp only [votesAt, hn, hqk]; simp_all; done) | (refine (poll_v (i := i) ?_).symm; simp only [voterAt, hv, voterOk]; simp_all; done) | (refine (poll_v (i := i) ?_).symm; simp only [voterAt, hv, voterOk]; simp_all <;> (intros; omega)) | (refine (poll_q2 hq (k := k) ?_).symm; simp only [headsOkAt, hhd]; simp_all; done) | (refine (poll_q2 hq (k := k) ?_).symm; simp only [headsOkAt, hhd, hh1]; cases k <;> simp_all; done) | (refine (poll_q (i := i) ?_).symm; simp only [questAt, hq]; simp_all; done) | (refine (poll_q (i := i) ?_).symm; simp only [questAt, hq, hq1]; cases i <;> simp_all; done) | (simp_all [pollB]; done) | (simp_all [pollB]; omega)
      ·
       cases c156
     ·
      refine M X X (d := 111) X<|v_field_addr X Tryz.underlying79 X Tryz.sizeOf3 X X<|M X X (d := 111) X<|v_load_cells1 (j := 1) st153.sub (hc147.up le152) X X X Tryz.isAgg3 X<|M X X (d := 111) X<|zi st153 X X X Tryz.call57 X (zZ st153.sub _ _ _) ?_
      intro r157 w158 h159 le160 st161 q162
      obtain rfl := q162
      refine M X X (d := 111) X<|v_not X X<|v_pickF (v := (.bool _)) X X X<|v_mvB X X ?_
      refine zx (d := 117) rfl (fun g163 => ?_) (fun g163 => ?_)
      ·
       refine Z X X X X X<|Z X X X X X<|Z X X X X X<|Z X X X X X<|Z X X X X X<|Z X X X X X<|Z X X X X X<|v_pickT (v := (.bool _)) X X X<|Y ?_
       refine zh rfl (fun c164 => ?_) (fun c164 => ?_)
       ·
        refine W.sr<|v_asB X X<|Y<|zo<|E<|zn<|E<|E<|zn<|E<|za Tryz.results105 ?_
        refine ⟨h159, _, rfl, st161.done, ?_⟩
        refine zj ?_
        first | (refine (poll_true ?_ ?_ hA ?_ hV ?_).symm <;> omega) | (refine (poll_v3 hv hu ?_ ?_).symm <;> first | omega | assumption) | (refine (poll_v2 hv (k := m) ?_).symm; simp only [votesAt, hn, hqk]; simp_all; done) | (refine (poll_v (i := i) ?_).symm; simp only [voterAt, hv, voterOk]; simp_all; done) | (refine (poll_v (i := i) ?_).symm; simp only [voterAt, hv, voterOk]; simp_all <;> (intros; omega)) | (refine (poll_q2 hq (k := k) ?_).symm; simp only [headsOkAt, hhd]; simp_all; done) | (refine (poll_q2 hq (k := k) ?_).symm; simp only [headsOkAt, hhd, hh1]; cases k <;> simp_all; done) | (refine (poll_q (i := i) ?_).symm; simp only [questAt, hq]; simp_all; done) | (refine (poll_q (i := i) ?_).symm; simp only [questAt, hq, hq1]; cases i <;> simp_all; done) | (simp_all [pollB]; done) | (simp_all [pollB]; omega)
       ·
        cases c164
      ·
       refine M X X (d := 117) X<|v_field_addr X Tryz.underlying79 X Tryz.sizeOf42 X X<|M X X (d := 117) X<|v_load_cells1 (j := 2) st161.sub (hc147.up (le152.trans le160)) X X X Tryz.isAgg42 X<|M X X (d := 117) X<|v_len (f138.up ((le145.trans le152).trans le160)) X Tryz.underlying42 X<|M X X (d := 117) X<|v_field_addr X Tryz.underlying32 X Tryz.sizeOf29 X X<|M X X (d := 117) X<|v_load_cells1 (j := 3) st161.sub (hc5.up ((((le11.trans le129).trans le145).trans le152).trans le160)) X X X Tryz.isAgg29 X<|M X X (d := 117) X<|v_len (p_f3.up (((((le4.trans le11).trans le129).trans le145).trans le152).trans le160)) X Tryz.underlying29 X<|M X X (d := 117) X<|v_neq X X X<|v_pickF (v := (.bool _)) X X X<|Y ?_
       refine zh rfl (fun c165 => ?_) (fun c165 => ?_)
       ·
        replace c165 := of_decide_eq_true c165
        refine W.sr<|v_asB X X<|Y<|zo<|E<|zn<|E<|E<|zn<|E<|za Tryz.results105 ?_
        refine ⟨h159, _, rfl, st161.done, ?_⟩
        refine zj ?_
        first | (refine (poll_true ?_ ?_ hA ?_ hV ?_).symm <;> omega) | (refine (poll_v3 hv hu ?_ ?_).symm <;> first | omega | assumption) | (refine (poll_v2 hv (k := m) ?_).symm; simp only [votesAt, hn, hqk]; simp_all; done) | (refine (poll_v (i := i) ?_).symm; simp only [voterAt, hv, voterOk]; simp_all; done) | (refine (poll_v (i := i) ?_).symm; simp only [voterAt, hv, voterOk]; simp_all <;> (intros; omega)) | (refine (poll_q2 hq (k := k) ?_).symm; simp only [headsOkAt, hhd]; simp_all; done) | (refine (poll_q2 hq (k := k) ?_).symm; simp only [headsOkAt, hhd, hh1]; cases k <;> simp_all; done) | (refine (poll_q (i := i) ?_).symm; simp only [questAt, hq]; simp_all; done) | (refine (poll_q (i := i) ?_).symm; simp only [questAt, hq, hq1]; cases i <;> simp_all; done) | (simp_all [pollB]; done) | (simp_all [pollB]; omega)
       ·
        replace c165 := of_decide_eq_false c165
        refine zr<|U<|zf<|zf ?_
        have hv0 : inB v.id 0 9999 = true ∧ inB v.wrong 0 6 = true ∧ v.votes.length = p.questions.length := ⟨by simp_all, by simp_all, by omega⟩
        refine zg<|v_asI X X<|Y<|zs ?_
        refine zG [2, 8, 126, 127, 128, 129, 130, 131, 132, 133, 134, 135, 136, 137, 138, 139] (G := Nat × Heap) (fun ⟨k, h166⟩ => [(8, .int .i64 (k : Int))]) (fun ⟨k, h166⟩ w' => Le h159 h166 ∧ St h w h166 w' [[]] ∧ (k ≤ i) ∧ (((p.voters.take k).all fun u => decide (u.id ≠ v.id)) = true)) (fun ⟨k, h166⟩ => i - k) ⟨0, h159⟩ ⟨rfl, trivial⟩ ⟨Le.refl _, st161, zK, zK⟩ ?_
        rintro ⟨k, h166⟩ _ w169 ⟨le167, st168, hk, hI⟩
        refine zf<|W.sr<|v_mvI X X<|v_mvI X X<|v_lss X X X<|Y ?_
        refine zh rfl (fun c170 => ?_) (fun c170 => ?_)
        ·
         replace c170 := of_decide_eq_true c170
         refine zr<|U<|zf<|zs<|zf<|zS Tryz.mixed t_kr (Cls h166 _) (Cls.drew st168)<|u_field_addr X Tryz.underlying32 X Tryz.sizeOf30 X X<|zm X X (fun _ hC => (zc (j := 4) hC.sub (hc5.up (((((le11.trans le129).trans le145).trans le152).trans le160).trans le167)) X X X Tryz.isAgg30))<|u_mvI X X ?_
         have hu : ∃ y_, (p.voters)[k]? = some y_ := ⟨_, List.getElem?_eq_getElem (by omega)⟩
         obtain ⟨u, hu⟩ := hu
         obtain ⟨b171, o172, _, he174, hc173, hr_u⟩ := Sl.elem (p_f4.up ((((((le4.trans le11).trans le129).trans le145).trans le152).trans le160).trans le167)) hu
         obtain ⟨v175, rfl, f176⟩ := hr_u
         have f176_b := f176.le
         refine u_index_el he174 X X (hk := X) (hu := Tryz.underlying30) (hz := Tryz.sizeOf79) X<|u_field_addr X Tryz.underlying79 X Tryz.sizeOf3 X X<|zm X X (fun _ hC => (zc (j := 0) hC.sub hc173 X X X Tryz.isAgg3))<|u_field_addr X Tryz.underlying79 X Tryz.sizeOf3 X X<|zm X X (fun _ hC => (zc (j := 0) hC.sub (hc147.up ((le152.trans le160).trans le167)) X X X Tryz.isAgg3))<|u_eql X X X<|zI ?_
         rintro w177 ⟨h178, s179⟩
         have st180 := st168.call0 s179
         refine U ?_
         refine zh rfl (fun c181 => ?_) (fun c181 => ?_)
         ·
          replace c181 := of_decide_eq_true c181
          refine W.sr<|v_asB X X<|Y<|zo<|zn<|E<|E<|zn<|E<|zn<|E<|E<|zn<|E<|za Tryz.results105 ?_
          refine ⟨h178, _, rfl, st180.done, ?_⟩
          refine zj ?_
          first | (refine (poll_true ?_ ?_ hA ?_ hV ?_).symm <;> omega) | (refine (poll_v3 hv hu ?_ ?_).symm <;> first | omega | assumption) | (refine (poll_v2 hv (k := m) ?_).symm; simp only [votesAt, hn, hqk]; simp_all; done) | (refine (poll_v (i := i) ?_).symm; simp only [voterAt, hv, voterOk]; simp_all; done) | (refine (poll_v (i := i) ?_).symm; simp only [voterAt, hv, voterOk]; simp_all <;> (intros; omega)) | (refine (poll_q2 hq (k := k) ?_).symm; simp only [headsOkAt, hhd]; simp_all; done) | (refine (poll_q2 hq (k := k) ?_).symm; simp only [headsOkAt, hhd, hh1]; cases k <;> simp_all; done) | (refine (poll_q (i := i) ?_).symm; simp only [questAt, hq]; simp_all; done) | (refine (poll_q (i := i) ?_).symm; simp only [questAt, hq, hq1]; cases i <;> simp_all; done) | (simp_all [pollB]; done) | (simp_all [pollB]; omega)
         ·
          replace c181 := of_decide_eq_false c181
          refine zr<|zw<|U<|zg<|v_mvI X X<|v_add X X t_om X<|v_asI X X<|Y ?_
          refine ⟨⟨k + 1, h178⟩, ⟨rfl, trivial⟩, ?_, ⟨(le167.trans s179.le), st180, ?_, ?_⟩, ?_⟩
          ·exact zH
          ·first | omega | (simp; omega)
          ·rw [all_snocB hu, hI]; simp_all
          ·show i - ((k + 1)) < i - k
           omega
        ·
         replace c170 := of_decide_eq_false c170
         refine zL<|ze<|ze<|zF<|U<|W.sr<|v_asI X X<|Y<|zs ?_
         refine zG [2, 9, 140, 141, 142, 143, 144, 145, 146, 147, 148, 149, 150, 151, 152, 153, 154, 155, 156, 157, 158, 159, 160, 161] (G := Nat × Heap) (fun ⟨m, h182⟩ => [(9, .int .i64 (m : Int))]) (fun ⟨m, h182⟩ w' => Le h166 h182 ∧ St h w h182 w' [[]] ∧ (m ≤ v.votes.length) ∧ (∀ j, j < m → votesAt p v j = true)) (fun ⟨m, h182⟩ => v.votes.length - m) ⟨0, h166⟩ ⟨rfl, trivial⟩ ⟨Le.refl _, st168, zK, zK⟩ ?_
         rintro ⟨m, h182⟩ _ w185 ⟨le183, st184, hm, hN⟩
         refine zf<|W.sr<|v_mvI X X<|v_field_addr X Tryz.underlying79 X Tryz.sizeOf42 X X<|v_load_cells1 (j := 2) st184.sub (hc147.up (((le152.trans le160).trans le167).trans le183)) X X X Tryz.isAgg42 X<|v_len (f138.up ((((le145.trans le152).trans le160).trans le167).trans le183)) X Tryz.underlying42 X<|v_lss X X X<|Y ?_
         refine zh rfl (fun c186 => ?_) (fun c186 => ?_)
         ·
          replace c186 := of_decide_eq_true c186
          refine zr<|U<|zf<|zs<|zf<|zS Tryz.mixed t_kr (Cls h182 _) (Cls.drew st184)<|u_field_addr X Tryz.underlying79 X Tryz.sizeOf42 X X<|zm X X (fun _ hC => (zc (j := 2) hC.sub (hc147.up (((le152.trans le160).trans le167).trans le183)) X X X Tryz.isAgg42))<|u_mvI X X ?_
          have hn : ∃ y_, (v.votes)[m]? = some y_ := ⟨_, List.getElem?_eq_getElem (by omega)⟩
          obtain ⟨n, hn⟩ := hn
          obtain ⟨b187, o188, _, he190, hc189, hr_n⟩ := Sl.elem (f138.up ((((le145.trans le152).trans le160).trans le167).trans le183)) hn
          obtain rfl := hr_n
          refine u_index_el he190 X X (hk := X) (hu := Tryz.underlying42) (hz := Tryz.sizeOf3) X<|zm X X (fun _ hC => (zc (j := 0) hC.sub hc189 X X X Tryz.isAgg3))<|u_field_addr X Tryz.underlying32 X Tryz.sizeOf29 X X<|zm X X (fun _ hC => (zc (j := 3) hC.sub (hc5.up ((((((le11.trans le129).trans le145).trans le152).trans le160).trans le167).trans le183)) X X X Tryz.isAgg29))<|u_mvI X X ?_
          have hqk : ∃ y_, (p.questions)[m]? = some y_ := ⟨_, List.getElem?_eq_getElem (by omega)⟩
          obtain ⟨qk, hqk⟩ := hqk
          obtain ⟨b191, o192, _, he194, hc193, hr_qk⟩ := Sl.elem (p_f3.up (((((((le4.trans le11).trans le129).trans le145).trans le152).trans le160).trans le167).trans le183)) hqk
          obtain ⟨v195, rfl, f196⟩ := hr_qk
          have f196_b := f196.le
          refine u_index_el he194 X X (hk := X) (hu := Tryz.underlying29) (hz := Tryz.sizeOf84) X<|u_field_addr X Tryz.underlying84 X Tryz.sizeOf82 X X<|zm X X (fun _ hC => (zc (j := 3) hC.sub hc193 X X X Tryz.isAgg82))<|u_len f196 X Tryz.underlying82 X<|u_sub X X t_om X<|zU X X (fun _ => zT X Tryz.call57 X) (fun _ hC => Rets.quiet hC (zZ hC.sub _ _ _))<|u_not X X<|zI ?_
          rintro w197 ⟨h198, s199⟩
          have st200 := st184.call0 s199
          refine U ?_
          refine zh rfl (fun c201 => ?_) (fun c201 => ?_)
          ·
           refine W.sr<|v_asB X X<|Y<|zo<|zn<|E<|E<|zn<|zn<|E<|E<|zn<|E<|za Tryz.results105 ?_
           refine ⟨h198, _, rfl, st200.done, ?_⟩
           refine zj ?_
           first | (refine (poll_true ?_ ?_ hA ?_ hV ?_).symm <;> omega) | (refine (poll_v3 hv hu ?_ ?_).symm <;> first | omega | assumption) | (refine (poll_v2 hv (k := m) ?_).symm; simp only [votesAt, hn, hqk]; simp_all; done) | (refine (poll_v (i := i) ?_).symm; simp only [voterAt, hv, voterOk]; simp_all; done) | (refine (poll_v (i := i) ?_).symm; simp only [voterAt, hv, voterOk]; simp_all <;> (intros; omega)) | (refine (poll_q2 hq (k := k) ?_).symm; simp only [headsOkAt, hhd]; simp_all; done) | (refine (poll_q2 hq (k := k) ?_).symm; simp only [headsOkAt, hhd, hh1]; cases k <;> simp_all; done) | (refine (poll_q (i := i) ?_).symm; simp only [questAt, hq]; simp_all; done) | (refine (poll_q (i := i) ?_).symm; simp only [questAt, hq, hq1]; cases i <;> simp_all; done) | (simp_all [pollB]; done) | (simp_all [pollB]; omega)
          ·
           refine zr<|zw<|U<|zg<|v_mvI X X<|v_add X X t_om X<|v_asI X X<|Y ?_
           refine ⟨⟨m + 1, h198⟩, ⟨rfl, trivial⟩, ?_, ⟨(le183.trans s199.le), st200, ?_, ?_⟩, ?_⟩
           ·exact zH
           ·first | omega | (simp; omega)
           ·exact all_lt_succ hN (by simp only [votesAt, hn, hqk]; simp_all)
           ·show v.votes.length - ((m + 1)) < v.votes.length - m
            omega
         ·
          replace c186 := of_decide_eq_false c186
          refine zL<|ze<|ze<|zF<|zw<|U<|zg<|v_mvI X X<|v_add X X t_om X<|v_asI X X<|Y ?_
          have hvi : voterAt p i = true := by simp only [voterAt, hv, voterOk, hv0.1, hv0.2.1, decide_eq_true hv0.2.2, Bool.and_true, Bool.true_and, Bool.and_eq_true]; exact ⟨range_all hN (by omega), by rw [← hI]; congr 1; rw [show k = i by omega]⟩
          refine ⟨⟨i + 1, h182⟩, ⟨rfl, trivial⟩, ?_, ⟨(((((le129.trans le145).trans le152).trans le160).trans le167).trans le183), st184.take 0, ?_, ?_⟩, ?_⟩
          ·exact zH
          ·first | omega | (simp; omega)
          ·exact all_lt_succ hV hvi
          ·show p.voters.length - ((i + 1)) < p.voters.length - i
           omega
    ·
     replace c132 := of_decide_eq_false c132
     refine zL<|ze<|ze<|zF<|U<|W.sr<|v_asB X X<|Y<|zo<|za Tryz.results105 ?_
     refine ⟨h128, _, rfl, st130.done, ?_⟩
     refine zj ?_
     first | (refine (poll_true ?_ ?_ hA ?_ hV ?_).symm <;> omega) | (refine (poll_v3 hv hu ?_ ?_).symm <;> first | omega | assumption) | (refine (poll_v2 hv (k := m) ?_).symm; simp only [votesAt, hn, hqk]; simp_all; done) | (refine (poll_v (i := i) ?_).symm; simp only [voterAt, hv, voterOk]; simp_all; done) | (refine (poll_v (i := i) ?_).symm; simp only [voterAt, hv, voterOk]; simp_all <;> (intros; omega)) | (refine (poll_q2 hq (k := k) ?_).symm; simp only [headsOkAt, hhd]; simp_all; done) | (refine (poll_q2 hq (k := k) ?_).symm; simp only [headsOkAt, hhd, hh1]; cases k <;> simp_all; done) | (refine (poll_q (i := i) ?_).symm; simp only [questAt, hq]; simp_all; done) | (refine (poll_q (i := i) ?_).symm; simp only [questAt, hq, hq1]; cases i <;> simp_all; done) | (simp_all [pollB]; done) | (simp_all [pollB]; omega)
set_option maxRecDepth 4000 in
theorem c_postilref07_Check {h : Heap} {w : World} (hs : Sub h w) {p : Poll} {p_v0 : Value} (p_f0 : Sl LChapter h p_v0 p.text.chapters) {p_v1 : Value} (p_f1 : Sl LRule h p_v1 p.lexicon.rules) {p_v2 : Value} (p_f2 : Sl LDecision h p_v2 p.lexicon.decisions) {p_v3 : Value} (p_f3 : Sl LQuestion h p_v3 p.questions) {p_v4 : Value} (p_f4 : Sl LVoter h p_v4 p.voters) : Calls Tryz.prog 59 #[.agg #[p_v0, p_v1, p_v2, p_v3, p_v4]] w (Rets h w (fun _ _ res_ => res_ = .int .i64 (checkP p))) := by
 refine zz (n := 15) (args := [.agg #[p_v0, p_v1, p_v2, p_v3, p_v4]]) Tryz.func59 X X X ?_
 have st0 : St h w h w [] := St.start hs
 have p_f0_b := p_f0.le
 have p_f1_b := p_f1.le
 have p_f2_b := p_f2.le
 have p_f3_b := p_f3.le
 have p_f4_b := p_f4.le
 refine W.sr<|zy st0 (cs := [p_v0, p_v1, p_v2, p_v3, p_v4]) X X X ?_
 intro b1 w2 h3 le4 hc5 st6
 refine v_asI X X<|Y<|zf<|W.sr<|v_field_addr X Tryz.underlying32 X Tryz.sizeOf24 X X<|v_load_cellsN (j := 0) st6.sub hc5 (us := [p_v0]) X X Tryz.isAgg24 Tryz.sizeOf24 X X X<|v_field_addr X Tryz.underlying32 X Tryz.sizeOf28 X X<|v_load_cellsN (j := 1) st6.sub hc5 (us := [p_v1, p_v2]) X X Tryz.isAgg28 Tryz.sizeOf28 X X X<|zi st6 X X X Tryz.call104 X (c_postilref04_Check st6.sub (t := p.text) (p_f0.up le4) (x := p.lexicon) (p_f1.up le4) (p_f2.up le4)) ?_
 intro r7 w8 h9 le10 st11 q12
 obtain rfl := q12
 refine v_asI X X<|Y<|W.sr<|v_mvI X X<|v_neq X X X<|Y ?_
 refine zh rfl (fun c13 => ?_) (fun c13 => ?_)
 ·
  replace c13 := of_decide_eq_true c13
  refine W.sr<|v_mvI X X<|v_asI X X<|Y<|zo<|E<|za Tryz.results59 ?_
  refine ⟨h9, _, rfl, st11.done, ?_⟩
  refine zB ?_
  simp_all [checkP]
 ·
  replace c13 := of_decide_eq_false c13
  refine zr<|U<|zf<|W.sr<|v_load_call st11.sub (hc5.up le10) X Tryz.isAgg32 Tryz.sizeOf32 X X ?_
  refine zi st11 rfl rfl rfl Tryz.call105 rfl (c_postilref07_Poll st11.sub (p := p) (p_f0.up (le4.trans le10)) (p_f1.up (le4.trans le10)) (p_f2.up (le4.trans le10)) (p_f3.up (le4.trans le10)) (p_f4.up (le4.trans le10)) (by exact check_text (by simpa using c13))) ?_
  intro r14 w15 h16 le17 st18 q19
  obtain rfl := q19
  refine v_not X X<|Y ?_
  refine zh rfl (fun c20 => ?_) (fun c20 => ?_)
  ·
   refine W.sr<|v_asI X X<|Y<|zo<|E<|za Tryz.results59 ?_
   refine ⟨h16, _, rfl, st18.done, ?_⟩
   refine zB ?_
   simp_all [checkP]
  ·
   refine zr<|U<|W.sr<|v_asI X X<|Y<|zo<|za Tryz.results59 ?_
   refine ⟨h16, _, rfl, st18.done, ?_⟩
   refine zB ?_
   simp_all [checkP]
set_option maxRecDepth 4000 in
theorem c_postilref07_wrongs {h : Heap} {w : World} (hs : Sub h w) {v : Voter} {v_v0 : Value} (v_f0 : Sl LInt h v_v0 v.votes) {xs_v : Value} {xs : (List Int)} (xs_f : Sl LInt h xs_v xs) (hl : xs.length ≤ v.votes.length) (hb : xs.length ≤ 100) : Calls Tryz.prog 58 #[.agg #[.int .i64 v.id, .int .i64 v.wrong, v_v0], xs_v] w (Rets h w (fun _ _ res_ => res_ = .int .i64 (((wrongN v xs : Nat) : Int)))) := by
 refine zz (n := 34) (args := [.agg #[.int .i64 v.id, .int .i64 v.wrong, v_v0], xs_v]) Tryz.func58 X X X ?_
 have st0 : St h w h w [] := St.start hs
 have v_f0_b := v_f0.le
 have xs_f_b := xs_f.le
 refine W.sr<|zy st0 (cs := [.int .i64 (v.id), .int .i64 (v.wrong), v_v0]) X X X ?_
 intro b1 w2 h3 le4 hc5 st6
 refine v_asI X X<|Y<|W.sr<|v_asI X X<|Y<|zf<|W.sr<|v_asI X X<|Y<|zs ?_
 refine zG [5, 6, 7, 8, 9, 10, 11, 12, 13, 14, 15, 16, 17, 18, 19, 20, 21, 22, 23, 24, 25, 26, 27, 28, 29, 30, 31, 32] (G := Nat × Heap) (fun ⟨k, h7⟩ => [(5, .int .i64 (wrongK v xs k : Int)), (6, .int .i64 (k : Int))]) (fun ⟨k, h7⟩ w' => Le h3 h7 ∧ St h w h7 w' [] ∧ (k ≤ xs.length)) (fun ⟨k, h7⟩ => xs.length - k) ⟨0, h3⟩ ⟨rfl, rfl, trivial⟩ ⟨Le.refl _, st6, zK⟩ ?_
 rintro ⟨k, h7⟩ _ w10 ⟨le8, st9, hk⟩
 have hwk := wrongK_le v xs k
 refine zf<|W.sr<|v_mvI X X<|v_move (v := xs_v) X X<|v_len (xs_f.up (le4.trans le8)) X Tryz.underlying42 X<|v_lss X X X<|Y ?_
 refine zh rfl (fun c11 => ?_) (fun c11 => ?_)
 ·
  replace c11 := of_decide_eq_true c11
  refine zr<|U<|zf<|zs<|zf<|zS Tryz.mixed t_kr (Cls h7 _) (Cls.drew st9)<|u_field_addr X Tryz.underlying79 X Tryz.sizeOf42 X X<|zm X X (fun _ hC => (zc (j := 2) hC.sub (hc5.up le8) X X X Tryz.isAgg42))<|u_mvI X X ?_
  have ha : ∃ y_, (v.votes)[k]? = some y_ := ⟨_, List.getElem?_eq_getElem (by omega)⟩
  obtain ⟨a, ha⟩ := ha
  obtain ⟨b12, o13, _, he15, hc14, hr_a⟩ := Sl.elem (v_f0.up (le4.trans le8)) ha
  obtain rfl := hr_a
  refine u_index_el he15 X X (hk := X) (hu := Tryz.underlying42) (hz := Tryz.sizeOf3) X<|zm X X (fun _ hC => (zc (j := 0) hC.sub hc14 X X X Tryz.isAgg3))<|u_geq X X X<|u_mvB X X ?_
  refine zW (d := 19) rfl (fun g16 => ?_) (fun g16 => ?_)
  ·
   replace g16 := of_decide_eq_true g16
   refine zb X X (d := 19) X<|u_field_addr X Tryz.underlying79 X Tryz.sizeOf42 X X<|zb X X (d := 19) X<|zm X X (fun _ hC => (zc (j := 2) hC.sub (hc5.up le8) X X X Tryz.isAgg42))<|zb X X (d := 19) X<|u_mvI X X<|zb X X (d := 19) X<|u_index_el he15 X X (hk := X) (hu := Tryz.underlying42) (hz := Tryz.sizeOf3) X<|zb X X (d := 19) X<|zm X X (fun _ hC => (zc (j := 0) hC.sub hc14 X X X Tryz.isAgg3))<|zb X X (d := 19) X<|u_move (v := xs_v) X X<|zb X X (d := 19) X<|u_mvI X X<|zb X X (d := 19) X ?_
   have hc : ∃ y_, (xs)[k]? = some y_ := ⟨_, List.getElem?_eq_getElem (by omega)⟩
   obtain ⟨c, hc⟩ := hc
   obtain ⟨b17, o18, _, he20, hc19, hr_c⟩ := Sl.elem (xs_f.up (le4.trans le8)) hc
   obtain rfl := hr_c
   refine u_index_el he20 X X (hk := X) (hu := Tryz.underlying42) (hz := Tryz.sizeOf3) X<|zb X X (d := 19) X<|zm X X (fun _ hC => (zc (j := 0) hC.sub hc19 X X X Tryz.isAgg3))<|zb X X (d := 19) X<|u_neq X X X<|u_pickT (v := (.bool _)) X X X<|zI ?_
   rintro w21 ⟨h22, s23⟩
   have st24 := st9.call0 s23
   refine U ?_
   refine zh rfl (fun c25 => ?_) (fun c25 => ?_)
   ·
    replace c25 := of_decide_eq_true c25
    refine zg<|v_mvI X X<|v_add X X t_om X<|v_asI X X<|zt<|zw<|U<|zg<|v_mvI X X<|v_add X X t_om X<|v_asI X X<|Y ?_
    refine ⟨⟨k + 1, h22⟩, ⟨?_, rfl, trivial⟩, ?_, ⟨(le8.trans s23.le), st24, ?_⟩, ?_⟩
    ·exact zB (by rw [wrongK_succ]; first | (rw [wrongAt_neg ha ?_]; simp; omega) | (rw [wrongAt_at ha hc]; simp_all; done) | (rw [wrongAt_at ha hc]; simp_all; omega))
    ·exact zH
    ·first | omega | (simp; omega)
    ·show xs.length - ((k + 1)) < xs.length - k
     omega
   ·
    replace c25 := of_decide_eq_false c25
    refine zr<|zw<|U<|zg<|v_mvI X X<|v_add X X t_om X<|v_asI X X<|Y ?_
    refine ⟨⟨k + 1, h22⟩, ⟨?_, rfl, trivial⟩, ?_, ⟨(le8.trans s23.le), st24, ?_⟩, ?_⟩
    ·exact zB (by rw [wrongK_succ]; first | (rw [wrongAt_neg ha ?_]; simp; omega) | (rw [wrongAt_at ha hc]; simp_all; done) | (rw [wrongAt_at ha hc]; simp_all; omega))
    ·exact zH
    ·first | omega | (simp; omega)
    ·show xs.length - ((k + 1)) < xs.length - k
     omega
  ·
   replace g16 := of_decide_eq_false g16
   refine O X X (d := 19) X X X<|O X X (d := 19) X X X<|O X X (d := 19) X X X<|O X X (d := 19) X X X<|O X X (d := 19) X X X<|O X X (d := 19) X X X<|O X X (d := 19) X X X<|O X X (d := 19) X X X<|O X X (d := 19) X X X<|O X X (d := 19) X X X<|u_pickF (v := (.bool _)) X X X<|zI ?_
   rintro w26 ⟨h27, s28⟩
   have st29 := st9.call0 s28
   refine U ?_
   refine zh rfl (fun c30 => ?_) (fun c30 => ?_)
   ·
    cases c30
   ·
    refine zr<|zw<|U<|zg<|v_mvI X X<|v_add X X t_om X<|v_asI X X<|Y ?_
    refine ⟨⟨k + 1, h27⟩, ⟨?_, rfl, trivial⟩, ?_, ⟨(le8.trans s28.le), st29, ?_⟩, ?_⟩
    ·exact zB (by rw [wrongK_succ]; first | (rw [wrongAt_neg ha ?_]; simp; omega) | (rw [wrongAt_at ha hc]; simp_all; done) | (rw [wrongAt_at ha hc]; simp_all; omega))
    ·exact zH
    ·first | omega | (simp; omega)
    ·show xs.length - ((k + 1)) < xs.length - k
     omega
 ·
  replace c11 := of_decide_eq_false c11
  refine zL<|ze<|ze<|zF<|U<|W.sr<|v_mvI X X<|v_asI X X<|Y<|zo<|za Tryz.results58 ?_
  refine ⟨h7, _, rfl, st9.done, ?_⟩
  refine zB ?_
  rw [wrongN, show xs.length = k by omega]; rfl
set_option maxRecDepth 4000 in
set_option maxHeartbeats 4000000 in
theorem c_postilref07_True {h : Heap} {w : World} (hs : Sub h w) {p : Poll} {p_v0 : Value} (p_f0 : Sl LChapter h p_v0 p.text.chapters) {p_v1 : Value} (p_f1 : Sl LRule h p_v1 p.lexicon.rules) {p_v2 : Value} (p_f2 : Sl LDecision h p_v2 p.lexicon.decisions) {p_v3 : Value} (p_f3 : Sl LQuestion h p_v3 p.questions) {p_v4 : Value} (p_f4 : Sl LVoter h p_v4 p.voters) {xs_v : Value} {xs : (List Int)} (xs_f : Sl LInt h xs_v xs) (hp : pollB p = true) (hb : xs.length ≤ 100) : Calls Tryz.prog 44 #[.agg #[p_v0, p_v1, p_v2, p_v3, p_v4], xs_v] w (Rets h w (fun _ _ res_ => res_ = .bool (trueB p xs))) := by
 refine zz (n := 54) (args := [.agg #[p_v0, p_v1, p_v2, p_v3, p_v4], xs_v]) Tryz.func44 X X X ?_
 have st0 : St h w h w [] := St.start hs
 have p_f0_b := p_f0.le
 have p_f1_b := p_f1.le
 have p_f2_b := p_f2.le
 have p_f3_b := p_f3.le
 have p_f4_b := p_f4.le
 have xs_f_b := xs_f.le
 have hpl := poll_len hp
 refine W.sr<|zy st0 (cs := [p_v0, p_v1, p_v2, p_v3, p_v4]) X X X ?_
 intro b1 w2 h3 le4 hc5 st6
 refine v_asB X X<|Y<|zf<|W.sr<|v_move (v := xs_v) X X<|v_len (xs_f.up le4) X Tryz.underlying42 X<|v_field_addr X Tryz.underlying32 X Tryz.sizeOf29 X X<|v_load_cells1 (j := 3) st6.sub hc5 X X X Tryz.isAgg29 X<|v_len (p_f3.up le4) X Tryz.underlying29 X<|v_neq X X X<|Y ?_
 refine zh rfl (fun c7 => ?_) (fun c7 => ?_)
 ·
  replace c7 := of_decide_eq_true c7
  refine W.sr<|v_asB X X<|Y<|zo<|E<|za Tryz.results44 ?_
  refine ⟨h3, _, rfl, st6.done, ?_⟩
  refine zj ?_
  first | (refine (true_yes ?_ hA ?_ hV ?_).symm <;> omega) | (refine (true_no2 (List.mem_of_getElem? hv) ?_).symm; omega) | (refine (true_no1 (k := i) ?_ ?_).symm; omega; simp only [inAt, ha, hq]; simp_all; done) | (simp [trueB]; omega)
 ·
  replace c7 := of_decide_eq_false c7
  refine zr<|U<|zf<|W.sr<|v_asI X X<|Y<|zs ?_
  refine zG [4, 5, 13, 14, 15, 16, 17, 18, 19, 20, 21, 22, 23, 24, 25, 26, 27, 28, 29, 30, 31, 32] (G := Nat × Heap) (fun ⟨i, h8⟩ => [(5, .int .i64 (i : Int))]) (fun ⟨i, h8⟩ w' => Le h3 h8 ∧ St h w h8 w' [] ∧ (i ≤ xs.length) ∧ (∀ j, j < i → inAt p xs j = true)) (fun ⟨i, h8⟩ => xs.length - i) ⟨0, h3⟩ ⟨rfl, trivial⟩ ⟨Le.refl _, st6, zK, zK⟩ ?_
  rintro ⟨i, h8⟩ _ w11 ⟨le9, st10, hi, hA⟩
  refine zf<|W.sr<|v_mvI X X<|v_move (v := xs_v) X X<|v_len (xs_f.up (le4.trans le9)) X Tryz.underlying42 X<|v_lss X X X<|Y ?_
  refine zh rfl (fun c12 => ?_) (fun c12 => ?_)
  ·
   replace c12 := of_decide_eq_true c12
   refine zr<|U<|zf<|zs<|zf<|zS Tryz.mixed t_kr (Cls h8 _) (Cls.drew st10)<|u_move (v := xs_v) X X<|u_mvI X X ?_
   have ha : ∃ y_, (xs)[i]? = some y_ := ⟨_, List.getElem?_eq_getElem (by omega)⟩
   obtain ⟨a, ha⟩ := ha
   obtain ⟨b13, o14, _, he16, hc15, hr_a⟩ := Sl.elem (xs_f.up (le4.trans le9)) ha
   obtain rfl := hr_a
   refine u_index_el he16 X X (hk := X) (hu := Tryz.underlying42) (hz := Tryz.sizeOf3) X<|zm X X (fun _ hC => (zc (j := 0) hC.sub hc15 X X X Tryz.isAgg3))<|u_field_addr X Tryz.underlying32 X Tryz.sizeOf29 X X<|zm X X (fun _ hC => (zc (j := 3) hC.sub (hc5.up le9) X X X Tryz.isAgg29))<|u_mvI X X ?_
   have hq : ∃ y_, (p.questions)[i]? = some y_ := ⟨_, List.getElem?_eq_getElem (by omega)⟩
   obtain ⟨q, hq⟩ := hq
   obtain ⟨b17, o18, _, he20, hc19, hr_q⟩ := Sl.elem (p_f3.up (le4.trans le9)) hq
   obtain ⟨v21, rfl, f22⟩ := hr_q
   have f22_b := f22.le
   refine u_index_el he20 X X (hk := X) (hu := Tryz.underlying29) (hz := Tryz.sizeOf84) X<|u_field_addr X Tryz.underlying84 X Tryz.sizeOf82 X X<|zm X X (fun _ hC => (zc (j := 3) hC.sub hc19 X X X Tryz.isAgg82))<|u_len f22 X Tryz.underlying82 X<|u_sub X X t_om X<|zU X X (fun _ => zT X Tryz.call57 X) (fun _ hC => Rets.quiet hC (zZ hC.sub _ _ _))<|u_not X X<|zI ?_
   rintro w23 ⟨h24, s25⟩
   have st26 := st10.call0 s25
   refine U ?_
   refine zh rfl (fun c27 => ?_) (fun c27 => ?_)
   ·
    refine W.sr<|v_asB X X<|Y<|zo<|zn<|E<|E<|zn<|E<|za Tryz.results44 ?_
    refine ⟨h24, _, rfl, st26.done, ?_⟩
    refine zj ?_
    first | (refine (true_yes ?_ hA ?_ hV ?_).symm <;> omega) | (refine (true_no2 (List.mem_of_getElem? hv) ?_).symm; omega) | (refine (true_no1 (k := i) ?_ ?_).symm; omega; simp only [inAt, ha, hq]; simp_all; done) | (simp [trueB]; omega)
   ·
    refine zr<|zw<|U<|zg<|v_mvI X X<|v_add X X t_om X<|v_asI X X<|Y ?_
    refine ⟨⟨i + 1, h24⟩, ⟨rfl, trivial⟩, ?_, ⟨(le9.trans s25.le), st26, ?_, ?_⟩, ?_⟩
    ·exact zH
    ·first | omega | (simp; omega)
    ·exact all_lt_succ hA (by simp only [inAt, ha, hq]; simp_all)
    ·show xs.length - ((i + 1)) < xs.length - i
     omega
  ·
   replace c12 := of_decide_eq_false c12
   refine zL<|ze<|ze<|zF<|U<|zf<|W.sr<|v_asI X X<|Y<|zs ?_
   refine zG [4, 6, 33, 34, 35, 36, 37, 38, 39, 40, 41, 42, 43, 44, 45, 46, 47, 48, 49, 50, 51, 52, 53] (G := Nat × Heap) (fun ⟨k, h28⟩ => [(6, .int .i64 (k : Int))]) (fun ⟨k, h28⟩ w' => Le h8 h28 ∧ St h w h28 w' [] ∧ (k ≤ p.voters.length) ∧ (∀ v ∈ p.voters.take k, (wrongN v xs : Int) ≤ v.wrong)) (fun ⟨k, h28⟩ => p.voters.length - k) ⟨0, h8⟩ ⟨rfl, trivial⟩ ⟨Le.refl _, st10, zK, zK⟩ ?_
   rintro ⟨k, h28⟩ _ w31 ⟨le29, st30, hk, hV⟩
   refine zf<|W.sr<|v_mvI X X<|v_field_addr X Tryz.underlying32 X Tryz.sizeOf30 X X<|v_load_cells1 (j := 4) st30.sub (hc5.up (le9.trans le29)) X X X Tryz.isAgg30 X<|v_len (p_f4.up ((le4.trans le9).trans le29)) X Tryz.underlying30 X<|v_lss X X X<|Y ?_
   refine zh rfl (fun c32 => ?_) (fun c32 => ?_)
   ·
    replace c32 := of_decide_eq_true c32
    refine zr<|U<|zf<|zs<|zf<|zS Tryz.mixed t_kr (Cls h28 _) (Cls.drew st30)<|u_field_addr X Tryz.underlying32 X Tryz.sizeOf30 X X<|zm X X (fun _ hC => (zc (j := 4) hC.sub (hc5.up (le9.trans le29)) X X X Tryz.isAgg30))<|u_mvI X X ?_
    have hv : ∃ y_, (p.voters)[k]? = some y_ := ⟨_, List.getElem?_eq_getElem (by omega)⟩
    obtain ⟨v, hv⟩ := hv
    obtain ⟨b33, o34, _, he36, hc35, hr_v⟩ := Sl.elem (p_f4.up ((le4.trans le9).trans le29)) hv
    obtain ⟨v37, rfl, f38⟩ := hr_v
    have f38_b := f38.le
    refine u_index_el he36 X X (hk := X) (hu := Tryz.underlying30) (hz := Tryz.sizeOf79) X<|zm X X (fun _ hC => (zM hC.sub hc35 X Tryz.isAgg79 Tryz.sizeOf79 X))<|u_move (v := xs_v) X X ?_
    have hvo := poll_voter hp (List.mem_of_getElem? hv)
    refine zU rfl rfl (fun _ => zT rfl Tryz.call58 rfl) (fun _ hC => Rets.quiet hC (c_postilref07_wrongs hC.sub (v := v) f38 (xs_f.up ((le4.trans le9).trans le29)) (by omega) (by exact hb))) ?_
    refine u_field_addr X Tryz.underlying32 X Tryz.sizeOf30 X X<|zm X X (fun _ hC => (zc (j := 4) hC.sub (hc5.up (le9.trans le29)) X X X Tryz.isAgg30))<|u_mvI X X<|u_index_el he36 X X (hk := X) (hu := Tryz.underlying30) (hz := Tryz.sizeOf79) X<|u_field_addr X Tryz.underlying79 X Tryz.sizeOf3 X X<|zm X X (fun _ hC => (zc (j := 1) hC.sub hc35 X X X Tryz.isAgg3))<|u_gtr X X X<|zI ?_
    rintro w39 ⟨h40, s41⟩
    have st42 := st30.call0 s41
    refine U ?_
    refine zh rfl (fun c43 => ?_) (fun c43 => ?_)
    ·
     replace c43 := of_decide_eq_true c43
     refine W.sr<|v_asB X X<|Y<|zo<|zn<|E<|E<|zn<|E<|za Tryz.results44 ?_
     refine ⟨h40, _, rfl, st42.done, ?_⟩
     refine zj ?_
     first | (refine (true_yes ?_ hA ?_ hV ?_).symm <;> omega) | (refine (true_no2 (List.mem_of_getElem? hv) ?_).symm; omega) | (refine (true_no1 (k := i) ?_ ?_).symm; omega; simp only [inAt, ha, hq]; simp_all; done) | (simp [trueB]; omega)
    ·
     replace c43 := of_decide_eq_false c43
     refine zr<|zw<|U<|zg<|v_mvI X X<|v_add X X t_om X<|v_asI X X<|Y ?_
     refine ⟨⟨k + 1, h40⟩, ⟨rfl, trivial⟩, ?_, ⟨(le29.trans s41.le), st42, ?_, ?_⟩, ?_⟩
     ·exact zH
     ·first | omega | (simp; omega)
     ·exact all_snoc hV hv (by omega)
     ·show p.voters.length - ((k + 1)) < p.voters.length - k
      omega
   ·
    replace c32 := of_decide_eq_false c32
    refine zL<|ze<|ze<|zF<|U<|W.sr<|v_asB X X<|Y<|zo<|za Tryz.results44 ?_
    refine ⟨h28, _, rfl, st30.done, ?_⟩
    refine zj ?_
    first | (refine (true_yes ?_ hA ?_ hV ?_).symm <;> omega) | (refine (true_no2 (List.mem_of_getElem? hv) ?_).symm; omega) | (refine (true_no1 (k := i) ?_ ?_).symm; omega; simp only [inAt, ha, hq]; simp_all; done) | (simp [trueB]; omega)
end Go.Pk

namespace Go.Pk
open Go Go.RowKit Go.Proofs
set_option maxRecDepth 4000 in
set_option maxHeartbeats 4000000 in
theorem c_postilref07_truths {h : Heap} {w : World} (hs : Sub h w) {p : Poll} {p_v0 : Value} (p_f0 : Sl LChapter h p_v0 p.text.chapters) {p_v1 : Value} (p_f1 : Sl LRule h p_v1 p.lexicon.rules) {p_v2 : Value} (p_f2 : Sl LDecision h p_v2 p.lexicon.decisions) {p_v3 : Value} (p_f3 : Sl LQuestion h p_v3 p.questions) {p_v4 : Value} (p_f4 : Sl LVoter h p_v4 p.voters) (hp : pollB p = true) : Calls Tryz.prog 103 #[.agg #[p_v0, p_v1, p_v2, p_v3, p_v4]] w (Rets h w (fun h' _ res_ => ∃ u0, res_ = u0 ∧ Sl (LSl LInt) h' u0 ((truthsL p)))) := by
 refine zz (n := 53) (args := [.agg #[p_v0, p_v1, p_v2, p_v3, p_v4]]) Tryz.func103 X X X ?_
 have st0 : St h w h w [] := St.start hs
 have p_f0_b := p_f0.le
 have p_f1_b := p_f1.le
 have p_f2_b := p_f2.le
 have p_f3_b := p_f3.le
 have p_f4_b := p_f4.le
 have hpl := poll_len hp
 have hcl : (candL (sizesP p)).length = prodL (sizesP p) := candL_len _
 have hpr := prod_le hp
 refine W.sr<|zy st0 (cs := [p_v0, p_v1, p_v2, p_v3, p_v4]) X X X ?_
 intro b1 w2 h3 le4 hc5 st6
 refine v_asL X X<|Y<|W.sr<|v_asL X X<|Y<|W.sr<|v_field_addr X Tryz.underlying32 X Tryz.sizeOf29 X X<|v_load_cells1 (j := 3) st6.sub hc5 X X X Tryz.isAgg29 X<|v_len (p_f3.up le4) X Tryz.underlying29 X ?_
 refine OpsL.makeInts (m := p.questions.length) st6 rfl Tryz.underlying42 Tryz.info3 rfl rfl rfl rfl (by show 8 * (p.questions.length) ≤ 281474976710656; omega) (by omega) ?_
 intro v7 o8 w9 f10 st11
 refine v_assign (v := v7) X X<|Y<|zs ?_
 have st15 := st11.snoc
 have f16 := OSl.nil (LSl LInt) 42 h3
 refine zG [2, 3, 5, 10, 11, 12, 13, 14, 15, 16, 17, 18, 19, 20, 21, 22, 23, 24, 25, 26, 27, 28, 29, 30, 31, 32, 33, 34, 35, 36, 37, 38, 39, 40, 41, 42, 43, 44, 45, 46, 47, 48, 49, 50, 51, 52] (G := Nat × List Int × Value × List (Nat × Obj) × List (Nat × Obj) × Heap) (fun ⟨j, xs, v_3, o_3, o_4, h12⟩ => [(3, v_3)]) (fun ⟨j, xs, v_3, o_3, o_4, h12⟩ w' => Le h3 h12 ∧ St h w h12 w' [o_4, o_3] ∧ (OSl (LSl LInt) 42 h12 v_3 ((((candL (sizesP p)).take j).filter (trueB p))) o_3) ∧ (OSl LInt 3 h12 v7 (xs) o_4) ∧ ((candL (sizesP p))[j]? = some xs)) (fun ⟨j, xs, v_3, o_3, o_4, h12⟩ => (candL (sizesP p)).length - j) ⟨0, (List.replicate p.questions.length 0), (.slice none 0 0), [], o8, h3⟩ ⟨rfl, trivial⟩ ⟨Le.refl _, st15, (OSl.to f16 (by rfl)), (OSl.to f10 (by rfl)), (by rw [cand_zero (sizes_pos hp), sizes_len])⟩ ?_
 rintro ⟨j, xs, v_3, o_3, o_4, h12⟩ _ w17 ⟨le13, st14, hO_3, hO_4, hx⟩
 have hxl := cand_xlen hx
 have hj := (List.getElem?_eq_some_iff.1 hx).1
 refine zs<|zf<|W.sr<|v_load_call st14.sub (hc5.up le13) X Tryz.isAgg32 Tryz.sizeOf32 X X<|v_move (v := v7) X X ?_
 have ha18 := heapOf_le st14.sub
 have f19 := (OSl.whole (k := 0) st14 hO_4 rfl (by omega)).2
 refine zi st14 rfl rfl rfl Tryz.call44 rfl (Rets.thaw st14.sub (c_postilref07_True (heapOf_sub _) (p := p) (p_f0.up ((le4.trans le13).trans ha18)) (p_f1.up ((le4.trans le13).trans ha18)) (p_f2.up ((le4.trans le13).trans ha18)) (p_f3.up ((le4.trans le13).trans ha18)) (p_f4.up ((le4.trans le13).trans ha18)) f19 (by exact hp) (by omega))) ?_
 intro r20 w21 h22 le23 st24 q25
 obtain rfl := q25
 refine Y ?_
 refine zh rfl (fun c26 => ?_) (fun c26 => ?_)
 ·
  have htr : trueB p xs = true := c26
  refine zg<|v_move (v := v_3) X X<|OpsL.sliceE (L := LInt) st24 X ⟨_, Tryz.sizeOf3⟩ Tryz.underlying42 ?_
  intro v27 o28 w29 f30 st31
  refine v_move (v := v7) X X ?_
  refine OpsL.appendOwnI (k := 2) (k2 := 0) (nb := 8) st31 f30 rfl (hO_4.up le23) rfl (by decide) rfl rfl rfl Tryz.underlying42 Tryz.info3 rfl rfl rfl rfl (by have hq1_ := List.length_filter_le (trueB p) ((candL (sizesP p)).take j); rw [List.length_take] at hq1_; (try simp only [List.length_append, List.length_cons, List.length_nil]); omega) (by have hq1_ := List.length_filter_le (trueB p) ((candL (sizesP p)).take j); rw [List.length_take] at hq1_; (try simp only [List.length_append, List.length_cons, List.length_nil]); omega) ?_
  intro v32 o33 w34 _ e35 f36 st37
  subst e35
  obtain ⟨h38, le39, f40, st41⟩ := OSl.freeze (k := 2) st37 f36 rfl (by first | omega | (have hq1_ := List.length_filter_le (trueB p) ((candL (sizesP p)).take j); rw [List.length_take] at hq1_; (try simp only [List.length_append, List.length_cons, List.length_nil]); omega))
  refine zN (L := (LSl LInt)) (xs := [([] ++ xs)]) (cs := [v32]) st41 (Enc.cons (L := (LSl LInt)) (vs := [v32]) (x := ([] ++ xs)) (h := h38) (⟨_, rfl, f40⟩) Enc.nil) rfl rfl rfl Tryz.underlying91 Tryz.info42 rfl rfl rfl (by obtain ⟨_, _, rfl⟩ := Sl.form f40; kernel_rfl) ?_
  intro v42 w43 h46 le47 f44 st45
  refine zaf (k := 1) (nb := 24) st45 (hO_3.up ((le23.trans le39).trans le47)) rfl f44 rfl rfl rfl Tryz.underlying91 Tryz.info42 rfl rfl rfl (by decide) rfl (by have hq1_ := List.length_filter_le (trueB p) ((candL (sizesP p)).take j); rw [List.length_take] at hq1_; (try simp only [List.length_append, List.length_cons, List.length_nil]); omega) (by have hq1_ := List.length_filter_le (trueB p) ((candL (sizesP p)).take j); rw [List.length_take] at hq1_; (try simp only [List.length_append, List.length_cons, List.length_nil]); omega) ?_
  intro v48 o49 w50 _ e51 f52 st53
  subst e51
  refine v_assign (v := v48) X X<|Y<|W.sr<|v_move (v := v7) X X<|v_len_own (hO_4.up ((le23.trans le39).trans le47)) X Tryz.underlying42 X<|v_sub X X t_om X<|v_asI X X<|Y<|zf<|zs ?_
  refine zG [5, 22, 23, 24, 25, 26, 27, 28, 29, 30, 31, 32, 33, 34, 35, 36, 37, 38, 39, 40, 41, 42, 43] (G := Nat × List (Nat × Obj) × Heap) (fun ⟨m, o_4, h54⟩ => [(5, .int .i64 ((m : Int) - 1))]) (fun ⟨m, o_4, h54⟩ w' => Le h46 h54 ∧ St h w h54 w' [o_4, o49, []] ∧ (OSl LInt 3 h54 v7 ((xs.take m ++ List.replicate (xs.length - m) 0)) o_4) ∧ (m ≤ xs.length) ∧ (∀ (k n : Nat) (x : Int), m ≤ k → (sizesP p)[k]? = some n → xs[k]? = some x → x = (n : Int) - 1)) (fun ⟨m, o_4, h54⟩ => m) ⟨xs.length, o_4, h46⟩ ⟨rfl, trivial⟩ ⟨Le.refl _, st53, (OSl.to (hO_4.up ((le23.trans le39).trans le47)) (by simp)), zK, (by intro k n x hk _ hx2; rw [List.getElem?_eq_none hk] at hx2; cases hx2)⟩ ?_
  rintro ⟨m, o_4, h54⟩ _ w57 ⟨le55, st56, hO_4, hm, hz⟩
  refine zf<|zf<|zS Tryz.mixed t_kr (Cls h54 _) (Cls.drew st56)<|u_mvI X X<|u_geq X X X<|u_mvB X X ?_
  refine zW (d := 24) rfl (fun g58 => ?_) (fun g58 => ?_)
  ·
   replace g58 := of_decide_eq_true g58
   refine zb X X (d := 24) X<|u_move (v := v7) X X<|zb X X (d := 24) X<|u_mvI X X<|zb X X (d := 24) X ?_
   have ha : ∃ y_, ((xs.take m ++ List.replicate (xs.length - m) 0))[(m - 1)]? = some y_ := ⟨_, List.getElem?_eq_getElem (by simp only [List.length_append, List.length_take, List.length_replicate]; omega)⟩
   obtain ⟨a, ha⟩ := ha
   obtain ⟨b59, o60, cur61, _, e64, he62, hr_a, hc63⟩ := OSl.elem hO_4 ha
   subst e64
   obtain rfl := hr_a
   refine zm rfl rfl (fun _ _ => (zE he62 rfl rfl (hk := (show _ = (((m - 1) : Nat) : Int) by omega)) (hu := Tryz.underlying42) (hz := Tryz.sizeOf3))) ?_
   refine zb X X (d := 24) X<|zm X X (fun _ hC => (r_load_cur1 (j := 0) (hC.block (st56.get (k := 0) X)) hc63 X X X Tryz.isAgg3))<|zb X X (d := 24) X<|u_field_addr X Tryz.underlying32 X Tryz.sizeOf29 X X<|zb X X (d := 24) X<|zm X X (fun _ hC => (zc (j := 3) hC.sub (hc5.up ((((le13.trans le23).trans le39).trans le47).trans le55)) X X X Tryz.isAgg29))<|zb X X (d := 24) X<|u_mvI X X<|zb X X (d := 24) X ?_
   have hq : ∃ y_, (p.questions)[(m - 1)]? = some y_ := ⟨_, List.getElem?_eq_getElem (by omega)⟩
   obtain ⟨q, hq⟩ := hq
   obtain ⟨b65, o66, _, he68, hc67, hr_q⟩ := Sl.elem (p_f3.up (((((le4.trans le13).trans le23).trans le39).trans le47).trans le55)) hq
   obtain ⟨v69, rfl, f70⟩ := hr_q
   have f70_b := f70.le
   refine zm rfl rfl (fun _ _ => (zE he68 rfl rfl (hk := (show _ = (((m - 1) : Nat) : Int) by omega)) (hu := Tryz.underlying29) (hz := Tryz.sizeOf84))) ?_
   refine zb X X (d := 24) X<|u_field_addr X Tryz.underlying84 X Tryz.sizeOf82 X X<|zb X X (d := 24) X<|zm X X (fun _ hC => (zc (j := 3) hC.sub hc67 X X X Tryz.isAgg82))<|zb X X (d := 24) X<|u_len f70 X Tryz.underlying82 X<|zb X X (d := 24) X<|u_sub X X t_om X<|zb X X (d := 24) X<|u_eql X X X<|u_pickT (v := (.bool _)) X X X<|zI ?_
   rintro w71 ⟨h72, s73⟩
   have st74 := st56.call0 s73
   refine U ?_
   refine zh rfl (fun c75 => ?_) (fun c75 => ?_)
   ·
    replace c75 := of_decide_eq_true c75
    refine zr<|U<|zs<|W.sr<|v_move (v := v7) X X<|v_mvI X X ?_
    obtain ⟨b76, o77, cur78, _, e81, he79, hr_a, hc80⟩ := OSl.elem (hO_4.up s73.le) ha
    obtain ⟨hb82, hc83⟩ : b59 = b76 ∧ cur61 = cur78 := by cases e81; exact ⟨rfl, rfl⟩
    subst hb82
    subst hc83
    obtain rfl := hr_a
    refine zk rfl rfl (zE he79 rfl rfl (hk := (show _ = (((m - 1) : Nat) : Int) by omega)) (hu := Tryz.underlying42) (hz := Tryz.sizeOf3)) ?_
    refine OpsL.storeEl1 (k := 0) st74 (hO_4.up s73.le) rfl (by simp only [List.length_append, List.length_take, List.length_replicate]; omega) he79 rfl rfl (rfl) Tryz.sizeOf3 ?_
    intro o84 w85 _ e86 f87 st88
    subst e86
    refine Y<|zg<|v_mvI X X<|v_sub X X t_om X<|v_asI X X<|zt<|zw<|U ?_
    have hm0 : 1 ≤ m := by omega
    have ha1 := odo_at ha hm0 hm
    refine ⟨⟨m - 1, o84, h72⟩, ⟨?_, trivial⟩, ?_, ⟨(le55.trans s73.le), st88, ?_, ?_, ?_⟩, ?_⟩
    ·exact zB (by omega)
    ·exact zH
    ·refine OSl.to f87 ?_
     exact odo_zero hm0 hm
    ·first | omega | (simp; omega)
    ·exact odo_max hz hm0 ha1 hq (by first | assumption | omega)
    ·show ((m - 1)) < m
     omega
   ·
    replace c75 := of_decide_eq_false c75
    refine zL<|ze<|ze<|zF<|U<|zf<|W.sr<|v_mvI X X<|v_lss X X X<|Y ?_
    refine zh rfl (fun c89 => ?_) (fun c89 => ?_)
    ·
     replace c89 := of_decide_eq_true c89
     exfalso
     have sure_ : (decide (((m : Int) - 1) < 0)) = false := by exact decide_eq_false (by omega)
     exact of_decide_eq_false sure_ c89
    ·
     replace c89 := of_decide_eq_false c89
     refine zr<|U<|zg<|v_move (v := v7) X X<|v_mvI X X ?_
     obtain ⟨b90, o91, cur92, _, e95, he93, hr_a, hc94⟩ := OSl.elem (hO_4.up s73.le) ha
     obtain ⟨hb96, hc97⟩ : b59 = b90 ∧ cur61 = cur92 := by cases e95; exact ⟨rfl, rfl⟩
     subst hb96
     subst hc97
     obtain rfl := hr_a
     refine zk rfl rfl (zE he93 rfl rfl (hk := (show _ = (((m - 1) : Nat) : Int) by omega)) (hu := Tryz.underlying42) (hz := Tryz.sizeOf3)) ?_
     refine zk X X (r_load_cur1 (j := 0) (st74.get (k := 0) X) hc94 X X X Tryz.isAgg3) ?_
     refine zk rfl rfl (r_add rfl rfl (by have q0 := cand_small hp hx (odo_at ha (by omega) hm); omega)) ?_
     obtain ⟨b98, o99, cur100, _, e103, he101, hr_a, hc102⟩ := OSl.elem (hO_4.up s73.le) ha
     obtain ⟨hb104, hc105⟩ : b59 = b98 ∧ cur61 = cur100 := by cases e103; exact ⟨rfl, rfl⟩
     subst hb104
     subst hc105
     obtain rfl := hr_a
     refine zk rfl rfl (zE he101 rfl rfl (hk := (show _ = (((m - 1) : Nat) : Int) by omega)) (hu := Tryz.underlying42) (hz := Tryz.sizeOf3)) ?_
     refine OpsL.storeEl1 (k := 0) st74 (hO_4.up s73.le) rfl (by simp only [List.length_append, List.length_take, List.length_replicate]; omega) he101 rfl rfl (rfl) Tryz.sizeOf3 ?_
     intro o106 w107 _ e108 f109 st110
     subst e108
     refine zt<|zw<|U ?_
     have hm0 : 1 ≤ m := by omega
     have ha1 := odo_at ha hm0 hm
     have hnx := odo_next hp hx hz hm0 ha1 hq (by first | assumption | omega)
     refine ⟨⟨j + 1, (xs.take (m - 1) ++ (a + 1) :: List.replicate (xs.length - m) 0), v48, o49, o106, h72⟩, ⟨rfl, trivial⟩, ?_, ⟨(((((le13.trans le23).trans le39).trans le47).trans le55).trans s73.le), st110.take 2, ?_, ?_, ?_⟩, ?_⟩
     ·exact zH
     ·refine OSl.to (f52.up (le55.trans s73.le)) ?_
      rw [take_snoc hx, List.filter_append, List.filter_cons, List.filter_nil]; simp [htr]
     ·refine OSl.to f109 ?_
      exact odo_set hm0 hm
     ·exact hnx
     ·show (candL (sizesP p)).length - ((j + 1)) < (candL (sizesP p)).length - j
      omega
  ·
   replace g58 := of_decide_eq_false g58
   refine O X X (d := 24) X X X<|O X X (d := 24) X X X<|O X X (d := 24) X X X<|O X X (d := 24) X X X<|O X X (d := 24) X X X<|O X X (d := 24) X X X<|O X X (d := 24) X X X<|O X X (d := 24) X X X<|O X X (d := 24) X X X<|O X X (d := 24) X X X<|O X X (d := 24) X X X<|O X X (d := 24) X X X<|O X X (d := 24) X X X<|u_pickF (v := (.bool _)) X X X<|zI ?_
   rintro w111 ⟨h112, s113⟩
   have st114 := st56.call0 s113
   refine U ?_
   refine zh rfl (fun c115 => ?_) (fun c115 => ?_)
   ·
    cases c115
   ·
    refine zL<|ze<|ze<|zF<|U<|zf<|W.sr<|v_mvI X X<|v_lss X X X<|Y ?_
    refine zh rfl (fun c116 => ?_) (fun c116 => ?_)
    ·
     replace c116 := of_decide_eq_true c116
     refine W.sr<|v_move (v := v48) X X<|v_assign (v := v48) X X<|Y<|zo<|E<|zn<|E<|zn<|za Tryz.results103 ?_
     obtain ⟨h117, le118, f119, st120⟩ := OSl.freeze (k := 1) st114 (f52.up (le55.trans s113.le)) rfl (by first | omega | (have hq1_ := List.length_filter_le (trueB p) ((candL (sizesP p)).take j); rw [List.length_take] at hq1_; (try simp only [List.length_append, List.length_cons, List.length_nil]); omega))
     refine ⟨h117, _, rfl, st120.done, ?_⟩
     refine ⟨_, rfl, Sl.to f119 ?_⟩
     obtain rfl : m = 0 := (by omega)
     rw [truths_end hx hz]; simp [htr]
    ·
     replace c116 := of_decide_eq_false c116
     exfalso
     have sure_ : (decide (((m : Int) - 1) < 0)) = true := by exact decide_eq_true (by omega)
     exact c116 (of_decide_eq_true sure_)
 ·
  have htr : trueB p xs = false := c26
  refine zr<|U<|W.sr<|v_move (v := v7) X X<|v_len_own (hO_4.up le23) X Tryz.underlying42 X<|v_sub X X t_om X<|v_asI X X<|Y<|zf<|zs ?_
  refine zG [5, 22, 23, 24, 25, 26, 27, 28, 29, 30, 31, 32, 33, 34, 35, 36, 37, 38, 39, 40, 41, 42, 43] (G := Nat × List (Nat × Obj) × Heap) (fun ⟨m, o_4, h121⟩ => [(5, .int .i64 ((m : Int) - 1))]) (fun ⟨m, o_4, h121⟩ w' => Le h22 h121 ∧ St h w h121 w' [o_4, o_3] ∧ (OSl LInt 3 h121 v7 ((xs.take m ++ List.replicate (xs.length - m) 0)) o_4) ∧ (m ≤ xs.length) ∧ (∀ (k n : Nat) (x : Int), m ≤ k → (sizesP p)[k]? = some n → xs[k]? = some x → x = (n : Int) - 1)) (fun ⟨m, o_4, h121⟩ => m) ⟨xs.length, o_4, h22⟩ ⟨rfl, trivial⟩ ⟨Le.refl _, st24, (OSl.to (hO_4.up le23) (by simp)), zK, (by intro k n x hk _ hx2; rw [List.getElem?_eq_none hk] at hx2; cases hx2)⟩ ?_
  rintro ⟨m, o_4, h121⟩ _ w124 ⟨le122, st123, hO_4, hm, hz⟩
  refine zf<|zf<|zS Tryz.mixed t_kr (Cls h121 _) (Cls.drew st123)<|u_mvI X X<|u_geq X X X<|u_mvB X X ?_
  refine zW (d := 24) rfl (fun g125 => ?_) (fun g125 => ?_)
  ·
   replace g125 := of_decide_eq_true g125
   refine zb X X (d := 24) X<|u_move (v := v7) X X<|zb X X (d := 24) X<|u_mvI X X<|zb X X (d := 24) X ?_
   have ha : ∃ y_, ((xs.take m ++ List.replicate (xs.length - m) 0))[(m - 1)]? = some y_ := ⟨_, List.getElem?_eq_getElem (by simp only [List.length_append, List.length_take, List.length_replicate]; omega)⟩
   obtain ⟨a, ha⟩ := ha
   obtain ⟨b126, o127, cur128, _, e131, he129, hr_a, hc130⟩ := OSl.elem hO_4 ha
   subst e131
   obtain rfl := hr_a
   refine zm rfl rfl (fun _ _ => (zE he129 rfl rfl (hk := (show _ = (((m - 1) : Nat) : Int) by omega)) (hu := Tryz.underlying42) (hz := Tryz.sizeOf3))) ?_
   refine zb X X (d := 24) X<|zm X X (fun _ hC => (r_load_cur1 (j := 0) (hC.block (st123.get (k := 0) X)) hc130 X X X Tryz.isAgg3))<|zb X X (d := 24) X<|u_field_addr X Tryz.underlying32 X Tryz.sizeOf29 X X<|zb X X (d := 24) X<|zm X X (fun _ hC => (zc (j := 3) hC.sub (hc5.up ((le13.trans le23).trans le122)) X X X Tryz.isAgg29))<|zb X X (d := 24) X<|u_mvI X X<|zb X X (d := 24) X ?_
   have hq : ∃ y_, (p.questions)[(m - 1)]? = some y_ := ⟨_, List.getElem?_eq_getElem (by omega)⟩
   obtain ⟨q, hq⟩ := hq
   obtain ⟨b132, o133, _, he135, hc134, hr_q⟩ := Sl.elem (p_f3.up (((le4.trans le13).trans le23).trans le122)) hq
   obtain ⟨v136, rfl, f137⟩ := hr_q
   have f137_b := f137.le
   refine zm rfl rfl (fun _ _ => (zE he135 rfl rfl (hk := (show _ = (((m - 1) : Nat) : Int) by omega)) (hu := Tryz.underlying29) (hz := Tryz.sizeOf84))) ?_
   refine zb X X (d := 24) X<|u_field_addr X Tryz.underlying84 X Tryz.sizeOf82 X X<|zb X X (d := 24) X<|zm X X (fun _ hC => (zc (j := 3) hC.sub hc134 X X X Tryz.isAgg82))<|zb X X (d := 24) X<|u_len f137 X Tryz.underlying82 X<|zb X X (d := 24) X<|u_sub X X t_om X<|zb X X (d := 24) X<|u_eql X X X<|u_pickT (v := (.bool _)) X X X<|zI ?_
   rintro w138 ⟨h139, s140⟩
   have st141 := st123.call0 s140
   refine U ?_
   refine zh rfl (fun c142 => ?_) (fun c142 => ?_)
   ·
    replace c142 := of_decide_eq_true c142
    refine zr<|U<|zs<|W.sr<|v_move (v := v7) X X<|v_mvI X X ?_
    obtain ⟨b143, o144, cur145, _, e148, he146, hr_a, hc147⟩ := OSl.elem (hO_4.up s140.le) ha
    obtain ⟨hb149, hc150⟩ : b126 = b143 ∧ cur128 = cur145 := by cases e148; exact ⟨rfl, rfl⟩
    subst hb149
    subst hc150
    obtain rfl := hr_a
    refine zk rfl rfl (zE he146 rfl rfl (hk := (show _ = (((m - 1) : Nat) : Int) by omega)) (hu := Tryz.underlying42) (hz := Tryz.sizeOf3)) ?_
    refine OpsL.storeEl1 (k := 0) st141 (hO_4.up s140.le) rfl (by simp only [List.length_append, List.length_take, List.length_replicate]; omega) he146 rfl rfl (rfl) Tryz.sizeOf3 ?_
    intro o151 w152 _ e153 f154 st155
    subst e153
    refine Y<|zg<|v_mvI X X<|v_sub X X t_om X<|v_asI X X<|zt<|zw<|U ?_
    have hm0 : 1 ≤ m := by omega
    have ha1 := odo_at ha hm0 hm
    refine ⟨⟨m - 1, o151, h139⟩, ⟨?_, trivial⟩, ?_, ⟨(le122.trans s140.le), st155, ?_, ?_, ?_⟩, ?_⟩
    ·exact zB (by omega)
    ·exact zH
    ·refine OSl.to f154 ?_
     exact odo_zero hm0 hm
    ·first | omega | (simp; omega)
    ·exact odo_max hz hm0 ha1 hq (by first | assumption | omega)
    ·show ((m - 1)) < m
     omega
   ·
    replace c142 := of_decide_eq_false c142
    refine zL<|ze<|ze<|zF<|U<|zf<|W.sr<|v_mvI X X<|v_lss X X X<|Y ?_
    refine zh rfl (fun c156 => ?_) (fun c156 => ?_)
    ·
     replace c156 := of_decide_eq_true c156
     exfalso
     have sure_ : (decide (((m : Int) - 1) < 0)) = false := by exact decide_eq_false (by omega)
     exact of_decide_eq_false sure_ c156
    ·
     replace c156 := of_decide_eq_false c156
     refine zr<|U<|zg<|v_move (v := v7) X X<|v_mvI X X ?_
     obtain ⟨b157, o158, cur159, _, e162, he160, hr_a, hc161⟩ := OSl.elem (hO_4.up s140.le) ha
     obtain ⟨hb163, hc164⟩ : b126 = b157 ∧ cur128 = cur159 := by cases e162; exact ⟨rfl, rfl⟩
     subst hb163
     subst hc164
     obtain rfl := hr_a
     refine zk rfl rfl (zE he160 rfl rfl (hk := (show _ = (((m - 1) : Nat) : Int) by omega)) (hu := Tryz.underlying42) (hz := Tryz.sizeOf3)) ?_
     refine zk X X (r_load_cur1 (j := 0) (st141.get (k := 0) X) hc161 X X X Tryz.isAgg3) ?_
     refine zk rfl rfl (r_add rfl rfl (by have q0 := cand_small hp hx (odo_at ha (by omega) hm); omega)) ?_
     obtain ⟨b165, o166, cur167, _, e170, he168, hr_a, hc169⟩ := OSl.elem (hO_4.up s140.le) ha
     obtain ⟨hb171, hc172⟩ : b126 = b165 ∧ cur128 = cur167 := by cases e170; exact ⟨rfl, rfl⟩
     subst hb171
     subst hc172
     obtain rfl := hr_a
     refine zk rfl rfl (zE he168 rfl rfl (hk := (show _ = (((m - 1) : Nat) : Int) by omega)) (hu := Tryz.underlying42) (hz := Tryz.sizeOf3)) ?_
     refine OpsL.storeEl1 (k := 0) st141 (hO_4.up s140.le) rfl (by simp only [List.length_append, List.length_take, List.length_replicate]; omega) he168 rfl rfl (rfl) Tryz.sizeOf3 ?_
     intro o173 w174 _ e175 f176 st177
     subst e175
     refine zt<|zw<|U ?_
     have hm0 : 1 ≤ m := by omega
     have ha1 := odo_at ha hm0 hm
     have hnx := odo_next hp hx hz hm0 ha1 hq (by first | assumption | omega)
     refine ⟨⟨j + 1, (xs.take (m - 1) ++ (a + 1) :: List.replicate (xs.length - m) 0), v_3, o_3, o173, h139⟩, ⟨rfl, trivial⟩, ?_, ⟨(((le13.trans le23).trans le122).trans s140.le), st177, ?_, ?_, ?_⟩, ?_⟩
     ·exact zH
     ·refine OSl.to (hO_3.up ((le23.trans le122).trans s140.le)) ?_
      rw [take_snoc hx, List.filter_append, List.filter_cons, List.filter_nil]; simp [htr]
     ·refine OSl.to f176 ?_
      exact odo_set hm0 hm
     ·exact hnx
     ·show (candL (sizesP p)).length - ((j + 1)) < (candL (sizesP p)).length - j
      omega
  ·
   replace g125 := of_decide_eq_false g125
   refine O X X (d := 24) X X X<|O X X (d := 24) X X X<|O X X (d := 24) X X X<|O X X (d := 24) X X X<|O X X (d := 24) X X X<|O X X (d := 24) X X X<|O X X (d := 24) X X X<|O X X (d := 24) X X X<|O X X (d := 24) X X X<|O X X (d := 24) X X X<|O X X (d := 24) X X X<|O X X (d := 24) X X X<|O X X (d := 24) X X X<|u_pickF (v := (.bool _)) X X X<|zI ?_
   rintro w178 ⟨h179, s180⟩
   have st181 := st123.call0 s180
   refine U ?_
   refine zh rfl (fun c182 => ?_) (fun c182 => ?_)
   ·
    cases c182
   ·
    refine zL<|ze<|ze<|zF<|U<|zf<|W.sr<|v_mvI X X<|v_lss X X X<|Y ?_
    refine zh rfl (fun c183 => ?_) (fun c183 => ?_)
    ·
     replace c183 := of_decide_eq_true c183
     refine W.sr<|v_move (v := v_3) X X<|v_assign (v := v_3) X X<|Y<|zo<|E<|zn<|E<|zn<|za Tryz.results103 ?_
     obtain ⟨h184, le185, f186, st187⟩ := OSl.freeze (k := 1) st181 (hO_3.up ((le23.trans le122).trans s180.le)) rfl (by first | omega | (have hq1_ := List.length_filter_le (trueB p) ((candL (sizesP p)).take j); rw [List.length_take] at hq1_; (try simp only [List.length_append, List.length_cons, List.length_nil]); omega))
     refine ⟨h184, _, rfl, st187.done, ?_⟩
     refine ⟨_, rfl, Sl.to f186 ?_⟩
     obtain rfl : m = 0 := (by omega)
     rw [truths_end hx hz]; simp [htr]
    ·
     replace c183 := of_decide_eq_false c183
     exfalso
     have sure_ : (decide (((m : Int) - 1) < 0)) = true := by exact decide_eq_true (by omega)
     exact c183 (of_decide_eq_true sure_)
set_option maxRecDepth 4000 in
theorem c_postilref07_some {h : Heap} {w : World} (hs : Sub h w) {p : Poll} {p_v0 : Value} (p_f0 : Sl LChapter h p_v0 p.text.chapters) {p_v1 : Value} (p_f1 : Sl LRule h p_v1 p.lexicon.rules) {p_v2 : Value} (p_f2 : Sl LDecision h p_v2 p.lexicon.decisions) {p_v3 : Value} (p_f3 : Sl LQuestion h p_v3 p.questions) {p_v4 : Value} (p_f4 : Sl LVoter h p_v4 p.voters) (right : Bool) : Calls Tryz.prog 56 #[.agg #[p_v0, p_v1, p_v2, p_v3, p_v4], .bool right] w (Rets h w (fun h' _ res_ => ∃ u0, res_ = .tuple #[u0, .int .i64 (allE p right)] ∧ Sl (LSl LInt) h' u0 ((allL p right)))) := by
 refine zz (n := 21) (args := [.agg #[p_v0, p_v1, p_v2, p_v3, p_v4], .bool right]) Tryz.func56 X X X ?_
 have st0 : St h w h w [] := St.start hs
 have p_f0_b := p_f0.le
 have p_f1_b := p_f1.le
 have p_f2_b := p_f2.le
 have p_f3_b := p_f3.le
 have p_f4_b := p_f4.le
 refine W.sr<|zy st0 (cs := [p_v0, p_v1, p_v2, p_v3, p_v4]) X X X ?_
 intro b1 w2 h3 le4 hc5 st6
 refine v_asL X X<|v_asI X X<|Y<|zf<|W.sr<|v_load_call st6.sub hc5 X Tryz.isAgg32 Tryz.sizeOf32 X X<|zi st6 X X X Tryz.call59 X (c_postilref07_Check st6.sub (p := p) (p_f0.up le4) (p_f1.up le4) (p_f2.up le4) (p_f3.up le4) (p_f4.up le4)) ?_
 intro r7 w8 h9 le10 st11 q12
 obtain rfl := q12
 refine v_asI X X<|Y<|W.sr<|v_mvI X X<|v_neq X X X<|Y ?_
 refine zh rfl (fun c13 => ?_) (fun c13 => ?_)
 ·
  replace c13 := of_decide_eq_true c13
  refine W.sr<|v_mvI X X<|v_asL X X<|v_asI X X<|Y<|zo<|E<|zV Tryz.results56 ?_
  refine ⟨h9, _, rfl, st11.done, ?_⟩
  refine ⟨_, tup2 rfl (zB ?_), Sl.to (Sl.nil _ _) ?_⟩
  all_goals simp_all [allL, allE]
 ·
  replace c13 := of_decide_eq_false c13
  refine zr<|U<|zf<|W.sr<|v_mvB X X<|v_not X X<|Y ?_
  refine zh rfl (fun c14 => ?_) (fun c14 => ?_)
  ·
   refine W.sr<|v_asL X X<|v_asI X X<|Y<|zo<|E<|zV Tryz.results56 ?_
   refine ⟨h9, _, rfl, st11.done, ?_⟩
   refine ⟨_, tup2 rfl (zB ?_), Sl.to (Sl.nil _ _) ?_⟩
   all_goals simp_all [allL, allE]
  ·
   refine zr<|U<|W.sr<|v_load_call st11.sub (hc5.up le10) X Tryz.isAgg32 Tryz.sizeOf32 X X ?_
   refine zi st11 rfl rfl rfl Tryz.call103 rfl (c_postilref07_truths st11.sub (p := p) (p_f0.up (le4.trans le10)) (p_f1.up (le4.trans le10)) (p_f2.up (le4.trans le10)) (p_f3.up (le4.trans le10)) (p_f4.up (le4.trans le10)) (by exact (check_ok (by simpa using c13)).2)) ?_
   intro r15 w16 h17 le18 st19 q20
   obtain ⟨v21, e23, f22⟩ := q20
   rw [← e23] at f22
   have f22_b := f22.le
   refine v_assign (v := r15) X X<|Y<|zf<|W.sr<|v_move (v := r15) X X<|v_len f22 X Tryz.underlying91 X<|v_eql X X X<|Y ?_
   refine zh rfl (fun c24 => ?_) (fun c24 => ?_)
   ·
    replace c24 := of_decide_eq_true c24
    refine W.sr<|v_asL X X<|v_asI X X<|Y<|zo<|E<|zV Tryz.results56 ?_
    refine ⟨h17, _, rfl, st19.done, ?_⟩
    refine ⟨_, tup2 rfl (zB ?_), Sl.to (Sl.nil _ _) ?_⟩
    all_goals simp_all [allL, allE]
   ·
    replace c24 := of_decide_eq_false c24
    refine zr<|U<|W.sr<|v_move (v := r15) X X<|v_assign (v := r15) X X<|v_asI X X<|Y<|zo<|zV Tryz.results56 ?_
    refine ⟨h17, _, rfl, st19.done, ?_⟩
    refine ⟨_, tup2 rfl (zB ?_), Sl.to f22 ?_⟩
    all_goals simp_all [allL, allE]
set_option maxRecDepth 4000 in
theorem c_postilref07_worst {h : Heap} {w : World} (hs : Sub h w) {l_v : Value} {l : (List (List Int))} (l_f : Sl (LSl LInt) h l_v l) (q : Int) (hq : 0 ≤ q) (hl : ∀ t ∈ l, q < (t.length : Int)) (hn : l.length ≤ 1000) : Calls Tryz.prog 73 #[l_v, .int .i64 q] w (Rets h w (fun _ _ res_ => res_ = .int .i64 ((worstN l q.toNat)))) := by
 refine zz (n := 34) (args := [l_v, .int .i64 q]) Tryz.func73 X X X ?_
 have st0 : St h w h w [] := St.start hs
 have l_f_b := l_f.le
 refine W.sr<|v_asI X X<|Y<|W.sr<|v_asI X X<|Y<|zf<|W.sr<|v_asI X X<|Y<|zs ?_
 refine zG [5, 6, 7, 8, 9, 10, 11, 12, 13, 14, 15, 16, 17, 18, 19, 20, 21, 22, 23, 24, 25, 26, 27, 28, 29, 30, 31, 32] (G := Nat × Heap) (fun ⟨k, h1⟩ => [(5, .int .i64 (worstK l q.toNat k)), (6, .int .i64 (k : Int))]) (fun ⟨k, h1⟩ w' => Le h h1 ∧ St h w h1 w' [] ∧ (k ≤ 3)) (fun ⟨k, h1⟩ => 3 - k) ⟨0, h⟩ ⟨rfl, rfl, trivial⟩ ⟨Le.refl _, st0, zK⟩ ?_
 rintro ⟨k, h1⟩ _ w4 ⟨le2, st3, hk⟩
 refine zf<|W.sr<|v_mvI X X<|v_lss X X X<|Y ?_
 refine zh rfl (fun c5 => ?_) (fun c5 => ?_)
 ·
  replace c5 := of_decide_eq_true c5
  refine zr<|U<|zf<|zs<|W.sr<|v_asI X X<|Y<|zf<|W.sr<|v_asI X X<|Y<|zs ?_
  refine zG [7, 8, 13, 14, 15, 16, 17, 18, 19, 20, 21, 22, 23, 24, 25, 26, 27, 28, 29] (G := Nat × Heap) (fun ⟨i, h6⟩ => [(7, .int .i64 ((cntH (l.take i) q.toNat (k : Int) : Nat) : Int)), (8, .int .i64 (i : Int))]) (fun ⟨i, h6⟩ w' => Le h1 h6 ∧ St h w h6 w' [] ∧ (i ≤ l.length)) (fun ⟨i, h6⟩ => l.length - i) ⟨0, h1⟩ ⟨rfl, rfl, trivial⟩ ⟨Le.refl _, st3, zK⟩ ?_
  rintro ⟨i, h6⟩ _ w9 ⟨le7, st8, hi⟩
  have hcl := cntH_le (l.take i) q.toNat (k : Int)
  rw [List.length_take] at hcl
  refine zf<|W.sr<|v_mvI X X<|v_move (v := l_v) X X<|v_len (l_f.up (le2.trans le7)) X Tryz.underlying91 X<|v_lss X X X<|Y ?_
  refine zh rfl (fun c10 => ?_) (fun c10 => ?_)
  ·
   replace c10 := of_decide_eq_true c10
   refine zr<|U<|zf<|zs<|W.sr<|v_move (v := l_v) X X<|v_mvI X X ?_
   have ht : ∃ y_, (l)[i]? = some y_ := ⟨_, List.getElem?_eq_getElem (by omega)⟩
   obtain ⟨t, ht⟩ := ht
   obtain ⟨b11, o12, _, he14, hc13, hr_t⟩ := Sl.elem (l_f.up (le2.trans le7)) ht
   obtain ⟨v15, rfl, f16⟩ := hr_t
   have f16_b := f16.le
   refine v_index_el he14 X X (hk := X) (hu := Tryz.underlying91) (hz := Tryz.sizeOf42) X<|v_load_cells1 (j := 0) st8.sub hc13 X X X Tryz.isAgg42 X<|v_mvI X X ?_
   have ha : ∃ y_, (t)[q.toNat]? = some y_ := ⟨_, List.getElem?_eq_getElem (by have q1 := hl t (List.mem_of_getElem? ht); omega)⟩
   obtain ⟨a, ha⟩ := ha
   obtain ⟨b17, o18, _, he20, hc19, hr_a⟩ := Sl.elem f16 ha
   obtain rfl := hr_a
   refine zk rfl rfl (zE he20 rfl rfl (hk := (show _ = ((q.toNat : Nat) : Int) by omega)) (hu := Tryz.underlying42) (hz := Tryz.sizeOf3)) ?_
   refine v_load_cells1 (j := 0) st8.sub hc19 X X X Tryz.isAgg3 X<|v_mvI X X<|v_eql X X X<|Y ?_
   refine zh rfl (fun c21 => ?_) (fun c21 => ?_)
   ·
    replace c21 := of_decide_eq_true c21
    refine zg<|v_mvI X X<|v_add X X t_om X<|v_asI X X<|zt<|zw<|U<|zg<|v_mvI X X<|v_add X X t_om X<|v_asI X X<|Y ?_
    refine ⟨⟨i + 1, h6⟩, ⟨?_, rfl, trivial⟩, ?_, ⟨le7, st8, ?_⟩, ?_⟩
    ·exact zB (by rw [cntH_snoc ht]; first | (rw [if_pos (by rw [ha]; simp_all)]; simp; done) | (rw [if_neg (by rw [ha]; simp_all)]; simp; done))
    ·exact zH
    ·first | omega | (simp; omega)
    ·show l.length - ((i + 1)) < l.length - i
     omega
   ·
    replace c21 := of_decide_eq_false c21
    refine zr<|zw<|U<|zg<|v_mvI X X<|v_add X X t_om X<|v_asI X X<|Y ?_
    refine ⟨⟨i + 1, h6⟩, ⟨?_, rfl, trivial⟩, ?_, ⟨le7, st8, ?_⟩, ?_⟩
    ·exact zB (by rw [cntH_snoc ht]; first | (rw [if_pos (by rw [ha]; simp_all)]; simp; done) | (rw [if_neg (by rw [ha]; simp_all)]; simp; done))
    ·exact zH
    ·first | omega | (simp; omega)
    ·show l.length - ((i + 1)) < l.length - i
     omega
  ·
   replace c10 := of_decide_eq_false c10
   refine zL<|ze<|ze<|zF<|U<|zg<|v_mvI X X<|v_mvI X X<|zk X X (r_max X X)<|v_asI X X<|zt<|zw<|U<|zg<|v_mvI X X<|v_add X X t_om X<|v_asI X X<|Y ?_
   refine ⟨⟨k + 1, h6⟩, ⟨?_, rfl, trivial⟩, ?_, ⟨(le2.trans le7), st8, ?_⟩, ?_⟩
   ·exact zB (by rw [List.take_of_length_le (by omega)]; rfl)
   ·exact zH
   ·first | omega | (simp; omega)
   ·show 3 - ((k + 1)) < 3 - k
    omega
 ·
  replace c5 := of_decide_eq_false c5
  refine zL<|ze<|ze<|zF<|U<|W.sr<|v_mvI X X<|v_asI X X<|Y<|zo<|za Tryz.results73 ?_
  refine ⟨h1, _, rfl, st3.done, ?_⟩
  refine zB ?_
  rw [worstN, show k = 3 by omega]
end Go.Pk

namespace Go.Pk
open Go Go.RowKit Go.Proofs
set_option maxRecDepth 4000 in
theorem c_postilref07_Before {h : Heap} {w : World} (hs : Sub h w) {a_v : Value} {a : (List Int)} (a_f : Sl LInt h a_v a) {b_v : Value} {b : (List Int)} (b_f : Sl LInt h b_v b) : Calls Tryz.prog 48 #[a_v, b_v] w (Rets h w (fun _ _ res_ => res_ = .bool ((beforeL a b)))) := by
 refine zz (n := 40) (args := [a_v, b_v]) Tryz.func48 X X X ?_
 have st0 : St h w h w [] := St.start hs
 have a_f_b := a_f.le
 have b_f_b := b_f.le
 refine W.sr<|v_asB X X<|Y<|zf<|W.sr<|v_move (v := a_v) X X<|v_len a_f X Tryz.underlying42 X<|v_move (v := b_v) X X<|v_len b_f X Tryz.underlying42 X<|v_neq X X X<|Y ?_
 refine zh rfl (fun c1 => ?_) (fun c1 => ?_)
 ·
  replace c1 := of_decide_eq_true c1
  refine W.sr<|v_move (v := a_v) X X<|v_len a_f X Tryz.underlying42 X<|v_move (v := b_v) X X<|v_len b_f X Tryz.underlying42 X<|v_lss X X X<|v_asB X X<|Y<|zo<|E<|za Tryz.results48 ?_
  refine ⟨h, _, rfl, st0.done, ?_⟩
  refine zj ?_
  have q := c1
  rw [beforeL, if_pos (by omega)]; simp
 ·
  replace c1 := of_decide_eq_false c1
  refine zr<|U<|zf<|W.sr<|v_asI X X<|Y<|zs ?_
  refine zG [4, 5, 16, 17, 18, 19, 20, 21, 22, 23, 24, 25, 26, 27, 28, 29, 30, 31, 32, 33, 34, 35, 36, 37, 38, 39] (G := Nat × Heap) (fun ⟨i, h2⟩ => [(5, .int .i64 (i : Int))]) (fun ⟨i, h2⟩ w' => Le h h2 ∧ St h w h2 w' [] ∧ (i ≤ a.length) ∧ (a.take i = b.take i)) (fun ⟨i, h2⟩ => a.length - i) ⟨0, h⟩ ⟨rfl, trivial⟩ ⟨Le.refl _, st0, zK, zK⟩ ?_
  rintro ⟨i, h2⟩ _ w5 ⟨le3, st4, hi, he⟩
  refine zf<|W.sr<|v_mvI X X<|v_move (v := a_v) X X<|v_len (a_f.up le3) X Tryz.underlying42 X<|v_lss X X X<|Y ?_
  refine zh rfl (fun c6 => ?_) (fun c6 => ?_)
  ·
   replace c6 := of_decide_eq_true c6
   refine zr<|U<|zf<|zs<|zf<|zS Tryz.mixed t_kr (Cls h2 _) (Cls.drew st4)<|u_move (v := a_v) X X<|u_mvI X X ?_
   have hx : ∃ y_, (a)[i]? = some y_ := ⟨_, List.getElem?_eq_getElem (by omega)⟩
   obtain ⟨x, hx⟩ := hx
   obtain ⟨b7, o8, _, he10, hc9, hr_x⟩ := Sl.elem (a_f.up le3) hx
   obtain rfl := hr_x
   refine u_index_el he10 X X (hk := X) (hu := Tryz.underlying42) (hz := Tryz.sizeOf3) X<|zm X X (fun _ hC => (zc (j := 0) hC.sub hc9 X X X Tryz.isAgg3))<|u_move (v := b_v) X X<|u_mvI X X ?_
   have hy : ∃ y_, (b)[i]? = some y_ := ⟨_, List.getElem?_eq_getElem (by omega)⟩
   obtain ⟨y, hy⟩ := hy
   obtain ⟨b11, o12, _, he14, hc13, hr_y⟩ := Sl.elem (b_f.up le3) hy
   obtain rfl := hr_y
   refine u_index_el he14 X X (hk := X) (hu := Tryz.underlying42) (hz := Tryz.sizeOf3) X<|zm X X (fun _ hC => (zc (j := 0) hC.sub hc13 X X X Tryz.isAgg3))<|u_neq X X X<|zI ?_
   rintro w15 ⟨h16, s17⟩
   have st18 := st4.call0 s17
   refine U ?_
   refine zh rfl (fun c19 => ?_) (fun c19 => ?_)
   ·
    replace c19 := of_decide_eq_true c19
    refine zf<|zS Tryz.mixed t_kr (Cls h16 _) (Cls.drew st18)<|u_move (v := a_v) X X<|u_mvI X X<|u_index_el he10 X X (hk := X) (hu := Tryz.underlying42) (hz := Tryz.sizeOf3) X<|zm X X (fun _ hC => (zc (j := 0) hC.sub (hc9.up s17.le) X X X Tryz.isAgg3))<|u_move (v := b_v) X X<|u_mvI X X<|u_index_el he14 X X (hk := X) (hu := Tryz.underlying42) (hz := Tryz.sizeOf3) X<|zm X X (fun _ hC => (zc (j := 0) hC.sub (hc13.up s17.le) X X X Tryz.isAgg3))<|u_lss X X X<|u_asB X X<|zI ?_
    rintro w20 ⟨h21, s22⟩
    have st23 := st18.call0 s22
    refine U<|zo<|zn<|E<|E<|zn<|E<|za Tryz.results48 ?_
    refine ⟨h21, _, rfl, st23.done, ?_⟩
    refine zj ?_
    have q := c19
    rw [beforeL, if_neg (by omega), ltL_at he hx hy q]
   ·
    replace c19 := of_decide_eq_false c19
    refine zr<|zw<|U<|zg<|v_mvI X X<|v_add X X t_om X<|v_asI X X<|Y ?_
    refine ⟨⟨i + 1, h16⟩, ⟨rfl, trivial⟩, ?_, ⟨(le3.trans s17.le), st18, ?_, ?_⟩, ?_⟩
    ·exact zH
    ·first | omega | (simp; omega)
    ·rw [take_snoc hx, take_snoc hy, he, show x = y by simpa using c19]
    ·show a.length - ((i + 1)) < a.length - i
     omega
  ·
   replace c6 := of_decide_eq_false c6
   refine zL<|ze<|ze<|zF<|U<|W.sr<|v_asB X X<|Y<|zo<|za Tryz.results48 ?_
   refine ⟨h2, _, rfl, st4.done, ?_⟩
   refine zj ?_
   have q1 : a.length = b.length := by omega
   rw [List.take_of_length_le (by omega), List.take_of_length_le (by omega)] at he
   subst he
   rw [beforeL, if_neg (by simp), ltL_self]
set_option maxRecDepth 4000 in
theorem c_postilref07_alike {h : Heap} {w : World} (hs : Sub h w) {a_v : Value} {a : (List Int)} (a_f : Sl LInt h a_v a) {b_v : Value} {b : (List Int)} (b_f : Sl LInt h b_v b) {l_v : Value} {l : (List Int)} (l_f : Sl LInt h l_v l) (hl : ∀ k ∈ l, 0 ≤ k ∧ k < (a.length : Int) ∧ k < (b.length : Int)) : Calls Tryz.prog 107 #[a_v, b_v, l_v] w (Rets h w (fun _ _ res_ => res_ = .bool ((alikeL a b l)))) := by
 refine zz (n := 29) (args := [a_v, b_v, l_v]) Tryz.func107 X X X ?_
 have st0 : St h w h w [] := St.start hs
 have a_f_b := a_f.le
 have b_f_b := b_f.le
 have l_f_b := l_f.le
 refine W.sr<|v_asB X X<|Y<|zf<|W.sr<|v_asI X X<|Y<|zs ?_
 refine zG [6, 7, 8, 9, 10, 11, 12, 13, 14, 15, 16, 17, 18, 19, 20, 21, 22, 23, 24, 25, 26, 27, 28] (G := Nat × Heap) (fun ⟨i, h1⟩ => [(7, .int .i64 (i : Int))]) (fun ⟨i, h1⟩ w' => Le h h1 ∧ St h w h1 w' [] ∧ (i ≤ l.length) ∧ (((l.take i).all fun k => decide (a[k.toNat]? = b[k.toNat]?)) = true)) (fun ⟨i, h1⟩ => l.length - i) ⟨0, h⟩ ⟨rfl, trivial⟩ ⟨Le.refl _, st0, zK, zK⟩ ?_
 rintro ⟨i, h1⟩ _ w4 ⟨le2, st3, hi, he⟩
 refine zf<|W.sr<|v_mvI X X<|v_move (v := l_v) X X<|v_len (l_f.up le2) X Tryz.underlying42 X<|v_lss X X X<|Y ?_
 refine zh rfl (fun c5 => ?_) (fun c5 => ?_)
 ·
  replace c5 := of_decide_eq_true c5
  refine zr<|U<|zf<|zs<|zf<|zS Tryz.mixed t_kr (Cls h1 _) (Cls.drew st3)<|u_move (v := a_v) X X<|u_move (v := l_v) X X<|u_mvI X X ?_
  have hk : ∃ y_, (l)[i]? = some y_ := ⟨_, List.getElem?_eq_getElem (by omega)⟩
  obtain ⟨k, hk⟩ := hk
  obtain ⟨b6, o7, _, he9, hc8, hr_k⟩ := Sl.elem (l_f.up le2) hk
  obtain rfl := hr_k
  refine u_index_el he9 X X (hk := X) (hu := Tryz.underlying42) (hz := Tryz.sizeOf3) X<|zm X X (fun _ hC => (zc (j := 0) hC.sub hc8 X X X Tryz.isAgg3)) ?_
  have hx : ∃ y_, (a)[k.toNat]? = some y_ := ⟨_, List.getElem?_eq_getElem (by have q := hl k (List.mem_of_getElem? hk); omega)⟩
  obtain ⟨x, hx⟩ := hx
  obtain ⟨b10, o11, _, he13, hc12, hr_x⟩ := Sl.elem (a_f.up le2) hx
  obtain rfl := hr_x
  refine zm rfl rfl (fun _ _ => (zE he13 rfl rfl (hk := (show _ = ((k.toNat : Nat) : Int) by have q := hl k (List.mem_of_getElem? hk); omega)) (hu := Tryz.underlying42) (hz := Tryz.sizeOf3))) ?_
  refine zm X X (fun _ hC => (zc (j := 0) hC.sub hc12 X X X Tryz.isAgg3))<|u_move (v := b_v) X X<|u_move (v := l_v) X X<|u_mvI X X<|u_index_el he9 X X (hk := X) (hu := Tryz.underlying42) (hz := Tryz.sizeOf3) X<|zm X X (fun _ hC => (zc (j := 0) hC.sub hc8 X X X Tryz.isAgg3)) ?_
  have hy : ∃ y_, (b)[k.toNat]? = some y_ := ⟨_, List.getElem?_eq_getElem (by have q := hl k (List.mem_of_getElem? hk); omega)⟩
  obtain ⟨y, hy⟩ := hy
  obtain ⟨b14, o15, _, he17, hc16, hr_y⟩ := Sl.elem (b_f.up le2) hy
  obtain rfl := hr_y
  refine zm rfl rfl (fun _ _ => (zE he17 rfl rfl (hk := (show _ = ((k.toNat : Nat) : Int) by have q := hl k (List.mem_of_getElem? hk); omega)) (hu := Tryz.underlying42) (hz := Tryz.sizeOf3))) ?_
  refine zm X X (fun _ hC => (zc (j := 0) hC.sub hc16 X X X Tryz.isAgg3))<|u_neq X X X<|zI ?_
  rintro w18 ⟨h19, s20⟩
  have st21 := st3.call0 s20
  refine U ?_
  refine zh rfl (fun c22 => ?_) (fun c22 => ?_)
  ·
   replace c22 := of_decide_eq_true c22
   refine W.sr<|v_asB X X<|Y<|zo<|zn<|E<|E<|zn<|E<|za Tryz.results107 ?_
   refine ⟨h19, _, rfl, st21.done, ?_⟩
   refine zj ?_
   refine (List.all_eq_false.2 ⟨k, List.mem_of_getElem? hk, ?_⟩).symm
   rw [hx, hy]; simp_all
  ·
   replace c22 := of_decide_eq_false c22
   refine zr<|zw<|U<|zg<|v_mvI X X<|v_add X X t_om X<|v_asI X X<|Y ?_
   refine ⟨⟨i + 1, h19⟩, ⟨rfl, trivial⟩, ?_, ⟨(le2.trans s20.le), st21, ?_, ?_⟩, ?_⟩
   ·exact zH
   ·first | omega | (simp; omega)
   ·rw [all_snocB hk, he, hx, hy]; simp_all
   ·show l.length - ((i + 1)) < l.length - i
    omega
 ·
  replace c5 := of_decide_eq_false c5
  refine zL<|ze<|ze<|zF<|U<|W.sr<|v_asB X X<|Y<|zo<|za Tryz.results107 ?_
  refine ⟨h1, _, rfl, st3.done, ?_⟩
  refine zj ?_
  rw [List.take_of_length_le (by omega)] at he
  exact he.symm
set_option maxRecDepth 4000 in
theorem c_postilref07_tells {h : Heap} {w : World} (hs : Sub h w) {ts_v : Value} {ts : (List (List Int))} (ts_f : Sl (LSl LInt) h ts_v ts) {l_v : Value} {l : (List Int)} (l_f : Sl LInt h l_v l) (hl : ∀ t ∈ ts, ∀ k ∈ l, 0 ≤ k ∧ k < (t.length : Int)) : Calls Tryz.prog 68 #[ts_v, l_v] w (Rets h w (fun _ _ res_ => res_ = .bool ((tellsL ts l)))) := by
 refine zz (n := 28) (args := [ts_v, l_v]) Tryz.func68 X X X ?_
 have st0 : St h w h w [] := St.start hs
 have ts_f_b := ts_f.le
 have l_f_b := l_f.le
 refine W.sr<|v_asB X X<|Y<|zf<|W.sr<|v_asI X X<|Y<|zs ?_
 refine zG [4, 5, 6, 7, 8, 9, 10, 11, 12, 13, 14, 15, 16, 17, 18, 19, 20, 21, 22, 23, 24, 25, 26, 27] (G := Nat × Heap) (fun ⟨i, h1⟩ => [(5, .int .i64 (i : Int))]) (fun ⟨i, h1⟩ w' => Le h h1 ∧ St h w h1 w' [] ∧ (i ≤ ts.length) ∧ (∀ j, j < i → tellsAt ts l j = true)) (fun ⟨i, h1⟩ => ts.length - i) ⟨0, h⟩ ⟨rfl, trivial⟩ ⟨Le.refl _, st0, zK, zK⟩ ?_
 rintro ⟨i, h1⟩ _ w4 ⟨le2, st3, hi, hA⟩
 refine zf<|W.sr<|v_mvI X X<|v_move (v := ts_v) X X<|v_len (ts_f.up le2) X Tryz.underlying91 X<|v_lss X X X<|Y ?_
 refine zh rfl (fun c5 => ?_) (fun c5 => ?_)
 ·
  replace c5 := of_decide_eq_true c5
  refine zr<|U<|zf<|zs<|zf ?_
  obtain ⟨t, ht⟩ : ∃ y, (ts)[i]? = some y := ⟨_, List.getElem?_eq_getElem (by omega)⟩
  refine zg<|v_asI X X<|Y<|zs ?_
  refine zG [4, 6, 13, 14, 15, 16, 17, 18, 19, 20, 21, 22, 23, 24, 25, 26, 27] (G := Nat × Heap) (fun ⟨k, h6⟩ => [(6, .int .i64 (k : Int))]) (fun ⟨k, h6⟩ w' => Le h1 h6 ∧ St h w h6 w' [] ∧ (k ≤ i) ∧ (((ts.take k).all fun u => !alikeL t u l) = true)) (fun ⟨k, h6⟩ => i - k) ⟨0, h1⟩ ⟨rfl, trivial⟩ ⟨Le.refl _, st3, zK, zK⟩ ?_
  rintro ⟨k, h6⟩ _ w9 ⟨le7, st8, hk, he⟩
  refine zf<|W.sr<|v_mvI X X<|v_mvI X X<|v_lss X X X<|Y ?_
  refine zh rfl (fun c10 => ?_) (fun c10 => ?_)
  ·
   replace c10 := of_decide_eq_true c10
   refine zr<|U<|zf<|zs<|zf<|zS Tryz.mixed t_kr (Cls h6 _) (Cls.drew st8)<|u_move (v := ts_v) X X<|u_mvI X X ?_
   obtain ⟨b11, o12, _, he14, hc13, hr_t⟩ := Sl.elem (ts_f.up (le2.trans le7)) ht
   obtain ⟨v15, rfl, f16⟩ := hr_t
   have f16_b := f16.le
   refine u_index_el he14 X X (hk := X) (hu := Tryz.underlying91) (hz := Tryz.sizeOf42) X<|zm X X (fun _ hC => (zc (j := 0) hC.sub hc13 X X X Tryz.isAgg42))<|u_move (v := ts_v) X X<|u_mvI X X ?_
   have hu : ∃ y_, (ts)[k]? = some y_ := ⟨_, List.getElem?_eq_getElem (by omega)⟩
   obtain ⟨u, hu⟩ := hu
   obtain ⟨b17, o18, _, he20, hc19, hr_u⟩ := Sl.elem (ts_f.up (le2.trans le7)) hu
   obtain ⟨v21, rfl, f22⟩ := hr_u
   have f22_b := f22.le
   refine u_index_el he20 X X (hk := X) (hu := Tryz.underlying91) (hz := Tryz.sizeOf42) X<|zm X X (fun _ hC => (zc (j := 0) hC.sub hc19 X X X Tryz.isAgg42))<|u_move (v := l_v) X X ?_
   refine zU rfl rfl (fun _ => zT rfl Tryz.call107 rfl) (fun _ hC => Rets.quiet hC (c_postilref07_alike hC.sub f16 f22 (l_f.up (le2.trans le7)) (by intro k hk_; have q1 := hl t (List.mem_of_getElem? ht) k hk_; have q2 := hl u (List.mem_of_getElem? hu) k hk_; omega))) ?_
   refine zI ?_
   rintro w23 ⟨h24, s25⟩
   have st26 := st8.call0 s25
   refine U ?_
   refine zh rfl (fun c27 => ?_) (fun c27 => ?_)
   ·
    refine W.sr<|v_asB X X<|Y<|zo<|zn<|E<|E<|zn<|zn<|E<|E<|zn<|E<|za Tryz.results68 ?_
    refine ⟨h24, _, rfl, st26.done, ?_⟩
    refine zj ?_
    exact (tells_no2 ht hu (by omega) c27).symm
   ·
    refine zr<|zw<|U<|zg<|v_mvI X X<|v_add X X t_om X<|v_asI X X<|Y ?_
    refine ⟨⟨k + 1, h24⟩, ⟨rfl, trivial⟩, ?_, ⟨(le7.trans s25.le), st26, ?_, ?_⟩, ?_⟩
    ·exact zH
    ·first | omega | (simp; omega)
    ·rw [all_snocB hu, he]; simp_all
    ·show i - ((k + 1)) < i - k
     omega
  ·
   replace c10 := of_decide_eq_false c10
   refine zL<|ze<|ze<|zF<|zw<|U<|zg<|v_mvI X X<|v_add X X t_om X<|v_asI X X<|Y ?_
   refine ⟨⟨i + 1, h6⟩, ⟨rfl, trivial⟩, ?_, ⟨(le2.trans le7), st8, ?_, ?_⟩, ?_⟩
   ·exact zH
   ·first | omega | (simp; omega)
   ·exact all_lt_succ hA (by simp only [tellsAt, ht]; rw [show i = k by omega]; exact he)
   ·show ts.length - ((i + 1)) < ts.length - i
    omega
 ·
  replace c5 := of_decide_eq_false c5
  refine zL<|ze<|ze<|zF<|U<|W.sr<|v_asB X X<|Y<|zo<|za Tryz.results68 ?_
  refine ⟨h1, _, rfl, st3.done, ?_⟩
  refine zj ?_
  exact (range_all hA (by omega)).symm
set_option maxRecDepth 4000 in
theorem c_postilref07_members {h : Heap} {w : World} (hs : Sub h w) (s : Int) (n : Int) (hs0 : 0 ≤ s ∧ s ≤ 1000000) (hn : 0 ≤ n ∧ n ≤ 60) : Calls Tryz.prog 67 #[.int .i64 s, .int .i64 n] w (Rets h w (fun h' _ res_ => ∃ u0, res_ = u0 ∧ Sl LInt h' u0 ((membersL s n.toNat)))) := by
 refine zz (n := 22) (args := [.int .i64 s, .int .i64 n]) Tryz.func67 X X X ?_
 have st0 : St h w h w [] := St.start hs
 refine W.sr<|v_asL X X<|Y<|W.sr<|v_asL X X<|Y<|zf<|W.sr<|v_asI X X<|Y<|zs ?_
 have st4 := st0.snoc
 have f5 := OSl.nil LInt 3 h
 refine zG [5, 6, 7, 8, 9, 10, 11, 12, 13, 14, 15, 16, 17, 18, 19, 20] (G := Nat × Value × List (Nat × Obj) × Heap) (fun ⟨i, v_5, o_5, h1⟩ => [(5, v_5), (6, .int .i64 (i : Int))]) (fun ⟨i, v_5, o_5, h1⟩ w' => Le h h1 ∧ St h w h1 w' [o_5] ∧ (OSl LInt 3 h1 v_5 ((membersL s i)) o_5) ∧ ((i : Int) ≤ n)) (fun ⟨i, v_5, o_5, h1⟩ => n.toNat - i) ⟨0, (.slice none 0 0), [], h⟩ ⟨rfl, rfl, trivial⟩ ⟨Le.refl _, st4, (OSl.to f5 (by rfl)), zK⟩ ?_
 rintro ⟨i, v_5, o_5, h1⟩ _ w6 ⟨le2, st3, hO_5, hi⟩
 refine zf<|W.sr<|v_mvI X X<|v_mvI X X<|v_lss X X X<|Y ?_
 refine zh rfl (fun c7 => ?_) (fun c7 => ?_)
 ·
  replace c7 := of_decide_eq_true c7
  refine zr<|U<|zf<|zs<|W.sr<|v_mvI X X<|v_mvI X X ?_
  refine zk rfl rfl (r_shr rfl rfl (by omega) (by omega)) ?_
  refine zk rfl rfl (r_and1 rfl rfl (by have q_ := bits_ok (b := (i : Int)) hs0.1 hs0.2; omega) (by have q_ := bits_ok (b := (i : Int)) hs0.1 hs0.2; omega)) ?_
  refine v_eql X X X<|Y ?_
  refine zh rfl (fun c8 => ?_) (fun c8 => ?_)
  ·
   replace c8 := of_decide_eq_true c8
   refine zg<|v_move (v := v_5) X X<|v_mvI X X<|zN (L := LInt) (xs := [(i : Int)]) (cs := [.int .i64 (i : Int)]) st3 (Enc.cons (L := LInt) (vs := [.int .i64 (i : Int)]) (x := (i : Int)) (h := h1) (X) Enc.nil) X X X Tryz.underlying42 Tryz.info3 X X X t_kr ?_
   intro v9 w10 h13 le14 f11 st12
   refine zaf (k := 0) (nb := 8) st12 (hO_5.up le14) rfl f11 rfl rfl rfl Tryz.underlying42 Tryz.info3 rfl rfl rfl (by decide) rfl (by have q_ := members_len s i; first | omega | (simp only [List.length_append, List.length_cons, List.length_nil]; omega)) (by have q_ := members_len s i; first | omega | (simp only [List.length_append, List.length_cons, List.length_nil]; omega)) ?_
   intro v15 o16 w17 _ e18 f19 st20
   subst e18
   refine v_assign (v := v15) X X<|zt<|zw<|U<|zg<|v_mvI X X<|v_add X X t_om X<|v_asI X X<|Y ?_
   refine ⟨⟨i + 1, v15, o16, h13⟩, ⟨rfl, rfl, trivial⟩, ?_, ⟨(le2.trans le14), st20, ?_, ?_⟩, ?_⟩
   ·exact zH
   ·refine OSl.to f19 ?_
    rw [members_succ, if_pos (by simpa [bitN] using c8)]
   ·first | omega | (simp; omega)
   ·show n.toNat - ((i + 1)) < n.toNat - i
    omega
  ·
   replace c8 := of_decide_eq_false c8
   refine zr<|zw<|U<|zg<|v_mvI X X<|v_add X X t_om X<|v_asI X X<|Y ?_
   refine ⟨⟨i + 1, v_5, o_5, h1⟩, ⟨rfl, rfl, trivial⟩, ?_, ⟨le2, st3, ?_, ?_⟩, ?_⟩
   ·exact zH
   ·refine OSl.to hO_5 ?_
    rw [members_succ, if_neg (by simpa [bitN] using c8), List.append_nil]
   ·first | omega | (simp; omega)
   ·show n.toNat - ((i + 1)) < n.toNat - i
    omega
 ·
  replace c7 := of_decide_eq_false c7
  refine zL<|ze<|ze<|zF<|U<|W.sr<|v_move (v := v_5) X X<|v_assign (v := v_5) X X<|Y<|zo<|za Tryz.results67 ?_
  obtain ⟨h21, le22, f23, st24⟩ := OSl.freeze (k := 0) st3 hO_5 rfl (by have q_ := members_len s i; first | omega | (simp only [List.length_append, List.length_cons, List.length_nil]; omega))
  refine ⟨h21, _, rfl, st24.done, ?_⟩
  refine ⟨_, rfl, Sl.to f23 ?_⟩
  rw [show n.toNat = i by omega]
set_option maxRecDepth 4000 in
theorem c_postilref07_Ask {h : Heap} {w : World} (hs : Sub h w) {p : Poll} {p_v0 : Value} (p_f0 : Sl LChapter h p_v0 p.text.chapters) {p_v1 : Value} (p_f1 : Sl LRule h p_v1 p.lexicon.rules) {p_v2 : Value} (p_f2 : Sl LDecision h p_v2 p.lexicon.decisions) {p_v3 : Value} (p_f3 : Sl LQuestion h p_v3 p.questions) {p_v4 : Value} (p_f4 : Sl LVoter h p_v4 p.voters) : Calls Tryz.prog 23 #[.agg #[p_v0, p_v1, p_v2, p_v3, p_v4]] w (Rets h w (fun h' _ res_ => ∃ u0, res_ = .tuple #[u0, .int .i64 (allE p true)] ∧ Sl LInt h' u0 ((askR7 p)))) := by
 refine zz (n := 45) (args := [.agg #[p_v0, p_v1, p_v2, p_v3, p_v4]]) Tryz.func23 X X X ?_
 have st0 : St h w h w [] := St.start hs
 have p_f0_b := p_f0.le
 have p_f1_b := p_f1.le
 have p_f2_b := p_f2.le
 have p_f3_b := p_f3.le
 have p_f4_b := p_f4.le
 refine W.sr<|zy st0 (cs := [p_v0, p_v1, p_v2, p_v3, p_v4]) X X X ?_
 intro b1 w2 h3 le4 hc5 st6
 refine v_asL X X<|v_asI X X<|Y<|W.sr<|v_load_call st6.sub hc5 X Tryz.isAgg32 Tryz.sizeOf32 X X<|zi st6 X X X Tryz.call56 X (c_postilref07_some st6.sub (p := p) (p_f0.up le4) (p_f1.up le4) (p_f2.up le4) (p_f3.up le4) (p_f4.up le4) _) ?_
 intro r7 w8 h9 le10 st11 q12
 obtain ⟨v13, rfl, f14⟩ := q12
 have f14_b := f14.le
 refine v_mvT X X<|v_extract (v := v13) X X X<|v_extract (v := (.int _ _)) X X X<|v_assign (v := v13) X X<|v_asI X X<|Y<|zf<|W.sr<|v_mvI X X<|v_neq X X X<|Y ?_
 refine zh rfl (fun c15 => ?_) (fun c15 => ?_)
 ·
  replace c15 := of_decide_eq_true c15
  refine W.sr<|v_mvI X X<|v_asL X X<|v_asI X X<|Y<|zo<|E<|zV Tryz.results23 ?_
  refine ⟨h9, _, rfl, st11.done, ?_⟩
  refine ⟨_, tup2 rfl (zB ?_), Sl.to (Sl.nil _ _) ?_⟩
  all_goals first | exact hz0.symm | (rw [askR7, if_pos hz0, show 2 ^ p.questions.length = s by omega]; done) | simp_all [askR7]
 ·
  replace c15 := of_decide_eq_false c15
  refine zr<|U<|zf ?_
  have hz0 : allE p true = 0 := by simpa using c15
  obtain ⟨hk1, hk2, hk3, hk4⟩ := all_ok hz0
  have hk5 := List.length_pos_iff.2 hk3
  have hk6 : (allL p true).length = (truthsL p).length := by rw [hk4]
  have hk7 := truths_le (check_ok hk1).2
  have hk8 := poll_len (check_ok hk1).2
  refine zg<|v_asL X X<|Y<|W.sr<|v_asB X X<|Y<|zf<|W.sr<|v_asI X X<|Y<|zs ?_
  refine zG [6, 7, 8, 9, 18, 19, 20, 21, 22, 23, 24, 25, 26, 27, 28, 29, 30, 31, 32, 33, 34, 35, 36, 37, 38, 39, 40, 41, 42, 43] (G := Nat × Value × Heap) (fun ⟨s, v_6, h16⟩ => [(6, v_6), (7, .bool (askK (truthsL p) p.questions.length s).isSome), (8, .int .i64 (s : Int))]) (fun ⟨s, v_6, h16⟩ w' => Le h9 h16 ∧ St h w h16 w' [] ∧ (Sl LInt h16 v_6 (((askK (truthsL p) p.questions.length s).getD []))) ∧ (s ≤ 2 ^ p.questions.length)) (fun ⟨s, v_6, h16⟩ => 2 ^ p.questions.length - s) ⟨0, (.slice none 0 0), h9⟩ ⟨rfl, rfl, rfl, trivial⟩ ⟨Le.refl _, st11, (Sl.to (Sl.nil LInt h9) (by rfl)), zK⟩ ?_
  rintro ⟨s, v_6, h16⟩ _ w19 ⟨le17, st18, hF_6, hs⟩
  have hpw := pow_le (n := p.questions.length) (by omega)
  refine zf<|W.sr<|v_mvI X X<|v_field_addr X Tryz.underlying32 X Tryz.sizeOf29 X X<|v_load_cells1 (j := 3) st18.sub (hc5.up (le10.trans le17)) X X X Tryz.isAgg29 X<|v_len (p_f3.up ((le4.trans le10).trans le17)) X Tryz.underlying29 X ?_
  refine zk rfl rfl (r_shl1 rfl rfl (by omega) (by omega)) ?_
  refine v_lss X X X<|Y ?_
  refine zh rfl (fun c20 => ?_) (fun c20 => ?_)
  ·
   replace c20 := of_decide_eq_true c20
   refine zr<|U<|zf<|zs<|W.sr<|v_mvI X X<|v_field_addr X Tryz.underlying32 X Tryz.sizeOf29 X X<|v_load_cells1 (j := 3) st18.sub (hc5.up (le10.trans le17)) X X X Tryz.isAgg29 X<|v_len (p_f3.up ((le4.trans le10).trans le17)) X Tryz.underlying29 X ?_
   refine zi st18 rfl rfl rfl Tryz.call67 rfl (c_postilref07_members st18.sub _ _ (by have q_ := pow_le (n := p.questions.length) (by omega); omega) (by omega)) ?_
   intro r21 w22 h23 le24 st25 q26
   obtain ⟨v27, e29, f28⟩ := q26
   rw [← e29] at f28
   have f28_b := f28.le
   refine v_assign (v := r21) X X<|Y<|W.sr<|v_mvB X X<|v_not X X<|v_mvB X X ?_
   refine zx (d := 33) rfl (fun g30 => ?_) (fun g30 => ?_)
   ·
    refine Z X X X X X<|Z X X X X X<|Z X X X X X<|v_pickT (v := (.bool _)) X X X<|v_mvB X X<|M X X (d := 38) X<|v_move (v := v13) X X<|M X X (d := 38) X<|v_move (v := r21) X X<|M X X (d := 38) X ?_
    refine zi st25 rfl rfl rfl Tryz.call68 rfl (c_postilref07_tells st25.sub (f14.up (le17.trans le24)) f28 (by intro t ht_ k hk_; have q1 := members_mem hk_; rw [hk4] at ht_; rw [truth_len ht_]; omega)) ?_
    intro r31 w32 h33 le34 st35 q36
    obtain rfl := q36
    refine v_pickT (v := (.bool _)) X X X<|Y ?_
    refine zh rfl (fun c37 => ?_) (fun c37 => ?_)
    ·
     refine zg<|v_move (v := r21) X X<|v_assign (v := r21) X X<|v_asB X X<|zt<|zw<|U<|zg<|v_mvI X X<|v_add X X t_om X<|v_asI X X<|Y ?_
     refine ⟨⟨s + 1, r21, h33⟩, ⟨rfl, ?_, rfl, trivial⟩, ?_, ⟨((le17.trans le24).trans le34), st35, ?_, ?_⟩, ?_⟩
     ·exact zj (by rw [askK]; cases e : askK (truthsL p) p.questions.length s <;> simp_all)
     ·exact zH
     ·refine Sl.to (f28.up le34) ?_
      rw [askK]; cases e : askK (truthsL p) p.questions.length s <;> simp_all
     ·first | omega | (simp; omega)
     ·show 2 ^ p.questions.length - ((s + 1)) < 2 ^ p.questions.length - s
      omega
    ·
     refine zr<|zw<|U<|zg<|v_mvI X X<|v_add X X t_om X<|v_asI X X<|Y ?_
     refine ⟨⟨s + 1, v_6, h33⟩, ⟨rfl, ?_, rfl, trivial⟩, ?_, ⟨((le17.trans le24).trans le34), st35, ?_, ?_⟩, ?_⟩
     ·exact zj (by rw [askK]; cases e : askK (truthsL p) p.questions.length s <;> simp_all)
     ·exact zH
     ·refine Sl.to (hF_6.up (le24.trans le34)) ?_
      rw [askK]; cases e : askK (truthsL p) p.questions.length s <;> simp_all
     ·first | omega | (simp; omega)
     ·show 2 ^ p.questions.length - ((s + 1)) < 2 ^ p.questions.length - s
      omega
   ·
    refine M X X (d := 33) X<|v_move (v := r21) X X<|M X X (d := 33) X<|v_move (v := v_6) X X<|M X X (d := 33) X<|zi st25 X X X Tryz.call48 X (c_postilref07_Before st25.sub f28 (hF_6.up le24)) ?_
    intro r38 w39 h40 le41 st42 q43
    obtain rfl := q43
    refine v_pickF (v := (.bool _)) X X X<|v_mvB X X ?_
    refine zx (d := 38) rfl (fun g44 => ?_) (fun g44 => ?_)
    ·
     refine M X X (d := 38) X<|v_move (v := v13) X X<|M X X (d := 38) X<|v_move (v := r21) X X<|M X X (d := 38) X ?_
     refine zi st42 rfl rfl rfl Tryz.call68 rfl (c_postilref07_tells st42.sub (f14.up ((le17.trans le24).trans le41)) (f28.up le41) (by intro t ht_ k hk_; have q1 := members_mem hk_; rw [hk4] at ht_; rw [truth_len ht_]; omega)) ?_
     intro r45 w46 h47 le48 st49 q50
     obtain rfl := q50
     refine v_pickT (v := (.bool _)) X X X<|Y ?_
     refine zh rfl (fun c51 => ?_) (fun c51 => ?_)
     ·
      refine zg<|v_move (v := r21) X X<|v_assign (v := r21) X X<|v_asB X X<|zt<|zw<|U<|zg<|v_mvI X X<|v_add X X t_om X<|v_asI X X<|Y ?_
      refine ⟨⟨s + 1, r21, h47⟩, ⟨rfl, ?_, rfl, trivial⟩, ?_, ⟨(((le17.trans le24).trans le41).trans le48), st49, ?_, ?_⟩, ?_⟩
      ·exact zj (by rw [askK]; cases e : askK (truthsL p) p.questions.length s <;> simp_all)
      ·exact zH
      ·refine Sl.to (f28.up (le41.trans le48)) ?_
       rw [askK]; cases e : askK (truthsL p) p.questions.length s <;> simp_all
      ·first | omega | (simp; omega)
      ·show 2 ^ p.questions.length - ((s + 1)) < 2 ^ p.questions.length - s
       omega
     ·
      refine zr<|zw<|U<|zg<|v_mvI X X<|v_add X X t_om X<|v_asI X X<|Y ?_
      refine ⟨⟨s + 1, v_6, h47⟩, ⟨rfl, ?_, rfl, trivial⟩, ?_, ⟨(((le17.trans le24).trans le41).trans le48), st49, ?_, ?_⟩, ?_⟩
      ·exact zj (by rw [askK]; cases e : askK (truthsL p) p.questions.length s <;> simp_all)
      ·exact zH
      ·refine Sl.to (hF_6.up ((le24.trans le41).trans le48)) ?_
       rw [askK]; cases e : askK (truthsL p) p.questions.length s <;> simp_all
      ·first | omega | (simp; omega)
      ·show 2 ^ p.questions.length - ((s + 1)) < 2 ^ p.questions.length - s
       omega
    ·
     refine Z X X X X X<|Z X X X X X<|Z X X X X X<|v_pickF (v := (.bool _)) X X X<|Y ?_
     refine zh rfl (fun c52 => ?_) (fun c52 => ?_)
     ·
      cases c52
     ·
      refine zr<|zw<|U<|zg<|v_mvI X X<|v_add X X t_om X<|v_asI X X<|Y ?_
      refine ⟨⟨s + 1, v_6, h40⟩, ⟨rfl, ?_, rfl, trivial⟩, ?_, ⟨((le17.trans le24).trans le41), st42, ?_, ?_⟩, ?_⟩
      ·exact zj (by rw [askK]; cases e : askK (truthsL p) p.questions.length s <;> simp_all)
      ·exact zH
      ·refine Sl.to (hF_6.up (le24.trans le41)) ?_
       rw [askK]; cases e : askK (truthsL p) p.questions.length s <;> simp_all
      ·first | omega | (simp; omega)
      ·show 2 ^ p.questions.length - ((s + 1)) < 2 ^ p.questions.length - s
       omega
  ·
   replace c20 := of_decide_eq_false c20
   refine zL<|ze<|ze<|zF<|U<|W.sr<|v_move (v := v_6) X X<|v_assign (v := v_6) X X<|v_asI X X<|Y<|zo<|zV Tryz.results23 ?_
   refine ⟨h16, _, rfl, st18.done, ?_⟩
   refine ⟨_, tup2 rfl (zB ?_), Sl.to hF_6 ?_⟩
   all_goals first | exact hz0.symm | (rw [askR7, if_pos hz0, show 2 ^ p.questions.length = s by omega]; done) | simp_all [askR7]
set_option maxRecDepth 4000 in
theorem c_postilref07_Next {h : Heap} {w : World} (hs : Sub h w) {p : Poll} {p_v0 : Value} (p_f0 : Sl LChapter h p_v0 p.text.chapters) {p_v1 : Value} (p_f1 : Sl LRule h p_v1 p.lexicon.rules) {p_v2 : Value} (p_f2 : Sl LDecision h p_v2 p.lexicon.decisions) {p_v3 : Value} (p_f3 : Sl LQuestion h p_v3 p.questions) {p_v4 : Value} (p_f4 : Sl LVoter h p_v4 p.voters) : Calls Tryz.prog 25 #[.agg #[p_v0, p_v1, p_v2, p_v3, p_v4]] w (Rets h w (fun _ _ res_ => res_ = .tuple #[.int .i64 ((nextR p)), .int .i64 (nextE p)])) := by
 refine zz (n := 35) (args := [.agg #[p_v0, p_v1, p_v2, p_v3, p_v4]]) Tryz.func25 X X X ?_
 have st0 : St h w h w [] := St.start hs
 have p_f0_b := p_f0.le
 have p_f1_b := p_f1.le
 have p_f2_b := p_f2.le
 have p_f3_b := p_f3.le
 have p_f4_b := p_f4.le
 refine W.sr<|zy st0 (cs := [p_v0, p_v1, p_v2, p_v3, p_v4]) X X X ?_
 intro b1 w2 h3 le4 hc5 st6
 refine v_asI X X<|v_asI X X<|Y<|W.sr<|v_load_call st6.sub hc5 X Tryz.isAgg32 Tryz.sizeOf32 X X<|zi st6 X X X Tryz.call56 X (c_postilref07_some st6.sub (p := p) (p_f0.up le4) (p_f1.up le4) (p_f2.up le4) (p_f3.up le4) (p_f4.up le4) _) ?_
 intro r7 w8 h9 le10 st11 q12
 obtain ⟨v13, rfl, f14⟩ := q12
 have f14_b := f14.le
 refine v_mvT X X<|v_extract (v := v13) X X X<|v_extract (v := (.int _ _)) X X X<|v_assign (v := v13) X X<|v_asI X X<|Y<|zf<|W.sr<|v_mvI X X<|v_neq X X X<|Y ?_
 refine zh rfl (fun c15 => ?_) (fun c15 => ?_)
 ·
  replace c15 := of_decide_eq_true c15
  refine W.sr<|v_mvI X X<|v_asI X X<|v_asI X X<|Y<|zo<|E<|zV Tryz.results25 ?_
  refine ⟨h9, _, rfl, st11.done, ?_⟩
  refine tup2 (zB ?_) (zB ?_)
  all_goals simp_all [nextE, nextR]
 ·
  replace c15 := of_decide_eq_false c15
  refine zr<|U<|zf<|zf ?_
  have hz0 : allE p true = 0 := by simpa using c15
  obtain ⟨hk1, hk2, hk3, hk4⟩ := all_ok hz0
  have hk5 := List.length_pos_iff.2 hk3
  have hk6 : (allL p true).length = (truthsL p).length := by rw [hk4]
  have hk7 := truths_le (check_ok hk1).2
  have hk8 := poll_len (check_ok hk1).2
  refine zg<|v_move (v := v13) X X<|v_len f14 X Tryz.underlying91 X<|v_eql X X X<|Y ?_
  refine zh rfl (fun c16 => ?_) (fun c16 => ?_)
  ·
   replace c16 := of_decide_eq_true c16
   refine zf ?_
   have hl1 : (truthsL p).length = 1 := by have q_ := c16; omega
   refine zg<|v_asI X X<|v_asI X X<|Y<|zo<|E<|zV Tryz.results25 ?_
   refine ⟨h9, _, rfl, st11.done, ?_⟩
   refine tup2 (zB ?_) (zB ?_)
   all_goals simp_all [nextE, nextR]
  ·
   replace c16 := of_decide_eq_false c16
   refine zr<|U<|zf ?_
   have hl1 : ¬ (truthsL p).length = 1 := by have q_ := c16; omega
   refine zg<|v_asI X X<|Y<|zf<|W.sr<|v_asI X X<|Y<|zs ?_
   refine zG [6, 7, 19, 20, 21, 22, 23, 24, 25, 26, 27, 28, 29, 30, 31, 32, 33] (G := Nat × Heap) (fun ⟨k, h17⟩ => [(6, .int .i64 (nextK (truthsL p) k : Int)), (7, .int .i64 ((k : Int) + 1))]) (fun ⟨k, h17⟩ w' => Le h9 h17 ∧ St h w h17 w' [] ∧ (k + 1 ≤ p.questions.length ∨ k = 0)) (fun ⟨k, h17⟩ => p.questions.length - k) ⟨0, h9⟩ ⟨rfl, (zB (by omega)), trivial⟩ ⟨Le.refl _, st11, zK⟩ ?_
   rintro ⟨k, h17⟩ _ w20 ⟨le18, st19, hk⟩
   refine zf<|W.sr<|v_mvI X X<|v_field_addr X Tryz.underlying32 X Tryz.sizeOf29 X X<|v_load_cells1 (j := 3) st19.sub (hc5.up (le10.trans le18)) X X X Tryz.isAgg29 X<|v_len (p_f3.up ((le4.trans le10).trans le18)) X Tryz.underlying29 X<|v_lss X X X<|Y ?_
   refine zh rfl (fun c21 => ?_) (fun c21 => ?_)
   ·
    replace c21 := of_decide_eq_true c21
    refine zr<|U<|zf<|zs<|W.sr<|v_move (v := v13) X X<|v_mvI X X ?_
    refine zi st19 rfl rfl rfl Tryz.call73 rfl (c_postilref07_worst st19.sub (f14.up le18) _ (by omega) (by intro t ht_; rw [hk4] at ht_; rw [truth_len ht_]; have q_ := nextK_le (truthsL p) k; omega) (by omega)) ?_
    intro r22 w23 h24 le25 st26 q27
    obtain rfl := q27
    refine v_move (v := v13) X X<|v_mvI X X ?_
    refine zi st26 rfl rfl rfl Tryz.call73 rfl (c_postilref07_worst st26.sub (f14.up (le18.trans le25)) _ (by omega) (by intro t ht_; rw [hk4] at ht_; rw [truth_len ht_]; have q_ := nextK_le (truthsL p) k; omega) (by omega)) ?_
    intro r28 w29 h30 le31 st32 q33
    obtain rfl := q33
    refine v_lss X X X<|Y ?_
    refine zh rfl (fun c34 => ?_) (fun c34 => ?_)
    ·
     replace c34 := of_decide_eq_true c34
     refine zg<|v_mvI X X<|v_asI X X<|zt<|zw<|U<|zg<|v_mvI X X<|v_add X X t_om X<|v_asI X X<|Y ?_
     refine ⟨⟨k + 1, h30⟩, ⟨?_, ?_, trivial⟩, ?_, ⟨((le18.trans le25).trans le31), st32, ?_⟩, ?_⟩
     ·exact zB (by have c_ := c34; rw [hk4, Int.toNat_natCast, show ((k : Int) + 1).toNat = k + 1 by omega] at c_; rw [nextK]; split <;> first | rfl | omega | (exfalso; omega))
     ·exact zB (by omega)
     ·exact zH
     ·first | omega | (simp; omega)
     ·show p.questions.length - ((k + 1)) < p.questions.length - k
      omega
    ·
     replace c34 := of_decide_eq_false c34
     refine zr<|zw<|U<|zg<|v_mvI X X<|v_add X X t_om X<|v_asI X X<|Y ?_
     refine ⟨⟨k + 1, h30⟩, ⟨?_, ?_, trivial⟩, ?_, ⟨((le18.trans le25).trans le31), st32, ?_⟩, ?_⟩
     ·exact zB (by have c_ := c34; rw [hk4, Int.toNat_natCast, show ((k : Int) + 1).toNat = k + 1 by omega] at c_; rw [nextK]; split <;> first | rfl | omega | (exfalso; omega))
     ·exact zB (by omega)
     ·exact zH
     ·first | omega | (simp; omega)
     ·show p.questions.length - ((k + 1)) < p.questions.length - k
      omega
   ·
    replace c21 := of_decide_eq_false c21
    refine zL<|ze<|ze<|zF<|U<|W.sr<|v_mvI X X<|v_asI X X<|v_asI X X<|Y<|zo<|zV Tryz.results25 ?_
    refine ⟨h17, _, rfl, st19.done, ?_⟩
    refine tup2 (zB ?_) (zB ?_)
    all_goals have hne : nextE p = 0 := by simp_all [nextE]
    ·rw [nextR, if_pos hne, show p.questions.length - 1 = k by omega]
    ·exact hne.symm
end Go.Pk

namespace Go.Pk
open Go Go.RowKit Go.Proofs
set_option maxRecDepth 4000 in
theorem c_postilref07_Tally {h : Heap} {w : World} (hs : Sub h w) {p : Poll} {p_v0 : Value} (p_f0 : Sl LChapter h p_v0 p.text.chapters) {p_v1 : Value} (p_f1 : Sl LRule h p_v1 p.lexicon.rules) {p_v2 : Value} (p_f2 : Sl LDecision h p_v2 p.lexicon.decisions) {p_v3 : Value} (p_f3 : Sl LQuestion h p_v3 p.questions) {p_v4 : Value} (p_f4 : Sl LVoter h p_v4 p.voters) (question : Int) : Calls Tryz.prog 20 #[.agg #[p_v0, p_v1, p_v2, p_v3, p_v4], .int .i64 question] w (Rets h w (fun h' _ res_ => ∃ u0, res_ = .tuple #[u0, .int .i64 (tallyE p question)] ∧ Sl LInt h' u0 ((tallyR p question)))) := by
 refine zz (n := 55) (args := [.agg #[p_v0, p_v1, p_v2, p_v3, p_v4], .int .i64 question]) Tryz.func20 X X X ?_
 have st0 : St h w h w [] := St.start hs
 have p_f0_b := p_f0.le
 have p_f1_b := p_f1.le
 have p_f2_b := p_f2.le
 have p_f3_b := p_f3.le
 have p_f4_b := p_f4.le
 refine W.sr<|zy st0 (cs := [p_v0, p_v1, p_v2, p_v3, p_v4]) X X X ?_
 intro b1 w2 h3 le4 hc5 st6
 refine v_asL X X<|v_asI X X<|Y<|zf<|W.sr<|v_load_call st6.sub hc5 X Tryz.isAgg32 Tryz.sizeOf32 X X<|zi st6 X X X Tryz.call59 X (c_postilref07_Check st6.sub (p := p) (p_f0.up le4) (p_f1.up le4) (p_f2.up le4) (p_f3.up le4) (p_f4.up le4)) ?_
 intro r7 w8 h9 le10 st11 q12
 obtain rfl := q12
 refine v_asI X X<|Y<|W.sr<|v_mvI X X<|v_neq X X X<|Y ?_
 refine zh rfl (fun c13 => ?_) (fun c13 => ?_)
 ·
  replace c13 := of_decide_eq_true c13
  refine W.sr<|v_mvI X X<|v_asL X X<|v_asI X X<|Y<|zo<|E<|zV Tryz.results20 ?_
  refine ⟨h9, _, rfl, st11.done, ?_⟩
  refine ⟨_, tup2 rfl (zB ?_), Sl.to (Sl.nil _ _) ?_⟩
  all_goals first | (simp_all [tallyR, tallyE]; done) | (rw [tallyR, if_pos hte, hq, List.take_of_length_le (by omega)]; rfl)
 ·
  replace c13 := of_decide_eq_false c13
  refine zr<|U<|zf<|W.sr<|v_mvI X X<|v_field_addr X Tryz.underlying32 X Tryz.sizeOf29 X X<|v_load_cells1 (j := 3) st11.sub (hc5.up le10) X X X Tryz.isAgg29 X<|v_len (p_f3.up (le4.trans le10)) X Tryz.underlying29 X<|v_sub X X t_om X<|zi st11 X X X Tryz.call57 X (zZ st11.sub _ _ _) ?_
  intro r14 w15 h16 le17 st18 q19
  obtain rfl := q19
  refine v_not X X<|Y ?_
  refine zh rfl (fun c20 => ?_) (fun c20 => ?_)
  ·
   refine W.sr<|v_asL X X<|v_asI X X<|Y<|zo<|E<|zV Tryz.results20 ?_
   refine ⟨h16, _, rfl, st18.done, ?_⟩
   refine ⟨_, tup2 rfl (zB ?_), Sl.to (Sl.nil _ _) ?_⟩
   all_goals first | (simp_all [tallyR, tallyE]; done) | (rw [tallyR, if_pos hte, hq, List.take_of_length_le (by omega)]; rfl)
  ·
   refine zr<|U<|zf ?_
   have hk1 : checkP p = 0 := by simpa using c13
   have hin : inB question 0 ((p.questions.length : Int) - 1) = true := by simpa using c20
   have hin2 : 0 ≤ question ∧ question < (p.questions.length : Int) := by simp only [inB, Bool.and_eq_true, decide_eq_true_eq] at hin; omega
   obtain ⟨q, hq⟩ : ∃ q, p.questions[question.toNat]? = some q := ⟨_, List.getElem?_eq_getElem (by omega)⟩
   have hpb := (check_ok hk1).2
   have hq0 := poll_quest hpb hq
   have hpl := poll_len hpb
   have hte : tallyE p question = 0 := by rw [tallyE, if_neg (by simp [hk1]), if_pos hin]
   refine zg<|v_field_addr X Tryz.underlying32 X Tryz.sizeOf29 X X<|v_load_cells1 (j := 3) st18.sub (hc5.up (le10.trans le17)) X X X Tryz.isAgg29 X<|v_mvI X X ?_
   obtain ⟨b21, o22, _, he24, hc23, hr_q⟩ := Sl.elem (p_f3.up ((le4.trans le10).trans le17)) hq
   obtain ⟨v25, rfl, f26⟩ := hr_q
   have f26_b := f26.le
   refine zk rfl rfl (zE he24 rfl rfl (hk := (show _ = ((question.toNat : Nat) : Int) by omega)) (hu := Tryz.underlying29) (hz := Tryz.sizeOf84)) ?_
   refine v_field_addr X Tryz.underlying84 X Tryz.sizeOf82 X X<|v_load_cells1 (j := 3) st18.sub hc23 X X X Tryz.isAgg82 X<|v_len f26 X Tryz.underlying82 X ?_
   refine OpsL.makeInts (m := q.heads.length) st18 rfl Tryz.underlying42 Tryz.info3 rfl rfl rfl rfl (by show 8 * (q.heads.length) ≤ 281474976710656; omega) (by omega) ?_
   intro v27 o28 w29 f30 st31
   refine v_assign (v := v27) X X<|Y<|zf<|W.sr<|v_asI X X<|Y<|zs ?_
   refine zG [8, 9, 30, 31, 32, 33, 34, 35, 36, 37, 38, 39, 40, 41, 42, 43, 44, 45, 46, 47, 48, 49, 50, 51, 52, 53] (G := Nat × List (Nat × Obj) × Heap) (fun ⟨i, o_7, h32⟩ => [(8, .int .i64 (i : Int))]) (fun ⟨i, o_7, h32⟩ w' => Le h16 h32 ∧ St h w h32 w' [o_7] ∧ (OSl LInt 3 h32 v27 ((tallyL (p.voters.take i) question.toNat q.heads.length)) o_7) ∧ (i ≤ p.voters.length)) (fun ⟨i, o_7, h32⟩ => p.voters.length - i) ⟨0, o28, h16⟩ ⟨rfl, trivial⟩ ⟨Le.refl _, st31, (OSl.to f30 (by exact tally_zero _ _)), zK⟩ ?_
   rintro ⟨i, o_7, h32⟩ _ w35 ⟨le33, st34, hO_7, hi⟩
   refine zf<|W.sr<|v_mvI X X<|v_field_addr X Tryz.underlying32 X Tryz.sizeOf30 X X<|v_load_cells1 (j := 4) st34.sub (hc5.up ((le10.trans le17).trans le33)) X X X Tryz.isAgg30 X<|v_len (p_f4.up (((le4.trans le10).trans le17).trans le33)) X Tryz.underlying30 X<|v_lss X X X<|Y ?_
   refine zh rfl (fun c36 => ?_) (fun c36 => ?_)
   ·
    replace c36 := of_decide_eq_true c36
    refine zr<|U<|zf<|zs<|W.sr<|v_field_addr X Tryz.underlying32 X Tryz.sizeOf30 X X<|v_load_cells1 (j := 4) st34.sub (hc5.up ((le10.trans le17).trans le33)) X X X Tryz.isAgg30 X<|v_mvI X X ?_
    have hv : ∃ y_, (p.voters)[i]? = some y_ := ⟨_, List.getElem?_eq_getElem (by omega)⟩
    obtain ⟨v, hv⟩ := hv
    obtain ⟨b37, o38, _, he40, hc39, hr_v⟩ := Sl.elem (p_f4.up (((le4.trans le10).trans le17).trans le33)) hv
    obtain ⟨v41, rfl, f42⟩ := hr_v
    have f42_b := f42.le
    refine v_index_el he40 X X (hk := X) (hu := Tryz.underlying30) (hz := Tryz.sizeOf79) X<|v_field_addr X Tryz.underlying79 X Tryz.sizeOf42 X X<|v_load_cells1 (j := 2) st34.sub hc39 X X X Tryz.isAgg42 X<|v_mvI X X ?_
    have ha : ∃ y_, (v.votes)[question.toNat]? = some y_ := ⟨_, List.getElem?_eq_getElem (by have q1 := (poll_voter hpb (List.mem_of_getElem? hv)).2.2.1; omega)⟩
    obtain ⟨a, ha⟩ := ha
    obtain ⟨b43, o44, _, he46, hc45, hr_a⟩ := Sl.elem f42 ha
    obtain rfl := hr_a
    refine zk rfl rfl (zE he46 rfl rfl (hk := (show _ = ((question.toNat : Nat) : Int) by omega)) (hu := Tryz.underlying42) (hz := Tryz.sizeOf3)) ?_
    refine v_load_cells1 (j := 0) st34.sub hc45 X X X Tryz.isAgg3 X<|v_asI X X<|Y<|W.sr<|v_mvI X X<|v_geq X X X<|Y ?_
    refine zh rfl (fun c47 => ?_) (fun c47 => ?_)
    ·
     replace c47 := of_decide_eq_true c47
     have ha0 := c47
     have hvk := votes_in (poll_voter hpb (List.mem_of_getElem? hv)).2.2.2 ha hq
     have htl := tally_len (p.voters.take i) question.toNat q.heads.length
     refine zg<|v_move (v := v27) X X<|v_mvI X X ?_
     have hx : ∃ y_, ((tallyL (p.voters.take i) question.toNat q.heads.length))[a.toNat]? = some y_ := ⟨_, List.getElem?_eq_getElem (by omega)⟩
     obtain ⟨x, hx⟩ := hx
     obtain ⟨b48, o49, cur50, _, e53, he51, hr_x, hc52⟩ := OSl.elem hO_7 hx
     subst e53
     obtain rfl := hr_x
     refine zk rfl rfl (zE he51 rfl rfl (hk := (show _ = ((a.toNat : Nat) : Int) by omega)) (hu := Tryz.underlying42) (hz := Tryz.sizeOf3)) ?_
     refine zk X X (r_load_cur1 (j := 0) (st34.get (k := 0) X) hc52 X X X Tryz.isAgg3) ?_
     refine zk rfl rfl (r_add rfl rfl (by have q1 := tally_small hx; rw [List.length_take] at q1; omega)) ?_
     obtain ⟨b54, o55, cur56, _, e59, he57, hr_x, hc58⟩ := OSl.elem hO_7 hx
     obtain ⟨hb60, hc61⟩ : b48 = b54 ∧ cur50 = cur56 := by cases e59; exact ⟨rfl, rfl⟩
     subst hb60
     subst hc61
     obtain rfl := hr_x
     refine zk rfl rfl (zE he57 rfl rfl (hk := (show _ = ((a.toNat : Nat) : Int) by omega)) (hu := Tryz.underlying42) (hz := Tryz.sizeOf3)) ?_
     refine OpsL.storeEl1 (k := 0) st34 hO_7 rfl (by omega) he57 rfl rfl (rfl) Tryz.sizeOf3 ?_
     intro o62 w63 _ e64 f65 st66
     subst e64
     refine zt<|zw<|U<|zg<|v_mvI X X<|v_add X X t_om X<|v_asI X X<|Y ?_
     refine ⟨⟨i + 1, o62, h32⟩, ⟨rfl, trivial⟩, ?_, ⟨le33, st66, ?_, ?_⟩, ?_⟩
     ·exact zH
     ·refine OSl.to f65 ?_
      exact tally_set hv ha (by omega) hx
     ·first | omega | (simp; omega)
     ·show p.voters.length - ((i + 1)) < p.voters.length - i
      omega
    ·
     replace c47 := of_decide_eq_false c47
     refine zr<|zw<|U<|zg<|v_mvI X X<|v_add X X t_om X<|v_asI X X<|Y ?_
     refine ⟨⟨i + 1, o_7, h32⟩, ⟨rfl, trivial⟩, ?_, ⟨le33, st34, ?_, ?_⟩, ?_⟩
     ·exact zH
     ·refine OSl.to hO_7 ?_
      exact (tally_skip hv ha (by have q_ := c47; omega)).symm
     ·first | omega | (simp; omega)
     ·show p.voters.length - ((i + 1)) < p.voters.length - i
      omega
   ·
    replace c36 := of_decide_eq_false c36
    refine zL<|ze<|ze<|zF<|U<|W.sr<|v_move (v := v27) X X<|v_assign (v := v27) X X<|v_asI X X<|Y<|zo<|zV Tryz.results20 ?_
    obtain ⟨h67, le68, f69, st70⟩ := OSl.freeze (k := 0) st34 hO_7 rfl (by rw [tally_len]; omega)
    refine ⟨h67, _, rfl, st70.done, ?_⟩
    refine ⟨_, tup2 rfl (zB ?_), Sl.to f69 ?_⟩
    all_goals first | (simp_all [tallyR, tallyE]; done) | (rw [tallyR, if_pos hte, hq, List.take_of_length_le (by omega)]; rfl)
end Go.Pk
