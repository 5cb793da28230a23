/- A PART OF THE PROOF (printed by a program of the author's own): contracts of functions, each walked once. -/
import Derived.Test.YtngmpkoobdkeiaaGreatDoorA09
namespace Go.Pk
open Go Go.RowKit Go.Proofs
def _root_.Go.Proofs.Tryz.glob0 : List Value := [.bool false, .bool false, .bool false, .bool false, .nilFunc, .bool true, .bool false, .bool true, .bool false, .func (.func 218) #[] #[], .bool true, .bool true, .bool true, .bool false, .func (.func 219) #[] #[], .bool false, .bool true, .bool true, .bool false, .func (.func 220) #[] #[], .bool false, .bool false, .bool false, .bool true, .func (.func 221) #[] #[]]
set_option maxRecDepth 4000 in
set_option maxHeartbeats 4000000 in
theorem c_stem_decided {h : Heap} {w : World} (hs : Sub h w) {t : Text} {t_v0 : Value} (t_f0 : Sl LChapter h t_v0 t.chapters) {d : Decision} (d_l2 : 0 ≤ d.kind ∧ d.kind ≤ 255) (d_l3 : d.form.length ≤ 281474976710656) (d_l7 : d.to.stem.length ≤ 281474976710656) (d_l8 : 0 ≤ d.to.mark ∧ d.to.mark ≤ 255) (K0 : Cells h 0 0 Tryz.glob0) (ht : textB t = true) : Calls Tryz.prog 53 #[.agg #[t_v0], .agg #[.int .i64 d.number, .int .u8 d.kind, strV d.form, .int .i64 d.at_.chapter, .int .i64 d.at_.line, .int .i64 d.at_.word, strV d.to.stem, .int .u8 d.to.mark, .int .i64 d.of_]] w (Rets h w (fun _ _ res_ => res_ = .bool (decisionB t d))) := by
  refine W.calls (n := 104) (args := [.agg #[t_v0], .agg #[.int .i64 d.number, .int .u8 d.kind, strV d.form, .int .i64 d.at_.chapter, .int .i64 d.at_.line, .int .i64 d.at_.word, strV d.to.stem, .int .u8 d.to.mark, .int .i64 d.of_]]) Tryz.func53 rfl rfl rfl ?_
  have st0 : St h w h w [] := St.start hs
  have t_f0_b := t_f0.le
  refine W.seq ?_
  refine W.region ?_
  refine OpsL.boxF st0 (cs := [t_v0]) rfl rfl rfl ?_
  intro b1 w2 h3 le4 hc5 st6
  refine OpsL.boxF st6 (cs := [.int .i64 (d.number), .int .u8 (d.kind), strV (d.form), .int .i64 (d.at_.chapter), .int .i64 (d.at_.line), .int .i64 (d.at_.word), strV (d.to.stem), .int .u8 (d.to.mark), .int .i64 (d.of_)]) rfl rfl rfl ?_
  intro b7 w8 h9 le10 hc11 st12
  refine OpsL.val rfl rfl (r_asB rfl) ?_
  refine OpsL.nil ?_
  refine Then.norm ?_
  refine W.seq ?_
  refine W.seq ?_
  refine W.region ?_
  refine OpsL.val rfl rfl (r_field_addr rfl Tryz.underlying56 rfl Tryz.sizeOf5 rfl) ?_
  refine OpsL.val rfl rfl (r_load_cells1 (j := 1) st12.sub hc11 rfl rfl rfl Tryz.isAgg5) ?_
  refine OpsL.val rfl rfl (r_conv_int rfl rfl Tryz.underlying3 (IntWalk.i64_in _ (by omega))) ?_
  refine OpsL.sliceF (L := LInt) (xs := [(d.kind)]) (cs := [.int .i64 (d.kind)]) st12 (Enc.cons (L := LInt) (vs := [.int .i64 (d.kind)]) (x := (d.kind)) (h := h9) (rfl) Enc.nil) rfl rfl rfl Tryz.underlying39 Tryz.info3 rfl rfl rfl (by kernel_rfl) ?_
  intro v13 w14 h17 le18 f15 st16
  refine OpsL.callF st16 rfl rfl rfl Tryz.call50 rfl (c_stem_in st16.sub _ _ f15) ?_
  intro r19 w20 h21 le22 st23 q24
  obtain rfl := q24
  refine OpsL.val rfl rfl (r_not rfl) ?_
  refine OpsL.val rfl rfl (r_mvB rfl) ?_
  refine OpsL.split (d := 15) rfl (fun g25 => ?_) (fun g25 => ?_)
  ·
    refine OpsL.skipped rfl rfl (d := 15) rfl rfl rfl ?_
    refine OpsL.skipped rfl rfl (d := 15) rfl rfl rfl ?_
    refine OpsL.skipped rfl rfl (d := 15) rfl rfl rfl ?_
    refine OpsL.skipped rfl rfl (d := 15) rfl rfl rfl ?_
    refine OpsL.skipped rfl rfl (d := 15) rfl rfl rfl ?_
    refine OpsL.val rfl rfl (r_pickT (v := (.bool _)) rfl rfl) ?_
    refine OpsL.nil ?_
    refine Then.norm ?_
    refine W.cond rfl (fun c26 => ?_) (fun c26 => ?_)
    ·
      refine W.seq ?_
      refine W.region ?_
      refine OpsL.val rfl rfl (r_asB rfl) ?_
      refine OpsL.nil ?_
      refine Then.norm ?_
      refine W.ret ?_
      refine Then.ret ?_
      -- return r1
      refine Post.ret1 Tryz.results53 ?_
      refine ⟨h21, _, rfl, st23.done, ?_⟩
      refine bool_eq ?_
      have q := g25
      simp only [inAll_one, inB, Bool.not_eq_true', Bool.and_eq_false_iff, decide_eq_false_iff_not] at q
      have q1 : d.kind ≠ 1 := by omega
      have q2 : d.kind ≠ 2 := by omega
      have q3 : d.kind ≠ 3 := by omega
      have q4 : d.kind ≠ 4 := by omega
      simp [decisionB, q1, q2, q3, q4]
    ·
      cases c26
  ·
    refine OpsL.guarded rfl rfl (d := 15) rfl ?_
    refine OpsL.val rfl rfl (r_field_addr rfl Tryz.underlying56 rfl Tryz.sizeOf3 rfl) ?_
    refine OpsL.guarded rfl rfl (d := 15) rfl ?_
    refine OpsL.val rfl rfl (r_load_cells1 (j := 0) st23.sub (hc11.up (le18.trans le22)) rfl rfl rfl Tryz.isAgg3) ?_
    refine OpsL.guarded rfl rfl (d := 15) rfl ?_
    refine OpsL.sliceF (L := LInt) (xs := [(d.number)]) (cs := [.int .i64 (d.number)]) st23 (Enc.cons (L := LInt) (vs := [.int .i64 (d.number)]) (x := (d.number)) (h := h21) (rfl) Enc.nil) rfl rfl rfl Tryz.underlying39 Tryz.info3 rfl rfl rfl (by kernel_rfl) ?_
    intro v27 w28 h31 le32 f29 st30
    refine OpsL.guarded rfl rfl (d := 15) rfl ?_
    refine OpsL.callF st30 rfl rfl rfl Tryz.call50 rfl (c_stem_in st30.sub _ _ f29) ?_
    intro r33 w34 h35 le36 st37 q38
    obtain rfl := q38
    refine OpsL.guarded rfl rfl (d := 15) rfl ?_
    refine OpsL.val rfl rfl (r_not rfl) ?_
    refine OpsL.val rfl rfl (r_pickF (v := (.bool _)) rfl rfl) ?_
    refine OpsL.nil ?_
    refine Then.norm ?_
    refine W.cond rfl (fun c39 => ?_) (fun c39 => ?_)
    ·
      refine W.seq ?_
      refine W.region ?_
      refine OpsL.val rfl rfl (r_asB rfl) ?_
      refine OpsL.nil ?_
      refine Then.norm ?_
      refine W.ret ?_
      refine Then.ret ?_
      -- return r2
      refine Post.ret1 Tryz.results53 ?_
      refine ⟨h35, _, rfl, st37.done, ?_⟩
      refine bool_eq ?_
      have q := c39
      simp only [inAll_one] at q
      simp_all [decisionB]
    ·
      refine W.skip ?_
      refine Then.norm ?_
      refine W.seq ?_
      rcases (show d.kind = 1 ∨ d.kind = 2 ∨ d.kind = 3 ∨ d.kind = 4 by have q := g25; simp [inAll, inB] at q; omega) with hk40 | hk40 | hk40 | hk40
      ·
        refine W.region ?_
        refine OpsL.val rfl rfl (r_field_addr rfl Tryz.underlying56 rfl Tryz.sizeOf5 rfl) ?_
        refine OpsL.val rfl rfl (r_load_cells1 (j := 1) st37.sub (hc11.up (((le18.trans le22).trans le32).trans le36)) rfl rfl rfl Tryz.isAgg5) ?_
        refine OpsL.val rfl rfl (r_index_arr rfl rfl (show _ = ((1 : Nat) : Int) by rw [hk40]; rfl) rfl Tryz.underlying165 Tryz.sizeOf164) ?_
        refine OpsL.val rfl rfl (r_load_cellsN (j := 5) st37.sub (K0.up (((((le4.trans le10).trans le18).trans le22).trans le32).trans le36)) (us := [.bool true, .bool false, .bool true, .bool false, .func (.func 218) #[] #[]]) rfl rfl Tryz.isAgg164 Tryz.sizeOf164 rfl rfl) ?_
        refine OpsL.allocO st37 Tryz.zeroValue164 rfl rfl ?_
        intro b41 w42 st43
        refine OpsL.storeN st43 (k := 0) rfl rfl rfl (one_cons rfl (one_cons rfl (one_cons rfl (one_cons rfl (one_cons rfl one_nil))))) Tryz.sizeOf164 rfl rfl rfl ?_
        intro w44 st45
        obtain ⟨h46, le47, hb48, st50⟩ := st45.freeze (k := 0) rfl
        have hc49 := Cells.of hb48
        refine OpsL.nil ?_
        refine Then.norm ?_
        refine W.seq ?_
        refine W.region ?_
        refine OpsL.val rfl rfl (r_field_addr rfl Tryz.underlying56 rfl Tryz.sizeOf3 rfl) ?_
        refine OpsL.val rfl rfl (r_load_cells1 (j := 0) st50.sub (hc11.up ((((le18.trans le22).trans le32).trans le36).trans le47)) rfl rfl rfl Tryz.isAgg3) ?_
        refine OpsL.val rfl rfl (r_field_addr rfl Tryz.underlying56 rfl Tryz.sizeOf5 rfl) ?_
        refine OpsL.val rfl rfl (r_load_cells1 (j := 1) st50.sub (hc11.up ((((le18.trans le22).trans le32).trans le36).trans le47)) rfl rfl rfl Tryz.isAgg5) ?_
        refine OpsL.val rfl rfl (r_build (cs := [.int .i64 (d.number), .int .u8 (d.kind), strV [], .int .i64 0, .int .i64 0, .int .i64 0, strV [], .int .u8 0, .int .i64 0]) (by kernel_rfl)) ?_
        refine OpsL.allocO st50 Tryz.zeroValue56 rfl rfl ?_
        intro b51 w52 st53
        refine OpsL.storeN st53 (k := 1) rfl rfl rfl (one_cons rfl (one_cons rfl (one_cons rfl (one_cons rfl (one_cons rfl (one_cons rfl (one_cons rfl (one_cons rfl (one_cons rfl one_nil))))))))) Tryz.sizeOf56 rfl rfl rfl ?_
        intro w54 st55
        refine OpsL.nil ?_
        refine Then.norm ?_
        refine W.seq ?_
        refine W.seq ?_
        refine W.region ?_
        refine OpsL.val rfl rfl (r_field_addr rfl Tryz.underlying164 rfl Tryz.sizeOf4 rfl) ?_
        refine OpsL.val rfl rfl (r_load_cells1 (j := 0) st55.sub hc49 rfl rfl rfl Tryz.isAgg4) ?_
        refine OpsL.nil ?_
        refine Then.norm ?_
        refine W.cond rfl (fun c56 => ?_) (fun c56 => ?_)
        ·
          refine W.region ?_
          refine OpsL.val rfl rfl (r_field_addr rfl Tryz.underlying56 rfl Tryz.sizeOf9 rfl) ?_
          refine OpsL.val rfl rfl (r_load_cells1 (j := 2) st55.sub (hc11.up ((((le18.trans le22).trans le32).trans le36).trans le47)) rfl rfl rfl Tryz.isAgg9) ?_
          refine OpsL.val rfl rfl (r_field_addr rfl Tryz.underlying56 rfl Tryz.sizeOf9 rfl) ?_
          refine OpsL.store1 st55 (k := 1) rfl rfl rfl rfl Tryz.sizeOf9 rfl rfl rfl ?_
          intro w57 st58
          refine OpsL.nil ?_
          refine Then.norm ?_
          refine W.seq ?_
          refine W.seq ?_
          refine W.region ?_
          refine OpsL.val rfl rfl (r_field_addr rfl Tryz.underlying164 rfl Tryz.sizeOf4 rfl) ?_
          refine OpsL.val rfl rfl (r_load_cells1 (j := 1) st58.sub hc49 rfl rfl rfl Tryz.isAgg4) ?_
          refine OpsL.nil ?_
          refine Then.norm ?_
          refine W.cond rfl (fun c59 => ?_) (fun c59 => ?_)
          ·
            cases c59
          ·
            refine W.skip ?_
            refine Then.norm ?_
            refine W.seq ?_
            refine W.seq ?_
            refine W.region ?_
            refine OpsL.val rfl rfl (r_field_addr rfl Tryz.underlying164 rfl Tryz.sizeOf4 rfl) ?_
            refine OpsL.val rfl rfl (r_load_cells1 (j := 2) st58.sub hc49 rfl rfl rfl Tryz.isAgg4) ?_
            refine OpsL.nil ?_
            refine Then.norm ?_
            refine W.cond rfl (fun c60 => ?_) (fun c60 => ?_)
            ·
              refine W.region ?_
              refine OpsL.val rfl rfl (r_field_addr rfl Tryz.underlying56 rfl Tryz.sizeOf54 rfl) ?_
              refine OpsL.val rfl rfl (r_load_cellsN (j := 6) st58.sub (hc11.up ((((le18.trans le22).trans le32).trans le36).trans le47)) (us := [strV (d.to.stem), .int .u8 (d.to.mark)]) rfl rfl Tryz.isAgg54 Tryz.sizeOf54 rfl rfl) ?_
              refine OpsL.val rfl rfl (r_field_addr rfl Tryz.underlying56 rfl Tryz.sizeOf54 rfl) ?_
              refine OpsL.storeN st58 (k := 1) rfl rfl rfl (one_cons rfl (one_cons rfl one_nil)) Tryz.sizeOf54 rfl rfl rfl ?_
              intro w61 st62
              refine OpsL.nil ?_
              refine Then.norm ?_
              refine W.seq ?_
              refine W.seq ?_
              refine W.region ?_
              refine OpsL.val rfl rfl (r_field_addr rfl Tryz.underlying164 rfl Tryz.sizeOf4 rfl) ?_
              refine OpsL.val rfl rfl (r_load_cells1 (j := 3) st62.sub hc49 rfl rfl rfl Tryz.isAgg4) ?_
              refine OpsL.nil ?_
              refine Then.norm ?_
              refine W.cond rfl (fun c63 => ?_) (fun c63 => ?_)
              ·
                cases c63
              ·
                refine W.skip ?_
                refine Then.norm ?_
                refine W.seq ?_
                refine W.region ?_
                refine OpsL.val rfl rfl (r_load_call st62.sub (hc5.up (((((le10.trans le18).trans le22).trans le32).trans le36).trans le47)) rfl Tryz.isAgg24 Tryz.sizeOf24 rfl) ?_
                refine OpsL.val rfl rfl (r_field_addr rfl Tryz.underlying56 rfl Tryz.sizeOf52 rfl) ?_
                refine OpsL.val rfl rfl (r_load_cellsN (j := 3) st62.sub (hc11.up ((((le18.trans le22).trans le32).trans le36).trans le47)) (us := [.int .i64 (d.at_.chapter), .int .i64 (d.at_.line), .int .i64 (d.at_.word)]) rfl rfl Tryz.isAgg52 Tryz.sizeOf52 rfl rfl) ?_
                refine OpsL.callF st62 rfl rfl rfl Tryz.call99 rfl (c_leaf_At st62.sub (t := t) (t_f0.up ((((((le4.trans le10).trans le18).trans le22).trans le32).trans le36).trans le47)) (p := d.at_)) ?_
                intro r64 w65 h66 le67 st68 q69
                obtain rfl := q69
                refine OpsL.val rfl rfl (r_mvT rfl) ?_
                refine OpsL.val rfl rfl (r_extract (v := (strV _)) rfl rfl) ?_
                refine OpsL.val rfl rfl (r_extract (v := (.int _ _)) rfl rfl) ?_
                refine OpsL.val rfl rfl (r_asS rfl) ?_
                refine OpsL.val rfl rfl (r_asI rfl) ?_
                refine OpsL.nil ?_
                refine Then.norm ?_
                refine W.seq ?_
                have qn : 1 ≤ d.number ∧ d.number ≤ 999 := by
                  have q := c39
                  simp [inAll, inB] at q
                  omega
                refine W.region ?_
                refine OpsL.val rfl rfl (r_load_call st68.sub (hc11.up (((((le18.trans le22).trans le32).trans le36).trans le47).trans le67)) rfl Tryz.isAgg56 Tryz.sizeOf56 rfl) ?_
                refine OpsL.val rfl rfl (r_load_ball (st68.get (k := 1) rfl) rfl Tryz.isAgg56 Tryz.sizeOf56 rfl) ?_
                refine OpsL.val rfl rfl (r_steql rfl rfl Tryz.eqGuardType56 (Tryz.eq_Decision d (Decision.mk (d.number) (d.kind) (d.form) (Place.mk 0 0 0) (Head.mk (d.to.stem) (d.to.mark)) 0))) ?_
                refine OpsL.val rfl rfl (r_mvB rfl) ?_
                refine OpsL.split (d := 61) rfl (fun g70 => ?_) (fun g70 => ?_)
                ·
                  replace g70 := of_decide_eq_true g70
                  refine OpsL.guarded rfl rfl (d := 61) rfl ?_
                  refine OpsL.val rfl rfl (r_field_addr rfl Tryz.underlying164 rfl Tryz.sizeOf4 rfl) ?_
                  refine OpsL.guarded rfl rfl (d := 61) rfl ?_
                  refine OpsL.val rfl rfl (r_load_cells1 (j := 0) st68.sub (hc49.up le67) rfl rfl rfl Tryz.isAgg4) ?_
                  refine OpsL.guarded rfl rfl (d := 61) rfl ?_
                  refine OpsL.val rfl rfl (r_not rfl) ?_
                  refine OpsL.guarded rfl rfl (d := 61) rfl ?_
                  refine OpsL.val rfl rfl (r_mvB rfl) ?_
                  refine OpsL.guarded rfl rfl (d := 65) rfl ?_
                  refine OpsL.val rfl rfl (r_field_addr rfl Tryz.underlying56 rfl Tryz.sizeOf9 rfl) ?_
                  refine OpsL.guarded rfl rfl (d := 65) rfl ?_
                  refine OpsL.val rfl rfl (r_load_cells1 (j := 2) st68.sub (hc11.up (((((le18.trans le22).trans le32).trans le36).trans le47).trans le67)) rfl rfl rfl Tryz.isAgg9) ?_
                  refine OpsL.guarded rfl rfl (d := 65) rfl ?_
                  refine OpsL.callF st68 rfl rfl rfl Tryz.call41 rfl (c_stem_letters st68.sub _ (by first | assumption | (simp [big]; done) | (simp [big]; omega) | omega) _) ?_
                  intro r71 w72 h73 le74 st75 q76
                  obtain rfl := q76
                  refine OpsL.guarded rfl rfl (d := 61) rfl ?_
                  refine OpsL.val rfl rfl (r_pickF (v := (.bool _)) rfl rfl) ?_
                  refine OpsL.val rfl rfl (r_pickT (v := (.bool _)) rfl rfl) ?_
                  refine OpsL.val rfl rfl (r_mvB rfl) ?_
                  refine OpsL.split (d := 71) rfl (fun g77 => ?_) (fun g77 => ?_)
                  ·
                    refine OpsL.guarded rfl rfl (d := 71) rfl ?_
                    refine OpsL.val rfl rfl (r_field_addr rfl Tryz.underlying164 rfl Tryz.sizeOf4 rfl) ?_
                    refine OpsL.guarded rfl rfl (d := 71) rfl ?_
                    refine OpsL.val rfl rfl (r_load_cells1 (j := 1) st75.sub (hc49.up (le67.trans le74)) rfl rfl rfl Tryz.isAgg4) ?_
                    refine OpsL.guarded rfl rfl (d := 71) rfl ?_
                    refine OpsL.val rfl rfl (r_not rfl) ?_
                    refine OpsL.guarded rfl rfl (d := 71) rfl ?_
                    refine OpsL.val rfl rfl (r_mvB rfl) ?_
                    refine OpsL.skipped rfl rfl (d := 75) rfl rfl rfl ?_
                    refine OpsL.skipped rfl rfl (d := 75) rfl rfl rfl ?_
                    refine OpsL.guarded rfl rfl (d := 71) rfl ?_
                    refine OpsL.val rfl rfl (r_pickT (v := (.bool _)) rfl rfl) ?_
                    refine OpsL.val rfl rfl (r_pickT (v := (.bool _)) rfl rfl) ?_
                    refine OpsL.val rfl rfl (r_mvB rfl) ?_
                    refine OpsL.guarded rfl rfl (d := 80) rfl ?_
                    refine OpsL.val rfl rfl (r_field_addr rfl Tryz.underlying164 rfl Tryz.sizeOf4 rfl) ?_
                    refine OpsL.guarded rfl rfl (d := 80) rfl ?_
                    refine OpsL.val rfl rfl (r_load_cells1 (j := 2) st75.sub (hc49.up (le67.trans le74)) rfl rfl rfl Tryz.isAgg4) ?_
                    refine OpsL.guarded rfl rfl (d := 80) rfl ?_
                    refine OpsL.val rfl rfl (r_not rfl) ?_
                    refine OpsL.guarded rfl rfl (d := 80) rfl ?_
                    refine OpsL.val rfl rfl (r_mvB rfl) ?_
                    refine OpsL.guarded rfl rfl (d := 84) rfl ?_
                    refine OpsL.val rfl rfl (r_field_addr rfl Tryz.underlying56 rfl Tryz.sizeOf54 rfl) ?_
                    refine OpsL.guarded rfl rfl (d := 84) rfl ?_
                    refine OpsL.val rfl rfl (r_load_cellsN (j := 6) st75.sub (hc11.up ((((((le18.trans le22).trans le32).trans le36).trans le47).trans le67).trans le74)) (us := [strV (d.to.stem), .int .u8 (d.to.mark)]) rfl rfl Tryz.isAgg54 Tryz.sizeOf54 rfl rfl) ?_
                    refine OpsL.guarded rfl rfl (d := 84) rfl ?_
                    refine OpsL.callF st75 rfl rfl rfl Tryz.call100 rfl (c_stem_right st75.sub (hd := d.to) (by first | assumption | (simp [big]; done) | (simp [big]; omega) | omega) (by first | assumption | decide | omega)) ?_
                    intro r78 w79 h80 le81 st82 q83
                    obtain rfl := q83
                    refine OpsL.guarded rfl rfl (d := 80) rfl ?_
                    refine OpsL.val rfl rfl (r_pickF (v := (.bool _)) rfl rfl) ?_
                    refine OpsL.val rfl rfl (r_pickT (v := (.bool _)) rfl rfl) ?_
                    refine OpsL.val rfl rfl (r_mvB rfl) ?_
                    refine OpsL.split (d := 90) rfl (fun g84 => ?_) (fun g84 => ?_)
                    ·
                      refine OpsL.guarded rfl rfl (d := 90) rfl ?_
                      refine OpsL.val rfl rfl (r_field_addr rfl Tryz.underlying164 rfl Tryz.sizeOf4 rfl) ?_
                      refine OpsL.guarded rfl rfl (d := 90) rfl ?_
                      refine OpsL.val rfl rfl (r_load_cells1 (j := 3) st82.sub (hc49.up ((le67.trans le74).trans le81)) rfl rfl rfl Tryz.isAgg4) ?_
                      refine OpsL.guarded rfl rfl (d := 90) rfl ?_
                      refine OpsL.val rfl rfl (r_not rfl) ?_
                      refine OpsL.guarded rfl rfl (d := 90) rfl ?_
                      refine OpsL.val rfl rfl (r_mvB rfl) ?_
                      refine OpsL.skipped rfl rfl (d := 94) rfl rfl rfl ?_
                      refine OpsL.skipped rfl rfl (d := 94) rfl rfl rfl ?_
                      refine OpsL.skipped rfl rfl (d := 94) rfl rfl rfl ?_
                      refine OpsL.skipped rfl rfl (d := 94) rfl rfl rfl ?_
                      refine OpsL.skipped rfl rfl (d := 94) rfl rfl rfl ?_
                      refine OpsL.skipped rfl rfl (d := 94) rfl rfl rfl ?_
                      refine OpsL.skipped rfl rfl (d := 94) rfl rfl rfl ?_
                      refine OpsL.guarded rfl rfl (d := 90) rfl ?_
                      refine OpsL.val rfl rfl (r_pickT (v := (.bool _)) rfl rfl) ?_
                      refine OpsL.val rfl rfl (r_pickT (v := (.bool _)) rfl rfl) ?_
                      refine OpsL.val rfl rfl (r_asB rfl) ?_
                      refine OpsL.nil ?_
                      refine Then.norm ?_
                      refine W.ret ?_
                      -- return r3
                      refine Post.ret1 Tryz.results53 ?_
                      refine ⟨h80, _, rfl, st82.done, ?_⟩
                      refine bool_eq ?_
                      exact dec1_t ht hk40 c39 g70 g77 g84
                    ·
                      refine OpsL.skipped rfl rfl (d := 90) rfl rfl rfl ?_
                      refine OpsL.skipped rfl rfl (d := 90) rfl rfl rfl ?_
                      refine OpsL.skipped rfl rfl (d := 90) rfl rfl rfl ?_
                      refine OpsL.skipped rfl rfl (d := 90) rfl rfl rfl ?_
                      refine OpsL.skippedU rfl rfl (d := 94) rfl rfl ?_
                      refine OpsL.skippedU rfl rfl (d := 94) rfl rfl ?_
                      refine OpsL.skippedU rfl rfl (d := 94) rfl rfl ?_
                      refine OpsL.skippedU rfl rfl (d := 94) rfl rfl ?_
                      refine OpsL.skippedU rfl rfl (d := 94) rfl rfl ?_
                      refine OpsL.skippedU rfl rfl (d := 94) rfl rfl ?_
                      refine OpsL.skippedU rfl rfl (d := 94) rfl rfl ?_
                      refine OpsL.skipped rfl rfl (d := 90) rfl rfl rfl ?_
                      refine OpsL.val rfl rfl (r_pickF (v := (.bool _)) rfl rfl) ?_
                      refine OpsL.val rfl rfl (r_asB rfl) ?_
                      refine OpsL.nil ?_
                      refine Then.norm ?_
                      refine W.ret ?_
                      -- return r4
                      refine Post.ret1 Tryz.results53 ?_
                      refine ⟨h80, _, rfl, st82.done, ?_⟩
                      refine bool_eq ?_
                      exact dec1_f1 ht hk40 c39 g70 g77 g84
                  ·
                    refine OpsL.skipped rfl rfl (d := 71) rfl rfl rfl ?_
                    refine OpsL.skipped rfl rfl (d := 71) rfl rfl rfl ?_
                    refine OpsL.skipped rfl rfl (d := 71) rfl rfl rfl ?_
                    refine OpsL.skipped rfl rfl (d := 71) rfl rfl rfl ?_
                    refine OpsL.skippedU rfl rfl (d := 75) rfl rfl ?_
                    refine OpsL.skippedU rfl rfl (d := 75) rfl rfl ?_
                    refine OpsL.skipped rfl rfl (d := 71) rfl rfl rfl ?_
                    refine OpsL.val rfl rfl (r_pickF (v := (.bool _)) rfl rfl) ?_
                    refine OpsL.val rfl rfl (r_mvB rfl) ?_
                    refine OpsL.skipped rfl rfl (d := 80) rfl rfl rfl ?_
                    refine OpsL.skipped rfl rfl (d := 80) rfl rfl rfl ?_
                    refine OpsL.skipped rfl rfl (d := 80) rfl rfl rfl ?_
                    refine OpsL.skipped rfl rfl (d := 80) rfl rfl rfl ?_
                    refine OpsL.skippedU rfl rfl (d := 84) rfl rfl ?_
                    refine OpsL.skippedU rfl rfl (d := 84) rfl rfl ?_
                    refine OpsL.skippedU rfl rfl (d := 84) rfl rfl ?_
                    refine OpsL.skipped rfl rfl (d := 80) rfl rfl rfl ?_
                    refine OpsL.val rfl rfl (r_pickF (v := (.bool _)) rfl rfl) ?_
                    refine OpsL.val rfl rfl (r_mvB rfl) ?_
                    refine OpsL.skipped rfl rfl (d := 90) rfl rfl rfl ?_
                    refine OpsL.skipped rfl rfl (d := 90) rfl rfl rfl ?_
                    refine OpsL.skipped rfl rfl (d := 90) rfl rfl rfl ?_
                    refine OpsL.skipped rfl rfl (d := 90) rfl rfl rfl ?_
                    refine OpsL.skippedU rfl rfl (d := 94) rfl rfl ?_
                    refine OpsL.skippedU rfl rfl (d := 94) rfl rfl ?_
                    refine OpsL.skippedU rfl rfl (d := 94) rfl rfl ?_
                    refine OpsL.skippedU rfl rfl (d := 94) rfl rfl ?_
                    refine OpsL.skippedU rfl rfl (d := 94) rfl rfl ?_
                    refine OpsL.skippedU rfl rfl (d := 94) rfl rfl ?_
                    refine OpsL.skippedU rfl rfl (d := 94) rfl rfl ?_
                    refine OpsL.skipped rfl rfl (d := 90) rfl rfl rfl ?_
                    refine OpsL.val rfl rfl (r_pickF (v := (.bool _)) rfl rfl) ?_
                    refine OpsL.val rfl rfl (r_asB rfl) ?_
                    refine OpsL.nil ?_
                    refine Then.norm ?_
                    refine W.ret ?_
                    -- return r5
                    refine Post.ret1 Tryz.results53 ?_
                    refine ⟨h73, _, rfl, st75.done, ?_⟩
                    refine bool_eq ?_
                    exact dec1_f0 ht hk40 c39 g70 g77
                ·
                  replace g70 := of_decide_eq_false g70
                  refine OpsL.skipped rfl rfl (d := 61) rfl rfl rfl ?_
                  refine OpsL.skipped rfl rfl (d := 61) rfl rfl rfl ?_
                  refine OpsL.skipped rfl rfl (d := 61) rfl rfl rfl ?_
                  refine OpsL.skipped rfl rfl (d := 61) rfl rfl rfl ?_
                  refine OpsL.skippedU rfl rfl (d := 65) rfl rfl ?_
                  refine OpsL.skippedU rfl rfl (d := 65) rfl rfl ?_
                  refine OpsL.skippedU rfl rfl (d := 65) rfl rfl ?_
                  refine OpsL.skipped rfl rfl (d := 61) rfl rfl rfl ?_
                  refine OpsL.val rfl rfl (r_pickF (v := (.bool _)) rfl rfl) ?_
                  refine OpsL.val rfl rfl (r_mvB rfl) ?_
                  refine OpsL.skipped rfl rfl (d := 71) rfl rfl rfl ?_
                  refine OpsL.skipped rfl rfl (d := 71) rfl rfl rfl ?_
                  refine OpsL.skipped rfl rfl (d := 71) rfl rfl rfl ?_
                  refine OpsL.skipped rfl rfl (d := 71) rfl rfl rfl ?_
                  refine OpsL.skippedU rfl rfl (d := 75) rfl rfl ?_
                  refine OpsL.skippedU rfl rfl (d := 75) rfl rfl ?_
                  refine OpsL.skipped rfl rfl (d := 71) rfl rfl rfl ?_
                  refine OpsL.val rfl rfl (r_pickF (v := (.bool _)) rfl rfl) ?_
                  refine OpsL.val rfl rfl (r_mvB rfl) ?_
                  refine OpsL.skipped rfl rfl (d := 80) rfl rfl rfl ?_
                  refine OpsL.skipped rfl rfl (d := 80) rfl rfl rfl ?_
                  refine OpsL.skipped rfl rfl (d := 80) rfl rfl rfl ?_
                  refine OpsL.skipped rfl rfl (d := 80) rfl rfl rfl ?_
                  refine OpsL.skippedU rfl rfl (d := 84) rfl rfl ?_
                  refine OpsL.skippedU rfl rfl (d := 84) rfl rfl ?_
                  refine OpsL.skippedU rfl rfl (d := 84) rfl rfl ?_
                  refine OpsL.skipped rfl rfl (d := 80) rfl rfl rfl ?_
                  refine OpsL.val rfl rfl (r_pickF (v := (.bool _)) rfl rfl) ?_
                  refine OpsL.val rfl rfl (r_mvB rfl) ?_
                  refine OpsL.skipped rfl rfl (d := 90) rfl rfl rfl ?_
                  refine OpsL.skipped rfl rfl (d := 90) rfl rfl rfl ?_
                  refine OpsL.skipped rfl rfl (d := 90) rfl rfl rfl ?_
                  refine OpsL.skipped rfl rfl (d := 90) rfl rfl rfl ?_
                  refine OpsL.skippedU rfl rfl (d := 94) rfl rfl ?_
                  refine OpsL.skippedU rfl rfl (d := 94) rfl rfl ?_
                  refine OpsL.skippedU rfl rfl (d := 94) rfl rfl ?_
                  refine OpsL.skippedU rfl rfl (d := 94) rfl rfl ?_
                  refine OpsL.skippedU rfl rfl (d := 94) rfl rfl ?_
                  refine OpsL.skippedU rfl rfl (d := 94) rfl rfl ?_
                  refine OpsL.skippedU rfl rfl (d := 94) rfl rfl ?_
                  refine OpsL.skipped rfl rfl (d := 90) rfl rfl rfl ?_
                  refine OpsL.val rfl rfl (r_pickF (v := (.bool _)) rfl rfl) ?_
                  refine OpsL.val rfl rfl (r_asB rfl) ?_
                  refine OpsL.nil ?_
                  refine Then.norm ?_
                  refine W.ret ?_
                  -- return r6
                  refine Post.ret1 Tryz.results53 ?_
                  refine ⟨h66, _, rfl, st68.done, ?_⟩
                  refine bool_eq ?_
                  exact dec1_n ht hk40 c39 g70
            ·
              cases c60
        ·
          cases c56
      ·
        refine W.region ?_
        refine OpsL.val rfl rfl (r_field_addr rfl Tryz.underlying56 rfl Tryz.sizeOf5 rfl) ?_
        refine OpsL.val rfl rfl (r_load_cells1 (j := 1) st37.sub (hc11.up (((le18.trans le22).trans le32).trans le36)) rfl rfl rfl Tryz.isAgg5) ?_
        refine OpsL.val rfl rfl (r_index_arr rfl rfl (show _ = ((2 : Nat) : Int) by rw [hk40]; rfl) rfl Tryz.underlying165 Tryz.sizeOf164) ?_
        refine OpsL.val rfl rfl (r_load_cellsN (j := 10) st37.sub (K0.up (((((le4.trans le10).trans le18).trans le22).trans le32).trans le36)) (us := [.bool true, .bool true, .bool true, .bool false, .func (.func 219) #[] #[]]) rfl rfl Tryz.isAgg164 Tryz.sizeOf164 rfl rfl) ?_
        refine OpsL.allocO st37 Tryz.zeroValue164 rfl rfl ?_
        intro b85 w86 st87
        refine OpsL.storeN st87 (k := 0) rfl rfl rfl (one_cons rfl (one_cons rfl (one_cons rfl (one_cons rfl (one_cons rfl one_nil))))) Tryz.sizeOf164 rfl rfl rfl ?_
        intro w88 st89
        obtain ⟨h90, le91, hb92, st94⟩ := st89.freeze (k := 0) rfl
        have hc93 := Cells.of hb92
        refine OpsL.nil ?_
        refine Then.norm ?_
        refine W.seq ?_
        refine W.region ?_
        refine OpsL.val rfl rfl (r_field_addr rfl Tryz.underlying56 rfl Tryz.sizeOf3 rfl) ?_
        refine OpsL.val rfl rfl (r_load_cells1 (j := 0) st94.sub (hc11.up ((((le18.trans le22).trans le32).trans le36).trans le91)) rfl rfl rfl Tryz.isAgg3) ?_
        refine OpsL.val rfl rfl (r_field_addr rfl Tryz.underlying56 rfl Tryz.sizeOf5 rfl) ?_
        refine OpsL.val rfl rfl (r_load_cells1 (j := 1) st94.sub (hc11.up ((((le18.trans le22).trans le32).trans le36).trans le91)) rfl rfl rfl Tryz.isAgg5) ?_
        refine OpsL.val rfl rfl (r_build (cs := [.int .i64 (d.number), .int .u8 (d.kind), strV [], .int .i64 0, .int .i64 0, .int .i64 0, strV [], .int .u8 0, .int .i64 0]) (by kernel_rfl)) ?_
        refine OpsL.allocO st94 Tryz.zeroValue56 rfl rfl ?_
        intro b95 w96 st97
        refine OpsL.storeN st97 (k := 1) rfl rfl rfl (one_cons rfl (one_cons rfl (one_cons rfl (one_cons rfl (one_cons rfl (one_cons rfl (one_cons rfl (one_cons rfl (one_cons rfl one_nil))))))))) Tryz.sizeOf56 rfl rfl rfl ?_
        intro w98 st99
        refine OpsL.nil ?_
        refine Then.norm ?_
        refine W.seq ?_
        refine W.seq ?_
        refine W.region ?_
        refine OpsL.val rfl rfl (r_field_addr rfl Tryz.underlying164 rfl Tryz.sizeOf4 rfl) ?_
        refine OpsL.val rfl rfl (r_load_cells1 (j := 0) st99.sub hc93 rfl rfl rfl Tryz.isAgg4) ?_
        refine OpsL.nil ?_
        refine Then.norm ?_
        refine W.cond rfl (fun c100 => ?_) (fun c100 => ?_)
        ·
          refine W.region ?_
          refine OpsL.val rfl rfl (r_field_addr rfl Tryz.underlying56 rfl Tryz.sizeOf9 rfl) ?_
          refine OpsL.val rfl rfl (r_load_cells1 (j := 2) st99.sub (hc11.up ((((le18.trans le22).trans le32).trans le36).trans le91)) rfl rfl rfl Tryz.isAgg9) ?_
          refine OpsL.val rfl rfl (r_field_addr rfl Tryz.underlying56 rfl Tryz.sizeOf9 rfl) ?_
          refine OpsL.store1 st99 (k := 1) rfl rfl rfl rfl Tryz.sizeOf9 rfl rfl rfl ?_
          intro w101 st102
          refine OpsL.nil ?_
          refine Then.norm ?_
          refine W.seq ?_
          refine W.seq ?_
          refine W.region ?_
          refine OpsL.val rfl rfl (r_field_addr rfl Tryz.underlying164 rfl Tryz.sizeOf4 rfl) ?_
          refine OpsL.val rfl rfl (r_load_cells1 (j := 1) st102.sub hc93 rfl rfl rfl Tryz.isAgg4) ?_
          refine OpsL.nil ?_
          refine Then.norm ?_
          refine W.cond rfl (fun c103 => ?_) (fun c103 => ?_)
          ·
            refine W.region ?_
            refine OpsL.val rfl rfl (r_field_addr rfl Tryz.underlying56 rfl Tryz.sizeOf52 rfl) ?_
            refine OpsL.val rfl rfl (r_load_cellsN (j := 3) st102.sub (hc11.up ((((le18.trans le22).trans le32).trans le36).trans le91)) (us := [.int .i64 (d.at_.chapter), .int .i64 (d.at_.line), .int .i64 (d.at_.word)]) rfl rfl Tryz.isAgg52 Tryz.sizeOf52 rfl rfl) ?_
            refine OpsL.val rfl rfl (r_field_addr rfl Tryz.underlying56 rfl Tryz.sizeOf52 rfl) ?_
            refine OpsL.storeN st102 (k := 1) rfl rfl rfl (one_cons rfl (one_cons rfl (one_cons rfl one_nil))) Tryz.sizeOf52 rfl rfl rfl ?_
            intro w104 st105
            refine OpsL.nil ?_
            refine Then.norm ?_
            refine W.seq ?_
            refine W.seq ?_
            refine W.region ?_
            refine OpsL.val rfl rfl (r_field_addr rfl Tryz.underlying164 rfl Tryz.sizeOf4 rfl) ?_
            refine OpsL.val rfl rfl (r_load_cells1 (j := 2) st105.sub hc93 rfl rfl rfl Tryz.isAgg4) ?_
            refine OpsL.nil ?_
            refine Then.norm ?_
            refine W.cond rfl (fun c106 => ?_) (fun c106 => ?_)
            ·
              refine W.region ?_
              refine OpsL.val rfl rfl (r_field_addr rfl Tryz.underlying56 rfl Tryz.sizeOf54 rfl) ?_
              refine OpsL.val rfl rfl (r_load_cellsN (j := 6) st105.sub (hc11.up ((((le18.trans le22).trans le32).trans le36).trans le91)) (us := [strV (d.to.stem), .int .u8 (d.to.mark)]) rfl rfl Tryz.isAgg54 Tryz.sizeOf54 rfl rfl) ?_
              refine OpsL.val rfl rfl (r_field_addr rfl Tryz.underlying56 rfl Tryz.sizeOf54 rfl) ?_
              refine OpsL.storeN st105 (k := 1) rfl rfl rfl (one_cons rfl (one_cons rfl one_nil)) Tryz.sizeOf54 rfl rfl rfl ?_
              intro w107 st108
              refine OpsL.nil ?_
              refine Then.norm ?_
              refine W.seq ?_
              refine W.seq ?_
              refine W.region ?_
              refine OpsL.val rfl rfl (r_field_addr rfl Tryz.underlying164 rfl Tryz.sizeOf4 rfl) ?_
              refine OpsL.val rfl rfl (r_load_cells1 (j := 3) st108.sub hc93 rfl rfl rfl Tryz.isAgg4) ?_
              refine OpsL.nil ?_
              refine Then.norm ?_
              refine W.cond rfl (fun c109 => ?_) (fun c109 => ?_)
              ·
                cases c109
              ·
                refine W.skip ?_
                refine Then.norm ?_
                refine W.seq ?_
                refine W.region ?_
                refine OpsL.val rfl rfl (r_load_call st108.sub (hc5.up (((((le10.trans le18).trans le22).trans le32).trans le36).trans le91)) rfl Tryz.isAgg24 Tryz.sizeOf24 rfl) ?_
                refine OpsL.val rfl rfl (r_field_addr rfl Tryz.underlying56 rfl Tryz.sizeOf52 rfl) ?_
                refine OpsL.val rfl rfl (r_load_cellsN (j := 3) st108.sub (hc11.up ((((le18.trans le22).trans le32).trans le36).trans le91)) (us := [.int .i64 (d.at_.chapter), .int .i64 (d.at_.line), .int .i64 (d.at_.word)]) rfl rfl Tryz.isAgg52 Tryz.sizeOf52 rfl rfl) ?_
                refine OpsL.callF st108 rfl rfl rfl Tryz.call99 rfl (c_leaf_At st108.sub (t := t) (t_f0.up ((((((le4.trans le10).trans le18).trans le22).trans le32).trans le36).trans le91)) (p := d.at_)) ?_
                intro r110 w111 h112 le113 st114 q115
                obtain rfl := q115
                refine OpsL.val rfl rfl (r_mvT rfl) ?_
                refine OpsL.val rfl rfl (r_extract (v := (strV _)) rfl rfl) ?_
                refine OpsL.val rfl rfl (r_extract (v := (.int _ _)) rfl rfl) ?_
                refine OpsL.val rfl rfl (r_asS rfl) ?_
                refine OpsL.val rfl rfl (r_asI rfl) ?_
                refine OpsL.nil ?_
                refine Then.norm ?_
                refine W.seq ?_
                have qn : 1 ≤ d.number ∧ d.number ≤ 999 := by
                  have q := c39
                  simp [inAll, inB] at q
                  omega
                refine W.region ?_
                refine OpsL.val rfl rfl (r_load_call st114.sub (hc11.up (((((le18.trans le22).trans le32).trans le36).trans le91).trans le113)) rfl Tryz.isAgg56 Tryz.sizeOf56 rfl) ?_
                refine OpsL.val rfl rfl (r_load_ball (st114.get (k := 1) rfl) rfl Tryz.isAgg56 Tryz.sizeOf56 rfl) ?_
                refine OpsL.val rfl rfl (r_steql rfl rfl Tryz.eqGuardType56 (Tryz.eq_Decision d (Decision.mk (d.number) (d.kind) (d.form) (Place.mk (d.at_.chapter) (d.at_.line) (d.at_.word)) (Head.mk (d.to.stem) (d.to.mark)) 0))) ?_
                refine OpsL.val rfl rfl (r_mvB rfl) ?_
                refine OpsL.split (d := 61) rfl (fun g116 => ?_) (fun g116 => ?_)
                ·
                  replace g116 := of_decide_eq_true g116
                  refine OpsL.guarded rfl rfl (d := 61) rfl ?_
                  refine OpsL.val rfl rfl (r_field_addr rfl Tryz.underlying164 rfl Tryz.sizeOf4 rfl) ?_
                  refine OpsL.guarded rfl rfl (d := 61) rfl ?_
                  refine OpsL.val rfl rfl (r_load_cells1 (j := 0) st114.sub (hc93.up le113) rfl rfl rfl Tryz.isAgg4) ?_
                  refine OpsL.guarded rfl rfl (d := 61) rfl ?_
                  refine OpsL.val rfl rfl (r_not rfl) ?_
                  refine OpsL.guarded rfl rfl (d := 61) rfl ?_
                  refine OpsL.val rfl rfl (r_mvB rfl) ?_
                  refine OpsL.guarded rfl rfl (d := 65) rfl ?_
                  refine OpsL.val rfl rfl (r_field_addr rfl Tryz.underlying56 rfl Tryz.sizeOf9 rfl) ?_
                  refine OpsL.guarded rfl rfl (d := 65) rfl ?_
                  refine OpsL.val rfl rfl (r_load_cells1 (j := 2) st114.sub (hc11.up (((((le18.trans le22).trans le32).trans le36).trans le91).trans le113)) rfl rfl rfl Tryz.isAgg9) ?_
                  refine OpsL.guarded rfl rfl (d := 65) rfl ?_
                  refine OpsL.callF st114 rfl rfl rfl Tryz.call41 rfl (c_stem_letters st114.sub _ (by first | assumption | (simp [big]; done) | (simp [big]; omega) | omega) _) ?_
                  intro r117 w118 h119 le120 st121 q122
                  obtain rfl := q122
                  refine OpsL.guarded rfl rfl (d := 61) rfl ?_
                  refine OpsL.val rfl rfl (r_pickF (v := (.bool _)) rfl rfl) ?_
                  refine OpsL.val rfl rfl (r_pickT (v := (.bool _)) rfl rfl) ?_
                  refine OpsL.val rfl rfl (r_mvB rfl) ?_
                  refine OpsL.split (d := 71) rfl (fun g123 => ?_) (fun g123 => ?_)
                  ·
                    refine OpsL.guarded rfl rfl (d := 71) rfl ?_
                    refine OpsL.val rfl rfl (r_field_addr rfl Tryz.underlying164 rfl Tryz.sizeOf4 rfl) ?_
                    refine OpsL.guarded rfl rfl (d := 71) rfl ?_
                    refine OpsL.val rfl rfl (r_load_cells1 (j := 1) st121.sub (hc93.up (le113.trans le120)) rfl rfl rfl Tryz.isAgg4) ?_
                    refine OpsL.guarded rfl rfl (d := 71) rfl ?_
                    refine OpsL.val rfl rfl (r_not rfl) ?_
                    refine OpsL.guarded rfl rfl (d := 71) rfl ?_
                    refine OpsL.val rfl rfl (r_mvB rfl) ?_
                    refine OpsL.guarded rfl rfl (d := 75) rfl ?_
                    refine OpsL.val rfl rfl (r_mvI rfl) ?_
                    refine OpsL.guarded rfl rfl (d := 75) rfl ?_
                    refine OpsL.val rfl rfl (r_eql rfl rfl) ?_
                    refine OpsL.guarded rfl rfl (d := 71) rfl ?_
                    refine OpsL.val rfl rfl (r_pickF (v := (.bool _)) rfl rfl) ?_
                    refine OpsL.val rfl rfl (r_pickT (v := (.bool _)) rfl rfl) ?_
                    refine OpsL.val rfl rfl (r_mvB rfl) ?_
                    refine OpsL.split (d := 80) rfl (fun g124 => ?_) (fun g124 => ?_)
                    ·
                      replace g124 := of_decide_eq_true g124
                      refine OpsL.guarded rfl rfl (d := 80) rfl ?_
                      refine OpsL.val rfl rfl (r_field_addr rfl Tryz.underlying164 rfl Tryz.sizeOf4 rfl) ?_
                      refine OpsL.guarded rfl rfl (d := 80) rfl ?_
                      refine OpsL.val rfl rfl (r_load_cells1 (j := 2) st121.sub (hc93.up (le113.trans le120)) rfl rfl rfl Tryz.isAgg4) ?_
                      refine OpsL.guarded rfl rfl (d := 80) rfl ?_
                      refine OpsL.val rfl rfl (r_not rfl) ?_
                      refine OpsL.guarded rfl rfl (d := 80) rfl ?_
                      refine OpsL.val rfl rfl (r_mvB rfl) ?_
                      refine OpsL.guarded rfl rfl (d := 84) rfl ?_
                      refine OpsL.val rfl rfl (r_field_addr rfl Tryz.underlying56 rfl Tryz.sizeOf54 rfl) ?_
                      refine OpsL.guarded rfl rfl (d := 84) rfl ?_
                      refine OpsL.val rfl rfl (r_load_cellsN (j := 6) st121.sub (hc11.up ((((((le18.trans le22).trans le32).trans le36).trans le91).trans le113).trans le120)) (us := [strV (d.to.stem), .int .u8 (d.to.mark)]) rfl rfl Tryz.isAgg54 Tryz.sizeOf54 rfl rfl) ?_
                      refine OpsL.guarded rfl rfl (d := 84) rfl ?_
                      refine OpsL.callF st121 rfl rfl rfl Tryz.call100 rfl (c_stem_right st121.sub (hd := d.to) (by first | assumption | (simp [big]; done) | (simp [big]; omega) | omega) (by first | assumption | decide | omega)) ?_
                      intro r125 w126 h127 le128 st129 q130
                      obtain rfl := q130
                      refine OpsL.guarded rfl rfl (d := 80) rfl ?_
                      refine OpsL.val rfl rfl (r_pickF (v := (.bool _)) rfl rfl) ?_
                      refine OpsL.val rfl rfl (r_pickT (v := (.bool _)) rfl rfl) ?_
                      refine OpsL.val rfl rfl (r_mvB rfl) ?_
                      refine OpsL.split (d := 90) rfl (fun g131 => ?_) (fun g131 => ?_)
                      ·
                        refine OpsL.guarded rfl rfl (d := 90) rfl ?_
                        refine OpsL.val rfl rfl (r_field_addr rfl Tryz.underlying164 rfl Tryz.sizeOf4 rfl) ?_
                        refine OpsL.guarded rfl rfl (d := 90) rfl ?_
                        refine OpsL.val rfl rfl (r_load_cells1 (j := 3) st129.sub (hc93.up ((le113.trans le120).trans le128)) rfl rfl rfl Tryz.isAgg4) ?_
                        refine OpsL.guarded rfl rfl (d := 90) rfl ?_
                        refine OpsL.val rfl rfl (r_not rfl) ?_
                        refine OpsL.guarded rfl rfl (d := 90) rfl ?_
                        refine OpsL.val rfl rfl (r_mvB rfl) ?_
                        refine OpsL.skipped rfl rfl (d := 94) rfl rfl rfl ?_
                        refine OpsL.skipped rfl rfl (d := 94) rfl rfl rfl ?_
                        refine OpsL.skipped rfl rfl (d := 94) rfl rfl rfl ?_
                        refine OpsL.skipped rfl rfl (d := 94) rfl rfl rfl ?_
                        refine OpsL.skipped rfl rfl (d := 94) rfl rfl rfl ?_
                        refine OpsL.skipped rfl rfl (d := 94) rfl rfl rfl ?_
                        refine OpsL.skipped rfl rfl (d := 94) rfl rfl rfl ?_
                        refine OpsL.guarded rfl rfl (d := 90) rfl ?_
                        refine OpsL.val rfl rfl (r_pickT (v := (.bool _)) rfl rfl) ?_
                        refine OpsL.val rfl rfl (r_pickT (v := (.bool _)) rfl rfl) ?_
                        refine OpsL.val rfl rfl (r_asB rfl) ?_
                        refine OpsL.nil ?_
                        refine Then.norm ?_
                        refine W.ret ?_
                        -- return r7
                        refine Post.ret1 Tryz.results53 ?_
                        refine ⟨h127, _, rfl, st129.done, ?_⟩
                        refine bool_eq ?_
                        exact dec2_t ht hk40 c39 g116 g123 g124 g131
                      ·
                        refine OpsL.skipped rfl rfl (d := 90) rfl rfl rfl ?_
                        refine OpsL.skipped rfl rfl (d := 90) rfl rfl rfl ?_
                        refine OpsL.skipped rfl rfl (d := 90) rfl rfl rfl ?_
                        refine OpsL.skipped rfl rfl (d := 90) rfl rfl rfl ?_
                        refine OpsL.skippedU rfl rfl (d := 94) rfl rfl ?_
                        refine OpsL.skippedU rfl rfl (d := 94) rfl rfl ?_
                        refine OpsL.skippedU rfl rfl (d := 94) rfl rfl ?_
                        refine OpsL.skippedU rfl rfl (d := 94) rfl rfl ?_
                        refine OpsL.skippedU rfl rfl (d := 94) rfl rfl ?_
                        refine OpsL.skippedU rfl rfl (d := 94) rfl rfl ?_
                        refine OpsL.skippedU rfl rfl (d := 94) rfl rfl ?_
                        refine OpsL.skipped rfl rfl (d := 90) rfl rfl rfl ?_
                        refine OpsL.val rfl rfl (r_pickF (v := (.bool _)) rfl rfl) ?_
                        refine OpsL.val rfl rfl (r_asB rfl) ?_
                        refine OpsL.nil ?_
                        refine Then.norm ?_
                        refine W.ret ?_
                        -- return r8
                        refine Post.ret1 Tryz.results53 ?_
                        refine ⟨h127, _, rfl, st129.done, ?_⟩
                        refine bool_eq ?_
                        exact dec2_f2 ht hk40 c39 g116 g123 g124 g131
                    ·
                      replace g124 := of_decide_eq_false g124
                      refine OpsL.skipped rfl rfl (d := 80) rfl rfl rfl ?_
                      refine OpsL.skipped rfl rfl (d := 80) rfl rfl rfl ?_
                      refine OpsL.skipped rfl rfl (d := 80) rfl rfl rfl ?_
                      refine OpsL.skipped rfl rfl (d := 80) rfl rfl rfl ?_
                      refine OpsL.skippedU rfl rfl (d := 84) rfl rfl ?_
                      refine OpsL.skippedU rfl rfl (d := 84) rfl rfl ?_
                      refine OpsL.skippedU rfl rfl (d := 84) rfl rfl ?_
                      refine OpsL.skipped rfl rfl (d := 80) rfl rfl rfl ?_
                      refine OpsL.val rfl rfl (r_pickF (v := (.bool _)) rfl rfl) ?_
                      refine OpsL.val rfl rfl (r_mvB rfl) ?_
                      refine OpsL.skipped rfl rfl (d := 90) rfl rfl rfl ?_
                      refine OpsL.skipped rfl rfl (d := 90) rfl rfl rfl ?_
                      refine OpsL.skipped rfl rfl (d := 90) rfl rfl rfl ?_
                      refine OpsL.skipped rfl rfl (d := 90) rfl rfl rfl ?_
                      refine OpsL.skippedU rfl rfl (d := 94) rfl rfl ?_
                      refine OpsL.skippedU rfl rfl (d := 94) rfl rfl ?_
                      refine OpsL.skippedU rfl rfl (d := 94) rfl rfl ?_
                      refine OpsL.skippedU rfl rfl (d := 94) rfl rfl ?_
                      refine OpsL.skippedU rfl rfl (d := 94) rfl rfl ?_
                      refine OpsL.skippedU rfl rfl (d := 94) rfl rfl ?_
                      refine OpsL.skippedU rfl rfl (d := 94) rfl rfl ?_
                      refine OpsL.skipped rfl rfl (d := 90) rfl rfl rfl ?_
                      refine OpsL.val rfl rfl (r_pickF (v := (.bool _)) rfl rfl) ?_
                      refine OpsL.val rfl rfl (r_asB rfl) ?_
                      refine OpsL.nil ?_
                      refine Then.norm ?_
                      refine W.ret ?_
                      -- return r9
                      refine Post.ret1 Tryz.results53 ?_
                      refine ⟨h119, _, rfl, st121.done, ?_⟩
                      refine bool_eq ?_
                      exact dec2_f1 ht hk40 c39 g116 g123 g124
                  ·
                    refine OpsL.skipped rfl rfl (d := 71) rfl rfl rfl ?_
                    refine OpsL.skipped rfl rfl (d := 71) rfl rfl rfl ?_
                    refine OpsL.skipped rfl rfl (d := 71) rfl rfl rfl ?_
                    refine OpsL.skipped rfl rfl (d := 71) rfl rfl rfl ?_
                    refine OpsL.skippedU rfl rfl (d := 75) rfl rfl ?_
                    refine OpsL.skippedU rfl rfl (d := 75) rfl rfl ?_
                    refine OpsL.skipped rfl rfl (d := 71) rfl rfl rfl ?_
                    refine OpsL.val rfl rfl (r_pickF (v := (.bool _)) rfl rfl) ?_
                    refine OpsL.val rfl rfl (r_mvB rfl) ?_
                    refine OpsL.skipped rfl rfl (d := 80) rfl rfl rfl ?_
                    refine OpsL.skipped rfl rfl (d := 80) rfl rfl rfl ?_
                    refine OpsL.skipped rfl rfl (d := 80) rfl rfl rfl ?_
                    refine OpsL.skipped rfl rfl (d := 80) rfl rfl rfl ?_
                    refine OpsL.skippedU rfl rfl (d := 84) rfl rfl ?_
                    refine OpsL.skippedU rfl rfl (d := 84) rfl rfl ?_
                    refine OpsL.skippedU rfl rfl (d := 84) rfl rfl ?_
                    refine OpsL.skipped rfl rfl (d := 80) rfl rfl rfl ?_
                    refine OpsL.val rfl rfl (r_pickF (v := (.bool _)) rfl rfl) ?_
                    refine OpsL.val rfl rfl (r_mvB rfl) ?_
                    refine OpsL.skipped rfl rfl (d := 90) rfl rfl rfl ?_
                    refine OpsL.skipped rfl rfl (d := 90) rfl rfl rfl ?_
                    refine OpsL.skipped rfl rfl (d := 90) rfl rfl rfl ?_
                    refine OpsL.skipped rfl rfl (d := 90) rfl rfl rfl ?_
                    refine OpsL.skippedU rfl rfl (d := 94) rfl rfl ?_
                    refine OpsL.skippedU rfl rfl (d := 94) rfl rfl ?_
                    refine OpsL.skippedU rfl rfl (d := 94) rfl rfl ?_
                    refine OpsL.skippedU rfl rfl (d := 94) rfl rfl ?_
                    refine OpsL.skippedU rfl rfl (d := 94) rfl rfl ?_
                    refine OpsL.skippedU rfl rfl (d := 94) rfl rfl ?_
                    refine OpsL.skippedU rfl rfl (d := 94) rfl rfl ?_
                    refine OpsL.skipped rfl rfl (d := 90) rfl rfl rfl ?_
                    refine OpsL.val rfl rfl (r_pickF (v := (.bool _)) rfl rfl) ?_
                    refine OpsL.val rfl rfl (r_asB rfl) ?_
                    refine OpsL.nil ?_
                    refine Then.norm ?_
                    refine W.ret ?_
                    -- return r10
                    refine Post.ret1 Tryz.results53 ?_
                    refine ⟨h119, _, rfl, st121.done, ?_⟩
                    refine bool_eq ?_
                    exact dec2_f0 ht hk40 c39 g116 g123
                ·
                  replace g116 := of_decide_eq_false g116
                  refine OpsL.skipped rfl rfl (d := 61) rfl rfl rfl ?_
                  refine OpsL.skipped rfl rfl (d := 61) rfl rfl rfl ?_
                  refine OpsL.skipped rfl rfl (d := 61) rfl rfl rfl ?_
                  refine OpsL.skipped rfl rfl (d := 61) rfl rfl rfl ?_
                  refine OpsL.skippedU rfl rfl (d := 65) rfl rfl ?_
                  refine OpsL.skippedU rfl rfl (d := 65) rfl rfl ?_
                  refine OpsL.skippedU rfl rfl (d := 65) rfl rfl ?_
                  refine OpsL.skipped rfl rfl (d := 61) rfl rfl rfl ?_
                  refine OpsL.val rfl rfl (r_pickF (v := (.bool _)) rfl rfl) ?_
                  refine OpsL.val rfl rfl (r_mvB rfl) ?_
                  refine OpsL.skipped rfl rfl (d := 71) rfl rfl rfl ?_
                  refine OpsL.skipped rfl rfl (d := 71) rfl rfl rfl ?_
                  refine OpsL.skipped rfl rfl (d := 71) rfl rfl rfl ?_
                  refine OpsL.skipped rfl rfl (d := 71) rfl rfl rfl ?_
                  refine OpsL.skippedU rfl rfl (d := 75) rfl rfl ?_
                  refine OpsL.skippedU rfl rfl (d := 75) rfl rfl ?_
                  refine OpsL.skipped rfl rfl (d := 71) rfl rfl rfl ?_
                  refine OpsL.val rfl rfl (r_pickF (v := (.bool _)) rfl rfl) ?_
                  refine OpsL.val rfl rfl (r_mvB rfl) ?_
                  refine OpsL.skipped rfl rfl (d := 80) rfl rfl rfl ?_
                  refine OpsL.skipped rfl rfl (d := 80) rfl rfl rfl ?_
                  refine OpsL.skipped rfl rfl (d := 80) rfl rfl rfl ?_
                  refine OpsL.skipped rfl rfl (d := 80) rfl rfl rfl ?_
                  refine OpsL.skippedU rfl rfl (d := 84) rfl rfl ?_
                  refine OpsL.skippedU rfl rfl (d := 84) rfl rfl ?_
                  refine OpsL.skippedU rfl rfl (d := 84) rfl rfl ?_
                  refine OpsL.skipped rfl rfl (d := 80) rfl rfl rfl ?_
                  refine OpsL.val rfl rfl (r_pickF (v := (.bool _)) rfl rfl) ?_
                  refine OpsL.val rfl rfl (r_mvB rfl) ?_
                  refine OpsL.skipped rfl rfl (d := 90) rfl rfl rfl ?_
                  refine OpsL.skipped rfl rfl (d := 90) rfl rfl rfl ?_
                  refine OpsL.skipped rfl rfl (d := 90) rfl rfl rfl ?_
                  refine OpsL.skipped rfl rfl (d := 90) rfl rfl rfl ?_
                  refine OpsL.skippedU rfl rfl (d := 94) rfl rfl ?_
                  refine OpsL.skippedU rfl rfl (d := 94) rfl rfl ?_
                  refine OpsL.skippedU rfl rfl (d := 94) rfl rfl ?_
                  refine OpsL.skippedU rfl rfl (d := 94) rfl rfl ?_
                  refine OpsL.skippedU rfl rfl (d := 94) rfl rfl ?_
                  refine OpsL.skippedU rfl rfl (d := 94) rfl rfl ?_
                  refine OpsL.skippedU rfl rfl (d := 94) rfl rfl ?_
                  refine OpsL.skipped rfl rfl (d := 90) rfl rfl rfl ?_
                  refine OpsL.val rfl rfl (r_pickF (v := (.bool _)) rfl rfl) ?_
                  refine OpsL.val rfl rfl (r_asB rfl) ?_
                  refine OpsL.nil ?_
                  refine Then.norm ?_
                  refine W.ret ?_
                  -- return r11
                  refine Post.ret1 Tryz.results53 ?_
                  refine ⟨h112, _, rfl, st114.done, ?_⟩
                  refine bool_eq ?_
                  exact dec2_n ht hk40 c39 g116
            ·
              cases c106
          ·
            cases c103
        ·
          cases c100
      ·
        refine W.region ?_
        refine OpsL.val rfl rfl (r_field_addr rfl Tryz.underlying56 rfl Tryz.sizeOf5 rfl) ?_
        refine OpsL.val rfl rfl (r_load_cells1 (j := 1) st37.sub (hc11.up (((le18.trans le22).trans le32).trans le36)) rfl rfl rfl Tryz.isAgg5) ?_
        refine OpsL.val rfl rfl (r_index_arr rfl rfl (show _ = ((3 : Nat) : Int) by rw [hk40]; rfl) rfl Tryz.underlying165 Tryz.sizeOf164) ?_
        refine OpsL.val rfl rfl (r_load_cellsN (j := 15) st37.sub (K0.up (((((le4.trans le10).trans le18).trans le22).trans le32).trans le36)) (us := [.bool false, .bool true, .bool true, .bool false, .func (.func 220) #[] #[]]) rfl rfl Tryz.isAgg164 Tryz.sizeOf164 rfl rfl) ?_
        refine OpsL.allocO st37 Tryz.zeroValue164 rfl rfl ?_
        intro b132 w133 st134
        refine OpsL.storeN st134 (k := 0) rfl rfl rfl (one_cons rfl (one_cons rfl (one_cons rfl (one_cons rfl (one_cons rfl one_nil))))) Tryz.sizeOf164 rfl rfl rfl ?_
        intro w135 st136
        obtain ⟨h137, le138, hb139, st141⟩ := st136.freeze (k := 0) rfl
        have hc140 := Cells.of hb139
        refine OpsL.nil ?_
        refine Then.norm ?_
        refine W.seq ?_
        refine W.region ?_
        refine OpsL.val rfl rfl (r_field_addr rfl Tryz.underlying56 rfl Tryz.sizeOf3 rfl) ?_
        refine OpsL.val rfl rfl (r_load_cells1 (j := 0) st141.sub (hc11.up ((((le18.trans le22).trans le32).trans le36).trans le138)) rfl rfl rfl Tryz.isAgg3) ?_
        refine OpsL.val rfl rfl (r_field_addr rfl Tryz.underlying56 rfl Tryz.sizeOf5 rfl) ?_
        refine OpsL.val rfl rfl (r_load_cells1 (j := 1) st141.sub (hc11.up ((((le18.trans le22).trans le32).trans le36).trans le138)) rfl rfl rfl Tryz.isAgg5) ?_
        refine OpsL.val rfl rfl (r_build (cs := [.int .i64 (d.number), .int .u8 (d.kind), strV [], .int .i64 0, .int .i64 0, .int .i64 0, strV [], .int .u8 0, .int .i64 0]) (by kernel_rfl)) ?_
        refine OpsL.allocO st141 Tryz.zeroValue56 rfl rfl ?_
        intro b142 w143 st144
        refine OpsL.storeN st144 (k := 1) rfl rfl rfl (one_cons rfl (one_cons rfl (one_cons rfl (one_cons rfl (one_cons rfl (one_cons rfl (one_cons rfl (one_cons rfl (one_cons rfl one_nil))))))))) Tryz.sizeOf56 rfl rfl rfl ?_
        intro w145 st146
        refine OpsL.nil ?_
        refine Then.norm ?_
        refine W.seq ?_
        refine W.seq ?_
        refine W.region ?_
        refine OpsL.val rfl rfl (r_field_addr rfl Tryz.underlying164 rfl Tryz.sizeOf4 rfl) ?_
        refine OpsL.val rfl rfl (r_load_cells1 (j := 0) st146.sub hc140 rfl rfl rfl Tryz.isAgg4) ?_
        refine OpsL.nil ?_
        refine Then.norm ?_
        refine W.cond rfl (fun c147 => ?_) (fun c147 => ?_)
        ·
          cases c147
        ·
          refine W.skip ?_
          refine Then.norm ?_
          refine W.seq ?_
          refine W.seq ?_
          refine W.region ?_
          refine OpsL.val rfl rfl (r_field_addr rfl Tryz.underlying164 rfl Tryz.sizeOf4 rfl) ?_
          refine OpsL.val rfl rfl (r_load_cells1 (j := 1) st146.sub hc140 rfl rfl rfl Tryz.isAgg4) ?_
          refine OpsL.nil ?_
          refine Then.norm ?_
          refine W.cond rfl (fun c148 => ?_) (fun c148 => ?_)
          ·
            refine W.region ?_
            refine OpsL.val rfl rfl (r_field_addr rfl Tryz.underlying56 rfl Tryz.sizeOf52 rfl) ?_
            refine OpsL.val rfl rfl (r_load_cellsN (j := 3) st146.sub (hc11.up ((((le18.trans le22).trans le32).trans le36).trans le138)) (us := [.int .i64 (d.at_.chapter), .int .i64 (d.at_.line), .int .i64 (d.at_.word)]) rfl rfl Tryz.isAgg52 Tryz.sizeOf52 rfl rfl) ?_
            refine OpsL.val rfl rfl (r_field_addr rfl Tryz.underlying56 rfl Tryz.sizeOf52 rfl) ?_
            refine OpsL.storeN st146 (k := 1) rfl rfl rfl (one_cons rfl (one_cons rfl (one_cons rfl one_nil))) Tryz.sizeOf52 rfl rfl rfl ?_
            intro w149 st150
            refine OpsL.nil ?_
            refine Then.norm ?_
            refine W.seq ?_
            refine W.seq ?_
            refine W.region ?_
            refine OpsL.val rfl rfl (r_field_addr rfl Tryz.underlying164 rfl Tryz.sizeOf4 rfl) ?_
            refine OpsL.val rfl rfl (r_load_cells1 (j := 2) st150.sub hc140 rfl rfl rfl Tryz.isAgg4) ?_
            refine OpsL.nil ?_
            refine Then.norm ?_
            refine W.cond rfl (fun c151 => ?_) (fun c151 => ?_)
            ·
              refine W.region ?_
              refine OpsL.val rfl rfl (r_field_addr rfl Tryz.underlying56 rfl Tryz.sizeOf54 rfl) ?_
              refine OpsL.val rfl rfl (r_load_cellsN (j := 6) st150.sub (hc11.up ((((le18.trans le22).trans le32).trans le36).trans le138)) (us := [strV (d.to.stem), .int .u8 (d.to.mark)]) rfl rfl Tryz.isAgg54 Tryz.sizeOf54 rfl rfl) ?_
              refine OpsL.val rfl rfl (r_field_addr rfl Tryz.underlying56 rfl Tryz.sizeOf54 rfl) ?_
              refine OpsL.storeN st150 (k := 1) rfl rfl rfl (one_cons rfl (one_cons rfl one_nil)) Tryz.sizeOf54 rfl rfl rfl ?_
              intro w152 st153
              refine OpsL.nil ?_
              refine Then.norm ?_
              refine W.seq ?_
              refine W.seq ?_
              refine W.region ?_
              refine OpsL.val rfl rfl (r_field_addr rfl Tryz.underlying164 rfl Tryz.sizeOf4 rfl) ?_
              refine OpsL.val rfl rfl (r_load_cells1 (j := 3) st153.sub hc140 rfl rfl rfl Tryz.isAgg4) ?_
              refine OpsL.nil ?_
              refine Then.norm ?_
              refine W.cond rfl (fun c154 => ?_) (fun c154 => ?_)
              ·
                cases c154
              ·
                refine W.skip ?_
                refine Then.norm ?_
                refine W.seq ?_
                refine W.region ?_
                refine OpsL.val rfl rfl (r_load_call st153.sub (hc5.up (((((le10.trans le18).trans le22).trans le32).trans le36).trans le138)) rfl Tryz.isAgg24 Tryz.sizeOf24 rfl) ?_
                refine OpsL.val rfl rfl (r_field_addr rfl Tryz.underlying56 rfl Tryz.sizeOf52 rfl) ?_
                refine OpsL.val rfl rfl (r_load_cellsN (j := 3) st153.sub (hc11.up ((((le18.trans le22).trans le32).trans le36).trans le138)) (us := [.int .i64 (d.at_.chapter), .int .i64 (d.at_.line), .int .i64 (d.at_.word)]) rfl rfl Tryz.isAgg52 Tryz.sizeOf52 rfl rfl) ?_
                refine OpsL.callF st153 rfl rfl rfl Tryz.call99 rfl (c_leaf_At st153.sub (t := t) (t_f0.up ((((((le4.trans le10).trans le18).trans le22).trans le32).trans le36).trans le138)) (p := d.at_)) ?_
                intro r155 w156 h157 le158 st159 q160
                obtain rfl := q160
                refine OpsL.val rfl rfl (r_mvT rfl) ?_
                refine OpsL.val rfl rfl (r_extract (v := (strV _)) rfl rfl) ?_
                refine OpsL.val rfl rfl (r_extract (v := (.int _ _)) rfl rfl) ?_
                refine OpsL.val rfl rfl (r_asS rfl) ?_
                refine OpsL.val rfl rfl (r_asI rfl) ?_
                refine OpsL.nil ?_
                refine Then.norm ?_
                refine W.seq ?_
                have qn : 1 ≤ d.number ∧ d.number ≤ 999 := by
                  have q := c39
                  simp [inAll, inB] at q
                  omega
                refine W.region ?_
                refine OpsL.val rfl rfl (r_load_call st159.sub (hc11.up (((((le18.trans le22).trans le32).trans le36).trans le138).trans le158)) rfl Tryz.isAgg56 Tryz.sizeOf56 rfl) ?_
                refine OpsL.val rfl rfl (r_load_ball (st159.get (k := 1) rfl) rfl Tryz.isAgg56 Tryz.sizeOf56 rfl) ?_
                refine OpsL.val rfl rfl (r_steql rfl rfl Tryz.eqGuardType56 (Tryz.eq_Decision d (Decision.mk (d.number) (d.kind) ([]) (Place.mk (d.at_.chapter) (d.at_.line) (d.at_.word)) (Head.mk (d.to.stem) (d.to.mark)) 0))) ?_
                refine OpsL.val rfl rfl (r_mvB rfl) ?_
                refine OpsL.split (d := 61) rfl (fun g161 => ?_) (fun g161 => ?_)
                ·
                  replace g161 := of_decide_eq_true g161
                  refine OpsL.guarded rfl rfl (d := 61) rfl ?_
                  refine OpsL.val rfl rfl (r_field_addr rfl Tryz.underlying164 rfl Tryz.sizeOf4 rfl) ?_
                  refine OpsL.guarded rfl rfl (d := 61) rfl ?_
                  refine OpsL.val rfl rfl (r_load_cells1 (j := 0) st159.sub (hc140.up le158) rfl rfl rfl Tryz.isAgg4) ?_
                  refine OpsL.guarded rfl rfl (d := 61) rfl ?_
                  refine OpsL.val rfl rfl (r_not rfl) ?_
                  refine OpsL.guarded rfl rfl (d := 61) rfl ?_
                  refine OpsL.val rfl rfl (r_mvB rfl) ?_
                  refine OpsL.skipped rfl rfl (d := 65) rfl rfl rfl ?_
                  refine OpsL.skipped rfl rfl (d := 65) rfl rfl rfl ?_
                  refine OpsL.skipped rfl rfl (d := 65) rfl rfl rfl ?_
                  refine OpsL.guarded rfl rfl (d := 61) rfl ?_
                  refine OpsL.val rfl rfl (r_pickT (v := (.bool _)) rfl rfl) ?_
                  refine OpsL.val rfl rfl (r_pickT (v := (.bool _)) rfl rfl) ?_
                  refine OpsL.val rfl rfl (r_mvB rfl) ?_
                  refine OpsL.guarded rfl rfl (d := 71) rfl ?_
                  refine OpsL.val rfl rfl (r_field_addr rfl Tryz.underlying164 rfl Tryz.sizeOf4 rfl) ?_
                  refine OpsL.guarded rfl rfl (d := 71) rfl ?_
                  refine OpsL.val rfl rfl (r_load_cells1 (j := 1) st159.sub (hc140.up le158) rfl rfl rfl Tryz.isAgg4) ?_
                  refine OpsL.guarded rfl rfl (d := 71) rfl ?_
                  refine OpsL.val rfl rfl (r_not rfl) ?_
                  refine OpsL.guarded rfl rfl (d := 71) rfl ?_
                  refine OpsL.val rfl rfl (r_mvB rfl) ?_
                  refine OpsL.guarded rfl rfl (d := 75) rfl ?_
                  refine OpsL.val rfl rfl (r_mvI rfl) ?_
                  refine OpsL.guarded rfl rfl (d := 75) rfl ?_
                  refine OpsL.val rfl rfl (r_eql rfl rfl) ?_
                  refine OpsL.guarded rfl rfl (d := 71) rfl ?_
                  refine OpsL.val rfl rfl (r_pickF (v := (.bool _)) rfl rfl) ?_
                  refine OpsL.val rfl rfl (r_pickT (v := (.bool _)) rfl rfl) ?_
                  refine OpsL.val rfl rfl (r_mvB rfl) ?_
                  refine OpsL.split (d := 80) rfl (fun g162 => ?_) (fun g162 => ?_)
                  ·
                    replace g162 := of_decide_eq_true g162
                    refine OpsL.guarded rfl rfl (d := 80) rfl ?_
                    refine OpsL.val rfl rfl (r_field_addr rfl Tryz.underlying164 rfl Tryz.sizeOf4 rfl) ?_
                    refine OpsL.guarded rfl rfl (d := 80) rfl ?_
                    refine OpsL.val rfl rfl (r_load_cells1 (j := 2) st159.sub (hc140.up le158) rfl rfl rfl Tryz.isAgg4) ?_
                    refine OpsL.guarded rfl rfl (d := 80) rfl ?_
                    refine OpsL.val rfl rfl (r_not rfl) ?_
                    refine OpsL.guarded rfl rfl (d := 80) rfl ?_
                    refine OpsL.val rfl rfl (r_mvB rfl) ?_
                    refine OpsL.guarded rfl rfl (d := 84) rfl ?_
                    refine OpsL.val rfl rfl (r_field_addr rfl Tryz.underlying56 rfl Tryz.sizeOf54 rfl) ?_
                    refine OpsL.guarded rfl rfl (d := 84) rfl ?_
                    refine OpsL.val rfl rfl (r_load_cellsN (j := 6) st159.sub (hc11.up (((((le18.trans le22).trans le32).trans le36).trans le138).trans le158)) (us := [strV (d.to.stem), .int .u8 (d.to.mark)]) rfl rfl Tryz.isAgg54 Tryz.sizeOf54 rfl rfl) ?_
                    refine OpsL.guarded rfl rfl (d := 84) rfl ?_
                    refine OpsL.callF st159 rfl rfl rfl Tryz.call100 rfl (c_stem_right st159.sub (hd := d.to) (by first | assumption | (simp [big]; done) | (simp [big]; omega) | omega) (by first | assumption | decide | omega)) ?_
                    intro r163 w164 h165 le166 st167 q168
                    obtain rfl := q168
                    refine OpsL.guarded rfl rfl (d := 80) rfl ?_
                    refine OpsL.val rfl rfl (r_pickF (v := (.bool _)) rfl rfl) ?_
                    refine OpsL.val rfl rfl (r_pickT (v := (.bool _)) rfl rfl) ?_
                    refine OpsL.val rfl rfl (r_mvB rfl) ?_
                    refine OpsL.split (d := 90) rfl (fun g169 => ?_) (fun g169 => ?_)
                    ·
                      refine OpsL.guarded rfl rfl (d := 90) rfl ?_
                      refine OpsL.val rfl rfl (r_field_addr rfl Tryz.underlying164 rfl Tryz.sizeOf4 rfl) ?_
                      refine OpsL.guarded rfl rfl (d := 90) rfl ?_
                      refine OpsL.val rfl rfl (r_load_cells1 (j := 3) st167.sub (hc140.up (le158.trans le166)) rfl rfl rfl Tryz.isAgg4) ?_
                      refine OpsL.guarded rfl rfl (d := 90) rfl ?_
                      refine OpsL.val rfl rfl (r_not rfl) ?_
                      refine OpsL.guarded rfl rfl (d := 90) rfl ?_
                      refine OpsL.val rfl rfl (r_mvB rfl) ?_
                      refine OpsL.skipped rfl rfl (d := 94) rfl rfl rfl ?_
                      refine OpsL.skipped rfl rfl (d := 94) rfl rfl rfl ?_
                      refine OpsL.skipped rfl rfl (d := 94) rfl rfl rfl ?_
                      refine OpsL.skipped rfl rfl (d := 94) rfl rfl rfl ?_
                      refine OpsL.skipped rfl rfl (d := 94) rfl rfl rfl ?_
                      refine OpsL.skipped rfl rfl (d := 94) rfl rfl rfl ?_
                      refine OpsL.skipped rfl rfl (d := 94) rfl rfl rfl ?_
                      refine OpsL.guarded rfl rfl (d := 90) rfl ?_
                      refine OpsL.val rfl rfl (r_pickT (v := (.bool _)) rfl rfl) ?_
                      refine OpsL.val rfl rfl (r_pickT (v := (.bool _)) rfl rfl) ?_
                      refine OpsL.val rfl rfl (r_asB rfl) ?_
                      refine OpsL.nil ?_
                      refine Then.norm ?_
                      refine W.ret ?_
                      -- return r12
                      refine Post.ret1 Tryz.results53 ?_
                      refine ⟨h165, _, rfl, st167.done, ?_⟩
                      refine bool_eq ?_
                      exact dec3_t ht hk40 c39 g161 g162 g169
                    ·
                      refine OpsL.skipped rfl rfl (d := 90) rfl rfl rfl ?_
                      refine OpsL.skipped rfl rfl (d := 90) rfl rfl rfl ?_
                      refine OpsL.skipped rfl rfl (d := 90) rfl rfl rfl ?_
                      refine OpsL.skipped rfl rfl (d := 90) rfl rfl rfl ?_
                      refine OpsL.skippedU rfl rfl (d := 94) rfl rfl ?_
                      refine OpsL.skippedU rfl rfl (d := 94) rfl rfl ?_
                      refine OpsL.skippedU rfl rfl (d := 94) rfl rfl ?_
                      refine OpsL.skippedU rfl rfl (d := 94) rfl rfl ?_
                      refine OpsL.skippedU rfl rfl (d := 94) rfl rfl ?_
                      refine OpsL.skippedU rfl rfl (d := 94) rfl rfl ?_
                      refine OpsL.skippedU rfl rfl (d := 94) rfl rfl ?_
                      refine OpsL.skipped rfl rfl (d := 90) rfl rfl rfl ?_
                      refine OpsL.val rfl rfl (r_pickF (v := (.bool _)) rfl rfl) ?_
                      refine OpsL.val rfl rfl (r_asB rfl) ?_
                      refine OpsL.nil ?_
                      refine Then.norm ?_
                      refine W.ret ?_
                      -- return r13
                      refine Post.ret1 Tryz.results53 ?_
                      refine ⟨h165, _, rfl, st167.done, ?_⟩
                      refine bool_eq ?_
                      exact dec3_f1 ht hk40 c39 g161 g162 g169
                  ·
                    replace g162 := of_decide_eq_false g162
                    refine OpsL.skipped rfl rfl (d := 80) rfl rfl rfl ?_
                    refine OpsL.skipped rfl rfl (d := 80) rfl rfl rfl ?_
                    refine OpsL.skipped rfl rfl (d := 80) rfl rfl rfl ?_
                    refine OpsL.skipped rfl rfl (d := 80) rfl rfl rfl ?_
                    refine OpsL.skippedU rfl rfl (d := 84) rfl rfl ?_
                    refine OpsL.skippedU rfl rfl (d := 84) rfl rfl ?_
                    refine OpsL.skippedU rfl rfl (d := 84) rfl rfl ?_
                    refine OpsL.skipped rfl rfl (d := 80) rfl rfl rfl ?_
                    refine OpsL.val rfl rfl (r_pickF (v := (.bool _)) rfl rfl) ?_
                    refine OpsL.val rfl rfl (r_mvB rfl) ?_
                    refine OpsL.skipped rfl rfl (d := 90) rfl rfl rfl ?_
                    refine OpsL.skipped rfl rfl (d := 90) rfl rfl rfl ?_
                    refine OpsL.skipped rfl rfl (d := 90) rfl rfl rfl ?_
                    refine OpsL.skipped rfl rfl (d := 90) rfl rfl rfl ?_
                    refine OpsL.skippedU rfl rfl (d := 94) rfl rfl ?_
                    refine OpsL.skippedU rfl rfl (d := 94) rfl rfl ?_
                    refine OpsL.skippedU rfl rfl (d := 94) rfl rfl ?_
                    refine OpsL.skippedU rfl rfl (d := 94) rfl rfl ?_
                    refine OpsL.skippedU rfl rfl (d := 94) rfl rfl ?_
                    refine OpsL.skippedU rfl rfl (d := 94) rfl rfl ?_
                    refine OpsL.skippedU rfl rfl (d := 94) rfl rfl ?_
                    refine OpsL.skipped rfl rfl (d := 90) rfl rfl rfl ?_
                    refine OpsL.val rfl rfl (r_pickF (v := (.bool _)) rfl rfl) ?_
                    refine OpsL.val rfl rfl (r_asB rfl) ?_
                    refine OpsL.nil ?_
                    refine Then.norm ?_
                    refine W.ret ?_
                    -- return r14
                    refine Post.ret1 Tryz.results53 ?_
                    refine ⟨h157, _, rfl, st159.done, ?_⟩
                    refine bool_eq ?_
                    exact dec3_f0 ht hk40 c39 g161 g162
                ·
                  replace g161 := of_decide_eq_false g161
                  refine OpsL.skipped rfl rfl (d := 61) rfl rfl rfl ?_
                  refine OpsL.skipped rfl rfl (d := 61) rfl rfl rfl ?_
                  refine OpsL.skipped rfl rfl (d := 61) rfl rfl rfl ?_
                  refine OpsL.skipped rfl rfl (d := 61) rfl rfl rfl ?_
                  refine OpsL.skippedU rfl rfl (d := 65) rfl rfl ?_
                  refine OpsL.skippedU rfl rfl (d := 65) rfl rfl ?_
                  refine OpsL.skippedU rfl rfl (d := 65) rfl rfl ?_
                  refine OpsL.skipped rfl rfl (d := 61) rfl rfl rfl ?_
                  refine OpsL.val rfl rfl (r_pickF (v := (.bool _)) rfl rfl) ?_
                  refine OpsL.val rfl rfl (r_mvB rfl) ?_
                  refine OpsL.skipped rfl rfl (d := 71) rfl rfl rfl ?_
                  refine OpsL.skipped rfl rfl (d := 71) rfl rfl rfl ?_
                  refine OpsL.skipped rfl rfl (d := 71) rfl rfl rfl ?_
                  refine OpsL.skipped rfl rfl (d := 71) rfl rfl rfl ?_
                  refine OpsL.skippedU rfl rfl (d := 75) rfl rfl ?_
                  refine OpsL.skippedU rfl rfl (d := 75) rfl rfl ?_
                  refine OpsL.skipped rfl rfl (d := 71) rfl rfl rfl ?_
                  refine OpsL.val rfl rfl (r_pickF (v := (.bool _)) rfl rfl) ?_
                  refine OpsL.val rfl rfl (r_mvB rfl) ?_
                  refine OpsL.skipped rfl rfl (d := 80) rfl rfl rfl ?_
                  refine OpsL.skipped rfl rfl (d := 80) rfl rfl rfl ?_
                  refine OpsL.skipped rfl rfl (d := 80) rfl rfl rfl ?_
                  refine OpsL.skipped rfl rfl (d := 80) rfl rfl rfl ?_
                  refine OpsL.skippedU rfl rfl (d := 84) rfl rfl ?_
                  refine OpsL.skippedU rfl rfl (d := 84) rfl rfl ?_
                  refine OpsL.skippedU rfl rfl (d := 84) rfl rfl ?_
                  refine OpsL.skipped rfl rfl (d := 80) rfl rfl rfl ?_
                  refine OpsL.val rfl rfl (r_pickF (v := (.bool _)) rfl rfl) ?_
                  refine OpsL.val rfl rfl (r_mvB rfl) ?_
                  refine OpsL.skipped rfl rfl (d := 90) rfl rfl rfl ?_
                  refine OpsL.skipped rfl rfl (d := 90) rfl rfl rfl ?_
                  refine OpsL.skipped rfl rfl (d := 90) rfl rfl rfl ?_
                  refine OpsL.skipped rfl rfl (d := 90) rfl rfl rfl ?_
                  refine OpsL.skippedU rfl rfl (d := 94) rfl rfl ?_
                  refine OpsL.skippedU rfl rfl (d := 94) rfl rfl ?_
                  refine OpsL.skippedU rfl rfl (d := 94) rfl rfl ?_
                  refine OpsL.skippedU rfl rfl (d := 94) rfl rfl ?_
                  refine OpsL.skippedU rfl rfl (d := 94) rfl rfl ?_
                  refine OpsL.skippedU rfl rfl (d := 94) rfl rfl ?_
                  refine OpsL.skippedU rfl rfl (d := 94) rfl rfl ?_
                  refine OpsL.skipped rfl rfl (d := 90) rfl rfl rfl ?_
                  refine OpsL.val rfl rfl (r_pickF (v := (.bool _)) rfl rfl) ?_
                  refine OpsL.val rfl rfl (r_asB rfl) ?_
                  refine OpsL.nil ?_
                  refine Then.norm ?_
                  refine W.ret ?_
                  -- return r15
                  refine Post.ret1 Tryz.results53 ?_
                  refine ⟨h157, _, rfl, st159.done, ?_⟩
                  refine bool_eq ?_
                  exact dec3_n ht hk40 c39 g161
            ·
              cases c151
          ·
            cases c148
      ·
        refine W.region ?_
        refine OpsL.val rfl rfl (r_field_addr rfl Tryz.underlying56 rfl Tryz.sizeOf5 rfl) ?_
        refine OpsL.val rfl rfl (r_load_cells1 (j := 1) st37.sub (hc11.up (((le18.trans le22).trans le32).trans le36)) rfl rfl rfl Tryz.isAgg5) ?_
        refine OpsL.val rfl rfl (r_index_arr rfl rfl (show _ = ((4 : Nat) : Int) by rw [hk40]; rfl) rfl Tryz.underlying165 Tryz.sizeOf164) ?_
        refine OpsL.val rfl rfl (r_load_cellsN (j := 20) st37.sub (K0.up (((((le4.trans le10).trans le18).trans le22).trans le32).trans le36)) (us := [.bool false, .bool false, .bool false, .bool true, .func (.func 221) #[] #[]]) rfl rfl Tryz.isAgg164 Tryz.sizeOf164 rfl rfl) ?_
        refine OpsL.allocO st37 Tryz.zeroValue164 rfl rfl ?_
        intro b170 w171 st172
        refine OpsL.storeN st172 (k := 0) rfl rfl rfl (one_cons rfl (one_cons rfl (one_cons rfl (one_cons rfl (one_cons rfl one_nil))))) Tryz.sizeOf164 rfl rfl rfl ?_
        intro w173 st174
        obtain ⟨h175, le176, hb177, st179⟩ := st174.freeze (k := 0) rfl
        have hc178 := Cells.of hb177
        refine OpsL.nil ?_
        refine Then.norm ?_
        refine W.seq ?_
        refine W.region ?_
        refine OpsL.val rfl rfl (r_field_addr rfl Tryz.underlying56 rfl Tryz.sizeOf3 rfl) ?_
        refine OpsL.val rfl rfl (r_load_cells1 (j := 0) st179.sub (hc11.up ((((le18.trans le22).trans le32).trans le36).trans le176)) rfl rfl rfl Tryz.isAgg3) ?_
        refine OpsL.val rfl rfl (r_field_addr rfl Tryz.underlying56 rfl Tryz.sizeOf5 rfl) ?_
        refine OpsL.val rfl rfl (r_load_cells1 (j := 1) st179.sub (hc11.up ((((le18.trans le22).trans le32).trans le36).trans le176)) rfl rfl rfl Tryz.isAgg5) ?_
        refine OpsL.val rfl rfl (r_build (cs := [.int .i64 (d.number), .int .u8 (d.kind), strV [], .int .i64 0, .int .i64 0, .int .i64 0, strV [], .int .u8 0, .int .i64 0]) (by kernel_rfl)) ?_
        refine OpsL.allocO st179 Tryz.zeroValue56 rfl rfl ?_
        intro b180 w181 st182
        refine OpsL.storeN st182 (k := 1) rfl rfl rfl (one_cons rfl (one_cons rfl (one_cons rfl (one_cons rfl (one_cons rfl (one_cons rfl (one_cons rfl (one_cons rfl (one_cons rfl one_nil))))))))) Tryz.sizeOf56 rfl rfl rfl ?_
        intro w183 st184
        refine OpsL.nil ?_
        refine Then.norm ?_
        refine W.seq ?_
        refine W.seq ?_
        refine W.region ?_
        refine OpsL.val rfl rfl (r_field_addr rfl Tryz.underlying164 rfl Tryz.sizeOf4 rfl) ?_
        refine OpsL.val rfl rfl (r_load_cells1 (j := 0) st184.sub hc178 rfl rfl rfl Tryz.isAgg4) ?_
        refine OpsL.nil ?_
        refine Then.norm ?_
        refine W.cond rfl (fun c185 => ?_) (fun c185 => ?_)
        ·
          cases c185
        ·
          refine W.skip ?_
          refine Then.norm ?_
          refine W.seq ?_
          refine W.seq ?_
          refine W.region ?_
          refine OpsL.val rfl rfl (r_field_addr rfl Tryz.underlying164 rfl Tryz.sizeOf4 rfl) ?_
          refine OpsL.val rfl rfl (r_load_cells1 (j := 1) st184.sub hc178 rfl rfl rfl Tryz.isAgg4) ?_
          refine OpsL.nil ?_
          refine Then.norm ?_
          refine W.cond rfl (fun c186 => ?_) (fun c186 => ?_)
          ·
            cases c186
          ·
            refine W.skip ?_
            refine Then.norm ?_
            refine W.seq ?_
            refine W.seq ?_
            refine W.region ?_
            refine OpsL.val rfl rfl (r_field_addr rfl Tryz.underlying164 rfl Tryz.sizeOf4 rfl) ?_
            refine OpsL.val rfl rfl (r_load_cells1 (j := 2) st184.sub hc178 rfl rfl rfl Tryz.isAgg4) ?_
            refine OpsL.nil ?_
            refine Then.norm ?_
            refine W.cond rfl (fun c187 => ?_) (fun c187 => ?_)
            ·
              cases c187
            ·
              refine W.skip ?_
              refine Then.norm ?_
              refine W.seq ?_
              refine W.seq ?_
              refine W.region ?_
              refine OpsL.val rfl rfl (r_field_addr rfl Tryz.underlying164 rfl Tryz.sizeOf4 rfl) ?_
              refine OpsL.val rfl rfl (r_load_cells1 (j := 3) st184.sub hc178 rfl rfl rfl Tryz.isAgg4) ?_
              refine OpsL.nil ?_
              refine Then.norm ?_
              refine W.cond rfl (fun c188 => ?_) (fun c188 => ?_)
              ·
                refine W.region ?_
                refine OpsL.val rfl rfl (r_field_addr rfl Tryz.underlying56 rfl Tryz.sizeOf3 rfl) ?_
                refine OpsL.val rfl rfl (r_load_cells1 (j := 8) st184.sub (hc11.up ((((le18.trans le22).trans le32).trans le36).trans le176)) rfl rfl rfl Tryz.isAgg3) ?_
                refine OpsL.val rfl rfl (r_field_addr rfl Tryz.underlying56 rfl Tryz.sizeOf3 rfl) ?_
                refine OpsL.store1 st184 (k := 1) rfl rfl rfl rfl Tryz.sizeOf3 rfl rfl rfl ?_
                intro w189 st190
                refine OpsL.nil ?_
                refine Then.norm ?_
                refine W.seq ?_
                refine W.region ?_
                refine OpsL.val rfl rfl (r_load_call st190.sub (hc5.up (((((le10.trans le18).trans le22).trans le32).trans le36).trans le176)) rfl Tryz.isAgg24 Tryz.sizeOf24 rfl) ?_
                refine OpsL.val rfl rfl (r_field_addr rfl Tryz.underlying56 rfl Tryz.sizeOf52 rfl) ?_
                refine OpsL.val rfl rfl (r_load_cellsN (j := 3) st190.sub (hc11.up ((((le18.trans le22).trans le32).trans le36).trans le176)) (us := [.int .i64 (d.at_.chapter), .int .i64 (d.at_.line), .int .i64 (d.at_.word)]) rfl rfl Tryz.isAgg52 Tryz.sizeOf52 rfl rfl) ?_
                refine OpsL.callF st190 rfl rfl rfl Tryz.call99 rfl (c_leaf_At st190.sub (t := t) (t_f0.up ((((((le4.trans le10).trans le18).trans le22).trans le32).trans le36).trans le176)) (p := d.at_)) ?_
                intro r191 w192 h193 le194 st195 q196
                obtain rfl := q196
                refine OpsL.val rfl rfl (r_mvT rfl) ?_
                refine OpsL.val rfl rfl (r_extract (v := (strV _)) rfl rfl) ?_
                refine OpsL.val rfl rfl (r_extract (v := (.int _ _)) rfl rfl) ?_
                refine OpsL.val rfl rfl (r_asS rfl) ?_
                refine OpsL.val rfl rfl (r_asI rfl) ?_
                refine OpsL.nil ?_
                refine Then.norm ?_
                refine W.seq ?_
                have qn : 1 ≤ d.number ∧ d.number ≤ 999 := by
                  have q := c39
                  simp [inAll, inB] at q
                  omega
                refine W.region ?_
                refine OpsL.val rfl rfl (r_load_call st195.sub (hc11.up (((((le18.trans le22).trans le32).trans le36).trans le176).trans le194)) rfl Tryz.isAgg56 Tryz.sizeOf56 rfl) ?_
                refine OpsL.val rfl rfl (r_load_ball (st195.get (k := 1) rfl) rfl Tryz.isAgg56 Tryz.sizeOf56 rfl) ?_
                refine OpsL.val rfl rfl (r_steql rfl rfl Tryz.eqGuardType56 (Tryz.eq_Decision d (Decision.mk (d.number) (d.kind) ([]) (Place.mk 0 0 0) (Head.mk ([]) 0) (d.of_)))) ?_
                refine OpsL.val rfl rfl (r_mvB rfl) ?_
                refine OpsL.split (d := 61) rfl (fun g197 => ?_) (fun g197 => ?_)
                ·
                  replace g197 := of_decide_eq_true g197
                  refine OpsL.guarded rfl rfl (d := 61) rfl ?_
                  refine OpsL.val rfl rfl (r_field_addr rfl Tryz.underlying164 rfl Tryz.sizeOf4 rfl) ?_
                  refine OpsL.guarded rfl rfl (d := 61) rfl ?_
                  refine OpsL.val rfl rfl (r_load_cells1 (j := 0) st195.sub (hc178.up le194) rfl rfl rfl Tryz.isAgg4) ?_
                  refine OpsL.guarded rfl rfl (d := 61) rfl ?_
                  refine OpsL.val rfl rfl (r_not rfl) ?_
                  refine OpsL.guarded rfl rfl (d := 61) rfl ?_
                  refine OpsL.val rfl rfl (r_mvB rfl) ?_
                  refine OpsL.skipped rfl rfl (d := 65) rfl rfl rfl ?_
                  refine OpsL.skipped rfl rfl (d := 65) rfl rfl rfl ?_
                  refine OpsL.skipped rfl rfl (d := 65) rfl rfl rfl ?_
                  refine OpsL.guarded rfl rfl (d := 61) rfl ?_
                  refine OpsL.val rfl rfl (r_pickT (v := (.bool _)) rfl rfl) ?_
                  refine OpsL.val rfl rfl (r_pickT (v := (.bool _)) rfl rfl) ?_
                  refine OpsL.val rfl rfl (r_mvB rfl) ?_
                  refine OpsL.guarded rfl rfl (d := 71) rfl ?_
                  refine OpsL.val rfl rfl (r_field_addr rfl Tryz.underlying164 rfl Tryz.sizeOf4 rfl) ?_
                  refine OpsL.guarded rfl rfl (d := 71) rfl ?_
                  refine OpsL.val rfl rfl (r_load_cells1 (j := 1) st195.sub (hc178.up le194) rfl rfl rfl Tryz.isAgg4) ?_
                  refine OpsL.guarded rfl rfl (d := 71) rfl ?_
                  refine OpsL.val rfl rfl (r_not rfl) ?_
                  refine OpsL.guarded rfl rfl (d := 71) rfl ?_
                  refine OpsL.val rfl rfl (r_mvB rfl) ?_
                  refine OpsL.skipped rfl rfl (d := 75) rfl rfl rfl ?_
                  refine OpsL.skipped rfl rfl (d := 75) rfl rfl rfl ?_
                  refine OpsL.guarded rfl rfl (d := 71) rfl ?_
                  refine OpsL.val rfl rfl (r_pickT (v := (.bool _)) rfl rfl) ?_
                  refine OpsL.val rfl rfl (r_pickT (v := (.bool _)) rfl rfl) ?_
                  refine OpsL.val rfl rfl (r_mvB rfl) ?_
                  refine OpsL.guarded rfl rfl (d := 80) rfl ?_
                  refine OpsL.val rfl rfl (r_field_addr rfl Tryz.underlying164 rfl Tryz.sizeOf4 rfl) ?_
                  refine OpsL.guarded rfl rfl (d := 80) rfl ?_
                  refine OpsL.val rfl rfl (r_load_cells1 (j := 2) st195.sub (hc178.up le194) rfl rfl rfl Tryz.isAgg4) ?_
                  refine OpsL.guarded rfl rfl (d := 80) rfl ?_
                  refine OpsL.val rfl rfl (r_not rfl) ?_
                  refine OpsL.guarded rfl rfl (d := 80) rfl ?_
                  refine OpsL.val rfl rfl (r_mvB rfl) ?_
                  refine OpsL.skipped rfl rfl (d := 84) rfl rfl rfl ?_
                  refine OpsL.skipped rfl rfl (d := 84) rfl rfl rfl ?_
                  refine OpsL.skipped rfl rfl (d := 84) rfl rfl rfl ?_
                  refine OpsL.guarded rfl rfl (d := 80) rfl ?_
                  refine OpsL.val rfl rfl (r_pickT (v := (.bool _)) rfl rfl) ?_
                  refine OpsL.val rfl rfl (r_pickT (v := (.bool _)) rfl rfl) ?_
                  refine OpsL.val rfl rfl (r_mvB rfl) ?_
                  refine OpsL.guarded rfl rfl (d := 90) rfl ?_
                  refine OpsL.val rfl rfl (r_field_addr rfl Tryz.underlying164 rfl Tryz.sizeOf4 rfl) ?_
                  refine OpsL.guarded rfl rfl (d := 90) rfl ?_
                  refine OpsL.val rfl rfl (r_load_cells1 (j := 3) st195.sub (hc178.up le194) rfl rfl rfl Tryz.isAgg4) ?_
                  refine OpsL.guarded rfl rfl (d := 90) rfl ?_
                  refine OpsL.val rfl rfl (r_not rfl) ?_
                  refine OpsL.guarded rfl rfl (d := 90) rfl ?_
                  refine OpsL.val rfl rfl (r_mvB rfl) ?_
                  refine OpsL.guarded rfl rfl (d := 94) rfl ?_
                  refine OpsL.val rfl rfl (r_field_addr rfl Tryz.underlying56 rfl Tryz.sizeOf3 rfl) ?_
                  refine OpsL.guarded rfl rfl (d := 94) rfl ?_
                  refine OpsL.val rfl rfl (r_load_cells1 (j := 0) st195.sub (hc11.up (((((le18.trans le22).trans le32).trans le36).trans le176).trans le194)) rfl rfl rfl Tryz.isAgg3) ?_
                  refine OpsL.guarded rfl rfl (d := 94) rfl ?_
                  refine OpsL.val rfl rfl (r_sub rfl rfl (by first | omega | (simp; omega))) ?_
                  refine OpsL.guarded rfl rfl (d := 94) rfl ?_
                  refine OpsL.val rfl rfl (r_field_addr rfl Tryz.underlying56 rfl Tryz.sizeOf3 rfl) ?_
                  refine OpsL.guarded rfl rfl (d := 94) rfl ?_
                  refine OpsL.val rfl rfl (r_load_cells1 (j := 8) st195.sub (hc11.up (((((le18.trans le22).trans le32).trans le36).trans le176).trans le194)) rfl rfl rfl Tryz.isAgg3) ?_
                  refine OpsL.guarded rfl rfl (d := 94) rfl ?_
                  refine OpsL.sliceF (L := LInt) (xs := [(d.of_)]) (cs := [.int .i64 (d.of_)]) st195 (Enc.cons (L := LInt) (vs := [.int .i64 (d.of_)]) (x := (d.of_)) (h := h193) (rfl) Enc.nil) rfl rfl rfl Tryz.underlying39 Tryz.info3 rfl rfl rfl (by kernel_rfl) ?_
                  intro v198 w199 h202 le203 f200 st201
                  refine OpsL.guarded rfl rfl (d := 94) rfl ?_
                  refine OpsL.callF st201 rfl rfl rfl Tryz.call50 rfl (c_stem_in st201.sub _ _ f200) ?_
                  intro r204 w205 h206 le207 st208 q209
                  obtain rfl := q209
                  refine OpsL.guarded rfl rfl (d := 90) rfl ?_
                  refine OpsL.val rfl rfl (r_pickF (v := (.bool _)) rfl rfl) ?_
                  refine OpsL.val rfl rfl (r_pickT (v := (.bool _)) rfl rfl) ?_
                  refine OpsL.val rfl rfl (r_asB rfl) ?_
                  refine OpsL.nil ?_
                  refine Then.norm ?_
                  refine W.ret ?_
                  -- return r16
                  refine Post.ret1 Tryz.results53 ?_
                  refine ⟨h206, _, rfl, st208.done, ?_⟩
                  refine bool_eq ?_
                  exact dec4_t ht hk40 c39 g197
                ·
                  replace g197 := of_decide_eq_false g197
                  refine OpsL.skipped rfl rfl (d := 61) rfl rfl rfl ?_
                  refine OpsL.skipped rfl rfl (d := 61) rfl rfl rfl ?_
                  refine OpsL.skipped rfl rfl (d := 61) rfl rfl rfl ?_
                  refine OpsL.skipped rfl rfl (d := 61) rfl rfl rfl ?_
                  refine OpsL.skippedU rfl rfl (d := 65) rfl rfl ?_
                  refine OpsL.skippedU rfl rfl (d := 65) rfl rfl ?_
                  refine OpsL.skippedU rfl rfl (d := 65) rfl rfl ?_
                  refine OpsL.skipped rfl rfl (d := 61) rfl rfl rfl ?_
                  refine OpsL.val rfl rfl (r_pickF (v := (.bool _)) rfl rfl) ?_
                  refine OpsL.val rfl rfl (r_mvB rfl) ?_
                  refine OpsL.skipped rfl rfl (d := 71) rfl rfl rfl ?_
                  refine OpsL.skipped rfl rfl (d := 71) rfl rfl rfl ?_
                  refine OpsL.skipped rfl rfl (d := 71) rfl rfl rfl ?_
                  refine OpsL.skipped rfl rfl (d := 71) rfl rfl rfl ?_
                  refine OpsL.skippedU rfl rfl (d := 75) rfl rfl ?_
                  refine OpsL.skippedU rfl rfl (d := 75) rfl rfl ?_
                  refine OpsL.skipped rfl rfl (d := 71) rfl rfl rfl ?_
                  refine OpsL.val rfl rfl (r_pickF (v := (.bool _)) rfl rfl) ?_
                  refine OpsL.val rfl rfl (r_mvB rfl) ?_
                  refine OpsL.skipped rfl rfl (d := 80) rfl rfl rfl ?_
                  refine OpsL.skipped rfl rfl (d := 80) rfl rfl rfl ?_
                  refine OpsL.skipped rfl rfl (d := 80) rfl rfl rfl ?_
                  refine OpsL.skipped rfl rfl (d := 80) rfl rfl rfl ?_
                  refine OpsL.skippedU rfl rfl (d := 84) rfl rfl ?_
                  refine OpsL.skippedU rfl rfl (d := 84) rfl rfl ?_
                  refine OpsL.skippedU rfl rfl (d := 84) rfl rfl ?_
                  refine OpsL.skipped rfl rfl (d := 80) rfl rfl rfl ?_
                  refine OpsL.val rfl rfl (r_pickF (v := (.bool _)) rfl rfl) ?_
                  refine OpsL.val rfl rfl (r_mvB rfl) ?_
                  refine OpsL.skipped rfl rfl (d := 90) rfl rfl rfl ?_
                  refine OpsL.skipped rfl rfl (d := 90) rfl rfl rfl ?_
                  refine OpsL.skipped rfl rfl (d := 90) rfl rfl rfl ?_
                  refine OpsL.skipped rfl rfl (d := 90) rfl rfl rfl ?_
                  refine OpsL.skippedU rfl rfl (d := 94) rfl rfl ?_
                  refine OpsL.skippedU rfl rfl (d := 94) rfl rfl ?_
                  refine OpsL.skippedU rfl rfl (d := 94) rfl rfl ?_
                  refine OpsL.skippedU rfl rfl (d := 94) rfl rfl ?_
                  refine OpsL.skippedU rfl rfl (d := 94) rfl rfl ?_
                  refine OpsL.skippedU rfl rfl (d := 94) rfl rfl ?_
                  refine OpsL.skippedU rfl rfl (d := 94) rfl rfl ?_
                  refine OpsL.skipped rfl rfl (d := 90) rfl rfl rfl ?_
                  refine OpsL.val rfl rfl (r_pickF (v := (.bool _)) rfl rfl) ?_
                  refine OpsL.val rfl rfl (r_asB rfl) ?_
                  refine OpsL.nil ?_
                  refine Then.norm ?_
                  refine W.ret ?_
                  -- return r17
                  refine Post.ret1 Tryz.results53 ?_
                  refine ⟨h193, _, rfl, st195.done, ?_⟩
                  refine bool_eq ?_
                  exact dec4_n ht hk40 c39 g197
              ·
                cases c188
end Go.Pk
