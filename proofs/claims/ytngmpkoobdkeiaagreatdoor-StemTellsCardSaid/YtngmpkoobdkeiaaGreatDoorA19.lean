/- A PART OF THE PROOF (printed by a program of the author's own): contracts of functions, each walked once. -/
import Derived.Test.YtngmpkoobdkeiaaGreatDoorSeat
import Derived.Test.YtngmpkoobdkeiaaGreatDoorSpec3
import Derived.Test.YtngmpkoobdkeiaaGreatDoorMap2
namespace Go.Pk
open Go Go.RowKit Go.Proofs
set_option maxRecDepth 4000 in
theorem c_postilref01_Great {h : Heap} {w : World} (hs : Sub h w) {t : Text} {t_v0 : Value} (t_f0 : Sl LChapter h t_v0 t.chapters) : Calls Tryz.prog 6 #[.agg #[t_v0]] w (Rets h w (fun _ _ res_ => res_ = .bool ((!smallT t)))) := by
  refine W.calls (n := 75) (args := [.agg #[t_v0]]) Tryz.func6 rfl rfl rfl ?_
  have st0 : St h w h w [] := St.start hs
  have t_f0_b := t_f0.le
  refine W.seq ?_
  refine W.region ?_
  refine OpsL.boxF st0 (cs := [t_v0]) rfl rfl rfl ?_
  intro b1 w2 h3 le4 hc5 st6
  refine OpsL.val rfl rfl (r_asB rfl) ?_
  refine OpsL.nil ?_
  refine Then.norm ?_
  refine W.seq ?_
  refine W.seq ?_
  refine W.region ?_
  refine OpsL.val rfl rfl (r_field_addr rfl Tryz.underlying24 rfl Tryz.sizeOf22 rfl) ?_
  refine OpsL.val rfl rfl (r_load_cells1 (j := 0) st6.sub hc5 rfl rfl rfl Tryz.isAgg22) ?_
  refine OpsL.val rfl rfl (r_len (t_f0.up le4) rfl Tryz.underlying22) ?_
  refine OpsL.val rfl rfl (r_gtr rfl rfl) ?_
  refine OpsL.nil ?_
  refine Then.norm ?_
  refine W.cond rfl (fun c7 => ?_) (fun c7 => ?_)
  ·
    replace c7 := of_decide_eq_true c7
    refine W.seq ?_
    refine W.region ?_
    refine OpsL.val rfl rfl (r_asB rfl) ?_
    refine OpsL.nil ?_
    refine Then.norm ?_
    refine W.ret ?_
    refine Then.ret ?_
    -- return r1
    refine Post.ret1 Tryz.results6 ?_
    refine ⟨h3, _, rfl, st6.done, ?_⟩
    refine bool_eq ?_
    simp [smallT]; intros; omega
  ·
    replace c7 := of_decide_eq_false c7
    refine W.skip ?_
    refine Then.norm ?_
    refine W.seq ?_
    refine W.seq ?_
    refine W.region ?_
    refine OpsL.val rfl rfl (r_asI rfl) ?_
    refine OpsL.nil ?_
    refine Then.norm ?_
    refine W.block ?_
    refine W.loopI [2, 3, 4, 5, 10, 11, 12, 13, 14, 15, 16, 17, 18, 19, 20, 21, 22, 23, 24, 25, 26, 27, 28, 29, 30, 31, 32, 33, 34, 35, 36, 37, 38, 39, 40, 41, 42, 43, 44, 45, 46, 47, 48, 49, 50, 51, 52, 53, 54, 55, 56, 57, 58, 59, 60, 61, 62, 63, 64, 65, 66, 67, 68, 69, 70, 71, 72, 73, 74] (G := Nat × Heap) (fun ⟨i, h8⟩ => [(3, .int .i64 (i : Int))]) (fun ⟨i, h8⟩ w' => Le h3 h8 ∧ St h w h8 w' [] ∧ (i ≤ t.chapters.length) ∧ ((t.chapters.take i).all smallC = true)) (fun ⟨i, h8⟩ => t.chapters.length - i) ⟨0, h3⟩ ⟨rfl, trivial⟩ ⟨Le.refl _, st6, (by first | omega | simp | trivial), (by first | omega | simp | trivial)⟩ ?_
    rintro ⟨i, h8⟩ _ w11 ⟨le9, st10, hi, hA⟩
    refine W.seq ?_
    refine W.seq ?_
    refine W.region ?_
    refine OpsL.val rfl rfl (r_mvI rfl) ?_
    refine OpsL.val rfl rfl (r_field_addr rfl Tryz.underlying24 rfl Tryz.sizeOf22 rfl) ?_
    refine OpsL.val rfl rfl (r_load_cells1 (j := 0) st10.sub (hc5.up le9) rfl rfl rfl Tryz.isAgg22) ?_
    refine OpsL.val rfl rfl (r_len (t_f0.up (le4.trans le9)) rfl Tryz.underlying22) ?_
    refine OpsL.val rfl rfl (r_lss rfl rfl) ?_
    refine OpsL.nil ?_
    refine Then.norm ?_
    refine W.cond rfl (fun c12 => ?_) (fun c12 => ?_)
    ·
      replace c12 := of_decide_eq_true c12
      refine W.skip ?_
      refine Then.norm ?_
      refine W.seq ?_
      refine W.block ?_
      refine W.seq ?_
      refine W.seq ?_
      refine W.region ?_
      refine OpsL.val rfl rfl (r_field_addr rfl Tryz.underlying24 rfl Tryz.sizeOf22 rfl) ?_
      refine OpsL.val rfl rfl (r_load_cells1 (j := 0) st10.sub (hc5.up le9) rfl rfl rfl Tryz.isAgg22) ?_
      refine OpsL.val rfl rfl (r_mvI rfl) ?_
      have hc : ∃ y, (t.chapters)[i]? = some y := ⟨_, List.getElem?_eq_getElem (by omega)⟩
      obtain ⟨c, hc⟩ := hc
      obtain ⟨b13, o14, _, he16, hc15, hr_c⟩ := Sl.elem (t_f0.up (le4.trans le9)) hc
      obtain ⟨v17, rfl, f18⟩ := hr_c
      have f18_b := f18.le
      refine OpsL.val rfl rfl (r_index_el he16 rfl rfl (hk := rfl) (hu := Tryz.underlying22) (hz := Tryz.sizeOf93)) ?_
      refine OpsL.val rfl rfl (r_field_addr rfl Tryz.underlying93 rfl Tryz.sizeOf91 rfl) ?_
      refine OpsL.val rfl rfl (r_load_cells1 (j := 1) st10.sub hc15 rfl rfl rfl Tryz.isAgg91) ?_
      refine OpsL.val rfl rfl (r_len f18 rfl Tryz.underlying91) ?_
      refine OpsL.val rfl rfl (r_gtr rfl rfl) ?_
      refine OpsL.nil ?_
      refine Then.norm ?_
      refine W.cond rfl (fun c19 => ?_) (fun c19 => ?_)
      ·
        replace c19 := of_decide_eq_true c19
        refine W.seq ?_
        refine W.region ?_
        refine OpsL.val rfl rfl (r_asB rfl) ?_
        refine OpsL.nil ?_
        refine Then.norm ?_
        refine W.ret ?_
        refine Then.ret ?_
        refine Blk.ret ?_
        refine Then.ret ?_
        refine Then.ret ?_
        refine Blk.ret ?_
        refine Then.ret ?_
        -- return r2
        refine Post.ret1 Tryz.results6 ?_
        refine ⟨h8, _, rfl, st10.done, ?_⟩
        refine bool_eq ?_
        have q0 : smallC c = false := by simp [smallC]; intros; omega
        have q := not_all (p := smallC) hc q0
        simp [smallT, q]
      ·
        replace c19 := of_decide_eq_false c19
        refine W.skip ?_
        refine Then.norm ?_
        refine W.seq ?_
        refine W.region ?_
        refine OpsL.val rfl rfl (r_asI rfl) ?_
        refine OpsL.nil ?_
        refine Then.norm ?_
        refine W.block ?_
        refine W.loopI [2, 4, 5, 25, 26, 27, 28, 29, 30, 31, 32, 33, 34, 35, 36, 37, 38, 39, 40, 41, 42, 43, 44, 45, 46, 47, 48, 49, 50, 51, 52, 53, 54, 55, 56, 57, 58, 59, 60, 61, 62, 63, 64, 65, 66, 67, 68, 69, 70, 71, 72, 73, 74] (G := Nat × Heap) (fun ⟨k, h20⟩ => [(4, .int .i64 (k : Int))]) (fun ⟨k, h20⟩ w' => Le h8 h20 ∧ St h w h20 w' [] ∧ (k ≤ c.lines.length) ∧ ((c.lines.take k).all smallL = true)) (fun ⟨k, h20⟩ => c.lines.length - k) ⟨0, h8⟩ ⟨rfl, trivial⟩ ⟨Le.refl _, st10, (by first | omega | simp | trivial), (by first | omega | simp | trivial)⟩ ?_
        rintro ⟨k, h20⟩ _ w23 ⟨le21, st22, hk, hB⟩
        refine W.seq ?_
        refine W.seq ?_
        refine W.region ?_
        refine OpsL.val rfl rfl (r_mvI rfl) ?_
        refine OpsL.val rfl rfl (r_field_addr rfl Tryz.underlying24 rfl Tryz.sizeOf22 rfl) ?_
        refine OpsL.val rfl rfl (r_load_cells1 (j := 0) st22.sub (hc5.up (le9.trans le21)) rfl rfl rfl Tryz.isAgg22) ?_
        refine OpsL.val rfl rfl (r_mvI rfl) ?_
        refine OpsL.val rfl rfl (r_index_el he16 rfl rfl (hk := rfl) (hu := Tryz.underlying22) (hz := Tryz.sizeOf93)) ?_
        refine OpsL.val rfl rfl (r_field_addr rfl Tryz.underlying93 rfl Tryz.sizeOf91 rfl) ?_
        refine OpsL.val rfl rfl (r_load_cells1 (j := 1) st22.sub (hc15.up le21) rfl rfl rfl Tryz.isAgg91) ?_
        refine OpsL.val rfl rfl (r_len (f18.up le21) rfl Tryz.underlying91) ?_
        refine OpsL.val rfl rfl (r_lss rfl rfl) ?_
        refine OpsL.nil ?_
        refine Then.norm ?_
        refine W.cond rfl (fun c24 => ?_) (fun c24 => ?_)
        ·
          replace c24 := of_decide_eq_true c24
          refine W.skip ?_
          refine Then.norm ?_
          refine W.seq ?_
          refine W.block ?_
          refine W.seq ?_
          refine W.seq ?_
          refine W.region ?_
          refine OpsL.val rfl rfl (r_field_addr rfl Tryz.underlying24 rfl Tryz.sizeOf22 rfl) ?_
          refine OpsL.val rfl rfl (r_load_cells1 (j := 0) st22.sub (hc5.up (le9.trans le21)) rfl rfl rfl Tryz.isAgg22) ?_
          refine OpsL.val rfl rfl (r_mvI rfl) ?_
          refine OpsL.val rfl rfl (r_index_el he16 rfl rfl (hk := rfl) (hu := Tryz.underlying22) (hz := Tryz.sizeOf93)) ?_
          refine OpsL.val rfl rfl (r_field_addr rfl Tryz.underlying93 rfl Tryz.sizeOf91 rfl) ?_
          refine OpsL.val rfl rfl (r_load_cells1 (j := 1) st22.sub (hc15.up le21) rfl rfl rfl Tryz.isAgg91) ?_
          refine OpsL.val rfl rfl (r_mvI rfl) ?_
          have hln : ∃ y, (c.lines)[k]? = some y := ⟨_, List.getElem?_eq_getElem (by omega)⟩
          obtain ⟨ln, hln⟩ := hln
          obtain ⟨b25, o26, _, he28, hc27, hr_ln⟩ := Sl.elem (f18.up le21) hln
          obtain ⟨v29, rfl, f30⟩ := hr_ln
          have f30_b := f30.le
          refine OpsL.val rfl rfl (r_index_el he28 rfl rfl (hk := rfl) (hu := Tryz.underlying91) (hz := Tryz.sizeOf33)) ?_
          refine OpsL.val rfl rfl (r_load_cells1 (j := 0) st22.sub hc27 rfl rfl rfl Tryz.isAgg33) ?_
          refine OpsL.val rfl rfl (r_len f30 rfl Tryz.underlying33) ?_
          refine OpsL.val rfl rfl (r_gtr rfl rfl) ?_
          refine OpsL.nil ?_
          refine Then.norm ?_
          refine W.cond rfl (fun c31 => ?_) (fun c31 => ?_)
          ·
            replace c31 := of_decide_eq_true c31
            refine W.seq ?_
            refine W.region ?_
            refine OpsL.val rfl rfl (r_asB rfl) ?_
            refine OpsL.nil ?_
            refine Then.norm ?_
            refine W.ret ?_
            refine Then.ret ?_
            refine Blk.ret ?_
            refine Then.ret ?_
            refine Then.ret ?_
            refine Blk.ret ?_
            refine Blk.ret ?_
            refine Then.ret ?_
            refine Then.ret ?_
            refine Blk.ret ?_
            refine Then.ret ?_
            -- return r3
            refine Post.ret1 Tryz.results6 ?_
            refine ⟨h20, _, rfl, st22.done, ?_⟩
            refine bool_eq ?_
            have q1 : smallL ln = false := by simp [smallL]; intros; omega
            have q2 := not_all (p := smallL) hln q1
            have q0 : smallC c = false := by simp [smallC, q2]
            have q := not_all (p := smallC) hc q0
            simp [smallT, q]
          ·
            replace c31 := of_decide_eq_false c31
            refine W.skip ?_
            refine Then.norm ?_
            refine W.seq ?_
            refine W.region ?_
            refine OpsL.val rfl rfl (r_asI rfl) ?_
            refine OpsL.nil ?_
            refine Then.norm ?_
            refine W.block ?_
            refine W.loopI [2, 5, 47, 48, 49, 50, 51, 52, 53, 54, 55, 56, 57, 58, 59, 60, 61, 62, 63, 64, 65, 66, 67, 68, 69, 70, 71, 72, 73, 74] (G := Nat × Heap) (fun ⟨m, h32⟩ => [(5, .int .i64 (m : Int))]) (fun ⟨m, h32⟩ w' => Le h20 h32 ∧ St h w h32 w' [] ∧ (m ≤ ln.length) ∧ ((ln.take m).all smallW = true)) (fun ⟨m, h32⟩ => ln.length - m) ⟨0, h20⟩ ⟨rfl, trivial⟩ ⟨Le.refl _, st22, (by first | omega | simp | trivial), (by first | omega | simp | trivial)⟩ ?_
            rintro ⟨m, h32⟩ _ w35 ⟨le33, st34, hm, hC⟩
            refine W.seq ?_
            refine W.seq ?_
            refine W.region ?_
            refine OpsL.val rfl rfl (r_mvI rfl) ?_
            refine OpsL.val rfl rfl (r_field_addr rfl Tryz.underlying24 rfl Tryz.sizeOf22 rfl) ?_
            refine OpsL.val rfl rfl (r_load_cells1 (j := 0) st34.sub (hc5.up ((le9.trans le21).trans le33)) rfl rfl rfl Tryz.isAgg22) ?_
            refine OpsL.val rfl rfl (r_mvI rfl) ?_
            refine OpsL.val rfl rfl (r_index_el he16 rfl rfl (hk := rfl) (hu := Tryz.underlying22) (hz := Tryz.sizeOf93)) ?_
            refine OpsL.val rfl rfl (r_field_addr rfl Tryz.underlying93 rfl Tryz.sizeOf91 rfl) ?_
            refine OpsL.val rfl rfl (r_load_cells1 (j := 1) st34.sub (hc15.up (le21.trans le33)) rfl rfl rfl Tryz.isAgg91) ?_
            refine OpsL.val rfl rfl (r_mvI rfl) ?_
            refine OpsL.val rfl rfl (r_index_el he28 rfl rfl (hk := rfl) (hu := Tryz.underlying91) (hz := Tryz.sizeOf33)) ?_
            refine OpsL.val rfl rfl (r_load_cells1 (j := 0) st34.sub (hc27.up le33) rfl rfl rfl Tryz.isAgg33) ?_
            refine OpsL.val rfl rfl (r_len (f30.up le33) rfl Tryz.underlying33) ?_
            refine OpsL.val rfl rfl (r_lss rfl rfl) ?_
            refine OpsL.nil ?_
            refine Then.norm ?_
            refine W.cond rfl (fun c36 => ?_) (fun c36 => ?_)
            ·
              replace c36 := of_decide_eq_true c36
              refine W.skip ?_
              refine Then.norm ?_
              refine W.seq ?_
              refine W.block ?_
              refine W.seq ?_
              refine W.region ?_
              refine OpsL.val rfl rfl (r_field_addr rfl Tryz.underlying24 rfl Tryz.sizeOf22 rfl) ?_
              refine OpsL.val rfl rfl (r_load_cells1 (j := 0) st34.sub (hc5.up ((le9.trans le21).trans le33)) rfl rfl rfl Tryz.isAgg22) ?_
              refine OpsL.val rfl rfl (r_mvI rfl) ?_
              refine OpsL.val rfl rfl (r_index_el he16 rfl rfl (hk := rfl) (hu := Tryz.underlying22) (hz := Tryz.sizeOf93)) ?_
              refine OpsL.val rfl rfl (r_field_addr rfl Tryz.underlying93 rfl Tryz.sizeOf91 rfl) ?_
              refine OpsL.val rfl rfl (r_load_cells1 (j := 1) st34.sub (hc15.up (le21.trans le33)) rfl rfl rfl Tryz.isAgg91) ?_
              refine OpsL.val rfl rfl (r_mvI rfl) ?_
              refine OpsL.val rfl rfl (r_index_el he28 rfl rfl (hk := rfl) (hu := Tryz.underlying91) (hz := Tryz.sizeOf33)) ?_
              refine OpsL.val rfl rfl (r_load_cells1 (j := 0) st34.sub (hc27.up le33) rfl rfl rfl Tryz.isAgg33) ?_
              refine OpsL.val rfl rfl (r_mvI rfl) ?_
              have hwd : ∃ y, (ln)[m]? = some y := ⟨_, List.getElem?_eq_getElem (by omega)⟩
              obtain ⟨wd, hwd⟩ := hwd
              obtain ⟨b37, o38, _, he40, hc39, hr_wd⟩ := Sl.elem (f30.up le33) hwd
              obtain ⟨rfl, ls41⟩ := hr_wd
              simp only [big] at ls41
              refine OpsL.val rfl rfl (r_index_el he40 rfl rfl (hk := rfl) (hu := Tryz.underlying33) (hz := Tryz.sizeOf9)) ?_
              refine OpsL.val rfl rfl (r_load_cells1 (j := 0) st34.sub hc39 rfl rfl rfl Tryz.isAgg9) ?_
              refine OpsL.val rfl rfl (r_len_str rfl Tryz.underlying9) ?_
              refine OpsL.val rfl rfl (r_gtr rfl rfl) ?_
              refine OpsL.nil ?_
              refine Then.norm ?_
              refine W.cond rfl (fun c42 => ?_) (fun c42 => ?_)
              ·
                replace c42 := of_decide_eq_true c42
                refine W.seq ?_
                refine W.region ?_
                refine OpsL.val rfl rfl (r_asB rfl) ?_
                refine OpsL.nil ?_
                refine Then.norm ?_
                refine W.ret ?_
                refine Blk.ret ?_
                refine Then.ret ?_
                refine Then.ret ?_
                refine Blk.ret ?_
                refine Blk.ret ?_
                refine Then.ret ?_
                refine Then.ret ?_
                refine Blk.ret ?_
                refine Blk.ret ?_
                refine Then.ret ?_
                refine Then.ret ?_
                refine Blk.ret ?_
                refine Then.ret ?_
                -- return r4
                refine Post.ret1 Tryz.results6 ?_
                refine ⟨h32, _, rfl, st34.done, ?_⟩
                refine bool_eq ?_
                have q3 := not_all (p := smallW) hwd (by simp [smallW]; omega)
                have q1 : smallL ln = false := by simp [smallL, q3]
                have q2 := not_all (p := smallL) hln q1
                have q0 : smallC c = false := by simp [smallC, q2]
                have q := not_all (p := smallC) hc q0
                simp [smallT, q]
              ·
                replace c42 := of_decide_eq_false c42
                refine W.skip ?_
                refine Blk.norm ?_
                refine Then.norm ?_
                refine W.region ?_
                refine OpsL.val rfl rfl (r_mvI rfl) ?_
                refine OpsL.val rfl rfl (r_add rfl rfl (by first | omega | (simp; omega))) ?_
                refine OpsL.val rfl rfl (r_asI rfl) ?_
                refine OpsL.nil ?_
                refine Then.norm ?_
                refine ⟨⟨m + 1, h32⟩, ⟨rfl, trivial⟩, ?_, ⟨le33, st34, ?_, ?_⟩, ?_⟩
                · repeat (first | exact Agree.mix _ _ _ | exact Agree.refl _ _ | refine Agree.updO rfl ?_ | refine Agree.upd rfl ?_ | refine Agree.known rfl ?_ | refine Agree.sub rfl ?_)
                · first | omega | (simp; omega)
                · exact all_take_succ hC hwd (by have q := c42; simp [smallW]; omega)
                · show ln.length - ((m + 1)) < ln.length - m
                  omega
            ·
              replace c36 := of_decide_eq_false c36
              refine W.exit ?_
              refine Then.exit ?_
              refine Then.exit ?_
              refine Blk.hit ?_
              refine Blk.norm ?_
              refine Then.norm ?_
              refine W.region ?_
              refine OpsL.val rfl rfl (r_mvI rfl) ?_
              refine OpsL.val rfl rfl (r_add rfl rfl (by first | omega | (simp; omega))) ?_
              refine OpsL.val rfl rfl (r_asI rfl) ?_
              refine OpsL.nil ?_
              refine Then.norm ?_
              have HL : smallL ln = true := by
                have q := all_of_take hC (by omega)
                have q1 := c36
                simp [smallL, q]; omega
              refine ⟨⟨k + 1, h32⟩, ⟨rfl, trivial⟩, ?_, ⟨(le21.trans le33), st34, ?_, ?_⟩, ?_⟩
              · repeat (first | exact Agree.mix _ _ _ | exact Agree.refl _ _ | refine Agree.updO rfl ?_ | refine Agree.upd rfl ?_ | refine Agree.known rfl ?_ | refine Agree.sub rfl ?_)
              · first | omega | (simp; omega)
              · exact all_take_succ hB hln HL
              · show c.lines.length - ((k + 1)) < c.lines.length - k
                omega
        ·
          replace c24 := of_decide_eq_false c24
          refine W.exit ?_
          refine Then.exit ?_
          refine Then.exit ?_
          refine Blk.hit ?_
          refine Blk.norm ?_
          refine Then.norm ?_
          refine W.region ?_
          refine OpsL.val rfl rfl (r_mvI rfl) ?_
          refine OpsL.val rfl rfl (r_add rfl rfl (by first | omega | (simp; omega))) ?_
          refine OpsL.val rfl rfl (r_asI rfl) ?_
          refine OpsL.nil ?_
          refine Then.norm ?_
          have HC : smallC c = true := by
            have q := all_of_take hB (by omega)
            have q1 := c24
            simp [smallC, q]; omega
          refine ⟨⟨i + 1, h20⟩, ⟨rfl, trivial⟩, ?_, ⟨(le9.trans le21), st22, ?_, ?_⟩, ?_⟩
          · repeat (first | exact Agree.mix _ _ _ | exact Agree.refl _ _ | refine Agree.updO rfl ?_ | refine Agree.upd rfl ?_ | refine Agree.known rfl ?_ | refine Agree.sub rfl ?_)
          · first | omega | (simp; omega)
          · exact all_take_succ hA hc HC
          · show t.chapters.length - ((i + 1)) < t.chapters.length - i
            omega
    ·
      replace c12 := of_decide_eq_false c12
      refine W.exit ?_
      refine Then.exit ?_
      refine Then.exit ?_
      refine Blk.hit ?_
      refine Then.norm ?_
      refine W.seq ?_
      refine W.region ?_
      refine OpsL.val rfl rfl (r_asB rfl) ?_
      refine OpsL.nil ?_
      refine Then.norm ?_
      refine W.ret ?_
      -- return r5
      refine Post.ret1 Tryz.results6 ?_
      refine ⟨h8, _, rfl, st10.done, ?_⟩
      refine bool_eq ?_
      have q := all_of_take hA (by omega)
      simp [smallT, q]; omega
set_option maxRecDepth 4000 in
theorem c_postilref04_Great {h : Heap} {w : World} (hs : Sub h w) {x : Lexicon} {x_v0 : Value} (x_f0 : Sl LRule h x_v0 x.rules) {x_v1 : Value} (x_f1 : Sl LDecision h x_v1 x.decisions) : Calls Tryz.prog 7 #[.agg #[x_v0, x_v1]] w (Rets h w (fun _ _ res_ => res_ = .bool ((!smallX x)))) := by
  refine W.calls (n := 64) (args := [.agg #[x_v0, x_v1]]) Tryz.func7 rfl rfl rfl ?_
  have st0 : St h w h w [] := St.start hs
  have x_f0_b := x_f0.le
  have x_f1_b := x_f1.le
  refine W.seq ?_
  refine W.region ?_
  refine OpsL.boxF st0 (cs := [x_v0, x_v1]) rfl rfl rfl ?_
  intro b1 w2 h3 le4 hc5 st6
  refine OpsL.val rfl rfl (r_asB rfl) ?_
  refine OpsL.nil ?_
  refine Then.norm ?_
  refine W.seq ?_
  refine W.seq ?_
  refine W.region ?_
  refine OpsL.val rfl rfl (r_field_addr rfl Tryz.underlying28 rfl Tryz.sizeOf25 rfl) ?_
  refine OpsL.val rfl rfl (r_load_cells1 (j := 0) st6.sub hc5 rfl rfl rfl Tryz.isAgg25) ?_
  refine OpsL.val rfl rfl (r_len (x_f0.up le4) rfl Tryz.underlying25) ?_
  refine OpsL.val rfl rfl (r_gtr rfl rfl) ?_
  refine OpsL.val rfl rfl (r_mvB rfl) ?_
  refine OpsL.split (d := 10) rfl (fun g7 => ?_) (fun g7 => ?_)
  ·
    replace g7 := of_decide_eq_true g7
    refine OpsL.skipped rfl rfl (d := 10) rfl rfl rfl ?_
    refine OpsL.skipped rfl rfl (d := 10) rfl rfl rfl ?_
    refine OpsL.skipped rfl rfl (d := 10) rfl rfl rfl ?_
    refine OpsL.skipped rfl rfl (d := 10) rfl rfl rfl ?_
    refine OpsL.val rfl rfl (r_pickT (v := (.bool _)) rfl rfl) ?_
    refine OpsL.nil ?_
    refine Then.norm ?_
    refine W.cond rfl (fun c8 => ?_) (fun c8 => ?_)
    ·
      refine W.seq ?_
      refine W.region ?_
      refine OpsL.val rfl rfl (r_asB rfl) ?_
      refine OpsL.nil ?_
      refine Then.norm ?_
      refine W.ret ?_
      refine Then.ret ?_
      -- return r1
      refine Post.ret1 Tryz.results7 ?_
      refine ⟨h3, _, rfl, st6.done, ?_⟩
      refine bool_eq ?_
      first | (simp [smallX]; intros; omega) | (simp [smallX, not_all (p := smallR) hr (by simp [smallR]; intros; omega)]; done) | (simp [smallX, not_all (p := smallD) hd (by simp [smallD]; intros; omega)]; done) | (simp [smallX, all_of_take hA (by omega), all_of_take hB (by omega)]; omega)
    ·
      cases c8
  ·
    replace g7 := of_decide_eq_false g7
    refine OpsL.guarded rfl rfl (d := 10) rfl ?_
    refine OpsL.val rfl rfl (r_field_addr rfl Tryz.underlying28 rfl Tryz.sizeOf26 rfl) ?_
    refine OpsL.guarded rfl rfl (d := 10) rfl ?_
    refine OpsL.val rfl rfl (r_load_cells1 (j := 1) st6.sub hc5 rfl rfl rfl Tryz.isAgg26) ?_
    refine OpsL.guarded rfl rfl (d := 10) rfl ?_
    refine OpsL.val rfl rfl (r_len (x_f1.up le4) rfl Tryz.underlying26) ?_
    refine OpsL.guarded rfl rfl (d := 10) rfl ?_
    refine OpsL.val rfl rfl (r_gtr rfl rfl) ?_
    refine OpsL.val rfl rfl (r_pickF (v := (.bool _)) rfl rfl) ?_
    refine OpsL.nil ?_
    refine Then.norm ?_
    refine W.cond rfl (fun c9 => ?_) (fun c9 => ?_)
    ·
      replace c9 := of_decide_eq_true c9
      refine W.seq ?_
      refine W.region ?_
      refine OpsL.val rfl rfl (r_asB rfl) ?_
      refine OpsL.nil ?_
      refine Then.norm ?_
      refine W.ret ?_
      refine Then.ret ?_
      -- return r2
      refine Post.ret1 Tryz.results7 ?_
      refine ⟨h3, _, rfl, st6.done, ?_⟩
      refine bool_eq ?_
      first | (simp [smallX]; intros; omega) | (simp [smallX, not_all (p := smallR) hr (by simp [smallR]; intros; omega)]; done) | (simp [smallX, not_all (p := smallD) hd (by simp [smallD]; intros; omega)]; done) | (simp [smallX, all_of_take hA (by omega), all_of_take hB (by omega)]; omega)
    ·
      replace c9 := of_decide_eq_false c9
      refine W.skip ?_
      refine Then.norm ?_
      refine W.seq ?_
      refine W.seq ?_
      refine W.region ?_
      refine OpsL.val rfl rfl (r_asI rfl) ?_
      refine OpsL.nil ?_
      refine Then.norm ?_
      refine W.block ?_
      refine W.loopI [2, 3, 16, 17, 18, 19, 20, 21, 22, 23, 24, 25, 26, 27, 28, 29, 30, 31, 32, 33, 34, 35, 36, 37, 38, 39, 40] (G := Nat × Heap) (fun ⟨i, h10⟩ => [(3, .int .i64 (i : Int))]) (fun ⟨i, h10⟩ w' => Le h3 h10 ∧ St h w h10 w' [] ∧ (i ≤ x.rules.length) ∧ ((x.rules.take i).all smallR = true)) (fun ⟨i, h10⟩ => x.rules.length - i) ⟨0, h3⟩ ⟨rfl, trivial⟩ ⟨Le.refl _, st6, (by first | omega | simp | trivial), (by first | omega | simp | trivial)⟩ ?_
      rintro ⟨i, h10⟩ _ w13 ⟨le11, st12, hi, hA⟩
      refine W.seq ?_
      refine W.seq ?_
      refine W.region ?_
      refine OpsL.val rfl rfl (r_mvI rfl) ?_
      refine OpsL.val rfl rfl (r_field_addr rfl Tryz.underlying28 rfl Tryz.sizeOf25 rfl) ?_
      refine OpsL.val rfl rfl (r_load_cells1 (j := 0) st12.sub (hc5.up le11) rfl rfl rfl Tryz.isAgg25) ?_
      refine OpsL.val rfl rfl (r_len (x_f0.up (le4.trans le11)) rfl Tryz.underlying25) ?_
      refine OpsL.val rfl rfl (r_lss rfl rfl) ?_
      refine OpsL.nil ?_
      refine Then.norm ?_
      refine W.cond rfl (fun c14 => ?_) (fun c14 => ?_)
      ·
        replace c14 := of_decide_eq_true c14
        refine W.skip ?_
        refine Then.norm ?_
        refine W.seq ?_
        refine W.block ?_
        refine W.seq ?_
        refine W.region ?_
        refine OpsL.val rfl rfl (r_field_addr rfl Tryz.underlying28 rfl Tryz.sizeOf25 rfl) ?_
        refine OpsL.val rfl rfl (r_load_cells1 (j := 0) st12.sub (hc5.up le11) rfl rfl rfl Tryz.isAgg25) ?_
        refine OpsL.val rfl rfl (r_mvI rfl) ?_
        have hr : ∃ y, (x.rules)[i]? = some y := ⟨_, List.getElem?_eq_getElem (by omega)⟩
        obtain ⟨r, hr⟩ := hr
        obtain ⟨b15, o16, _, he18, hc17, hr_r⟩ := Sl.elem (x_f0.up (le4.trans le11)) hr
        obtain ⟨rfl, ls19, ls20⟩ := hr_r
        simp only [big] at ls19
        simp only [big] at ls20
        refine OpsL.val rfl rfl (r_index_el he18 rfl rfl (hk := rfl) (hu := Tryz.underlying25) (hz := Tryz.sizeOf70)) ?_
        refine OpsL.val rfl rfl (r_field_addr rfl Tryz.underlying70 rfl Tryz.sizeOf9 rfl) ?_
        refine OpsL.val rfl rfl (r_load_cells1 (j := 0) st12.sub hc17 rfl rfl rfl Tryz.isAgg9) ?_
        refine OpsL.val rfl rfl (r_len_str rfl Tryz.underlying9) ?_
        refine OpsL.val rfl rfl (r_gtr rfl rfl) ?_
        refine OpsL.val rfl rfl (r_mvB rfl) ?_
        refine OpsL.split (d := 31) rfl (fun g21 => ?_) (fun g21 => ?_)
        ·
          replace g21 := of_decide_eq_true g21
          refine OpsL.skipped rfl rfl (d := 31) rfl rfl rfl ?_
          refine OpsL.skipped rfl rfl (d := 31) rfl rfl rfl ?_
          refine OpsL.skipped rfl rfl (d := 31) rfl rfl rfl ?_
          refine OpsL.skipped rfl rfl (d := 31) rfl rfl rfl ?_
          refine OpsL.skipped rfl rfl (d := 31) rfl rfl rfl ?_
          refine OpsL.skipped rfl rfl (d := 31) rfl rfl rfl ?_
          refine OpsL.skipped rfl rfl (d := 31) rfl rfl rfl ?_
          refine OpsL.skipped rfl rfl (d := 31) rfl rfl rfl ?_
          refine OpsL.val rfl rfl (r_pickT (v := (.bool _)) rfl rfl) ?_
          refine OpsL.nil ?_
          refine Then.norm ?_
          refine W.cond rfl (fun c22 => ?_) (fun c22 => ?_)
          ·
            refine W.seq ?_
            refine W.region ?_
            refine OpsL.val rfl rfl (r_asB rfl) ?_
            refine OpsL.nil ?_
            refine Then.norm ?_
            refine W.ret ?_
            refine Blk.ret ?_
            refine Then.ret ?_
            refine Then.ret ?_
            refine Blk.ret ?_
            refine Then.ret ?_
            -- return r3
            refine Post.ret1 Tryz.results7 ?_
            refine ⟨h10, _, rfl, st12.done, ?_⟩
            refine bool_eq ?_
            first | (simp [smallX]; intros; omega) | (simp [smallX, not_all (p := smallR) hr (by simp [smallR]; intros; omega)]; done) | (simp [smallX, not_all (p := smallD) hd (by simp [smallD]; intros; omega)]; done) | (simp [smallX, all_of_take hA (by omega), all_of_take hB (by omega)]; omega)
          ·
            cases c22
        ·
          replace g21 := of_decide_eq_false g21
          refine OpsL.guarded rfl rfl (d := 31) rfl ?_
          refine OpsL.val rfl rfl (r_field_addr rfl Tryz.underlying28 rfl Tryz.sizeOf25 rfl) ?_
          refine OpsL.guarded rfl rfl (d := 31) rfl ?_
          refine OpsL.val rfl rfl (r_load_cells1 (j := 0) st12.sub (hc5.up le11) rfl rfl rfl Tryz.isAgg25) ?_
          refine OpsL.guarded rfl rfl (d := 31) rfl ?_
          refine OpsL.val rfl rfl (r_mvI rfl) ?_
          refine OpsL.guarded rfl rfl (d := 31) rfl ?_
          refine OpsL.val rfl rfl (r_index_el he18 rfl rfl (hk := rfl) (hu := Tryz.underlying25) (hz := Tryz.sizeOf70)) ?_
          refine OpsL.guarded rfl rfl (d := 31) rfl ?_
          refine OpsL.val rfl rfl (r_field_addr rfl Tryz.underlying70 rfl Tryz.sizeOf9 rfl) ?_
          refine OpsL.guarded rfl rfl (d := 31) rfl ?_
          refine OpsL.val rfl rfl (r_load_cells1 (j := 1) st12.sub hc17 rfl rfl rfl Tryz.isAgg9) ?_
          refine OpsL.guarded rfl rfl (d := 31) rfl ?_
          refine OpsL.val rfl rfl (r_len_str rfl Tryz.underlying9) ?_
          refine OpsL.guarded rfl rfl (d := 31) rfl ?_
          refine OpsL.val rfl rfl (r_gtr rfl rfl) ?_
          refine OpsL.val rfl rfl (r_pickF (v := (.bool _)) rfl rfl) ?_
          refine OpsL.nil ?_
          refine Then.norm ?_
          refine W.cond rfl (fun c23 => ?_) (fun c23 => ?_)
          ·
            replace c23 := of_decide_eq_true c23
            refine W.seq ?_
            refine W.region ?_
            refine OpsL.val rfl rfl (r_asB rfl) ?_
            refine OpsL.nil ?_
            refine Then.norm ?_
            refine W.ret ?_
            refine Blk.ret ?_
            refine Then.ret ?_
            refine Then.ret ?_
            refine Blk.ret ?_
            refine Then.ret ?_
            -- return r4
            refine Post.ret1 Tryz.results7 ?_
            refine ⟨h10, _, rfl, st12.done, ?_⟩
            refine bool_eq ?_
            first | (simp [smallX]; intros; omega) | (simp [smallX, not_all (p := smallR) hr (by simp [smallR]; intros; omega)]; done) | (simp [smallX, not_all (p := smallD) hd (by simp [smallD]; intros; omega)]; done) | (simp [smallX, all_of_take hA (by omega), all_of_take hB (by omega)]; omega)
          ·
            replace c23 := of_decide_eq_false c23
            refine W.skip ?_
            refine Blk.norm ?_
            refine Then.norm ?_
            refine W.region ?_
            refine OpsL.val rfl rfl (r_mvI rfl) ?_
            refine OpsL.val rfl rfl (r_add rfl rfl (by first | omega | (simp; omega))) ?_
            refine OpsL.val rfl rfl (r_asI rfl) ?_
            refine OpsL.nil ?_
            refine Then.norm ?_
            refine ⟨⟨i + 1, h10⟩, ⟨rfl, trivial⟩, ?_, ⟨le11, st12, ?_, ?_⟩, ?_⟩
            · repeat (first | exact Agree.mix _ _ _ | exact Agree.refl _ _ | refine Agree.updO rfl ?_ | refine Agree.upd rfl ?_ | refine Agree.known rfl ?_ | refine Agree.sub rfl ?_)
            · first | omega | (simp; omega)
            · exact all_take_succ hA hr (by have q := g21; have q2 := c23; simp [smallR]; omega)
            · show x.rules.length - ((i + 1)) < x.rules.length - i
              omega
      ·
        replace c14 := of_decide_eq_false c14
        refine W.exit ?_
        refine Then.exit ?_
        refine Then.exit ?_
        refine Blk.hit ?_
        refine Then.norm ?_
        refine W.seq ?_
        refine W.seq ?_
        refine W.region ?_
        refine OpsL.val rfl rfl (r_asI rfl) ?_
        refine OpsL.nil ?_
        refine Then.norm ?_
        refine W.block ?_
        refine W.loopI [2, 4, 5, 41, 42, 43, 44, 45, 46, 47, 48, 49, 50, 51, 52, 53, 54, 55, 56, 57, 58, 59, 60, 61, 62, 63] (G := Nat × Heap) (fun ⟨k, h24⟩ => [(4, .int .i64 (k : Int))]) (fun ⟨k, h24⟩ w' => Le h10 h24 ∧ St h w h24 w' [] ∧ (k ≤ x.decisions.length) ∧ ((x.decisions.take k).all smallD = true)) (fun ⟨k, h24⟩ => x.decisions.length - k) ⟨0, h10⟩ ⟨rfl, trivial⟩ ⟨Le.refl _, st12, (by first | omega | simp | trivial), (by first | omega | simp | trivial)⟩ ?_
        rintro ⟨k, h24⟩ _ w27 ⟨le25, st26, hk, hB⟩
        refine W.seq ?_
        refine W.seq ?_
        refine W.region ?_
        refine OpsL.val rfl rfl (r_mvI rfl) ?_
        refine OpsL.val rfl rfl (r_field_addr rfl Tryz.underlying28 rfl Tryz.sizeOf26 rfl) ?_
        refine OpsL.val rfl rfl (r_load_cells1 (j := 1) st26.sub (hc5.up (le11.trans le25)) rfl rfl rfl Tryz.isAgg26) ?_
        refine OpsL.val rfl rfl (r_len (x_f1.up ((le4.trans le11).trans le25)) rfl Tryz.underlying26) ?_
        refine OpsL.val rfl rfl (r_lss rfl rfl) ?_
        refine OpsL.nil ?_
        refine Then.norm ?_
        refine W.cond rfl (fun c28 => ?_) (fun c28 => ?_)
        ·
          replace c28 := of_decide_eq_true c28
          refine W.skip ?_
          refine Then.norm ?_
          refine W.seq ?_
          refine W.block ?_
          refine W.seq ?_
          refine W.region ?_
          refine OpsL.val rfl rfl (r_field_addr rfl Tryz.underlying28 rfl Tryz.sizeOf26 rfl) ?_
          refine OpsL.val rfl rfl (r_load_cells1 (j := 1) st26.sub (hc5.up (le11.trans le25)) rfl rfl rfl Tryz.isAgg26) ?_
          refine OpsL.val rfl rfl (r_mvI rfl) ?_
          have hd : ∃ y, (x.decisions)[k]? = some y := ⟨_, List.getElem?_eq_getElem (by omega)⟩
          obtain ⟨d, hd⟩ := hd
          obtain ⟨b29, o30, _, he32, hc31, hr_d⟩ := Sl.elem (x_f1.up ((le4.trans le11).trans le25)) hd
          obtain ⟨rfl, lu33, ls34, ls35, lu36⟩ := hr_d
          simp only [big] at ls34
          simp only [big] at ls35
          refine OpsL.val rfl rfl (r_index_el he32 rfl rfl (hk := rfl) (hu := Tryz.underlying26) (hz := Tryz.sizeOf56)) ?_
          refine OpsL.val rfl rfl (r_load_call st26.sub hc31 rfl Tryz.isAgg56 Tryz.sizeOf56 rfl) ?_
          refine OpsL.allocO st26 Tryz.zeroValue56 rfl rfl ?_
          intro b37 w38 st39
          refine OpsL.storeN st39 (k := 0) rfl rfl rfl (one_cons rfl (one_cons rfl (one_cons rfl (one_cons rfl (one_cons rfl (one_cons rfl (one_cons rfl (one_cons rfl (one_cons rfl one_nil))))))))) Tryz.sizeOf56 rfl rfl rfl ?_
          intro w40 st41
          obtain ⟨h42, le43, hb44, st46⟩ := st41.freeze (k := 0) rfl
          have hc45 := Cells.of hb44
          refine OpsL.nil ?_
          refine Then.norm ?_
          refine W.seq ?_
          refine W.region ?_
          refine OpsL.val rfl rfl (r_field_addr rfl Tryz.underlying56 rfl Tryz.sizeOf9 rfl) ?_
          refine OpsL.val rfl rfl (r_load_cells1 (j := 2) st46.sub hc45 rfl rfl rfl Tryz.isAgg9) ?_
          refine OpsL.val rfl rfl (r_len_str rfl Tryz.underlying9) ?_
          refine OpsL.val rfl rfl (r_gtr rfl rfl) ?_
          refine OpsL.val rfl rfl (r_mvB rfl) ?_
          refine OpsL.split (d := 57) rfl (fun g47 => ?_) (fun g47 => ?_)
          ·
            replace g47 := of_decide_eq_true g47
            refine OpsL.skipped rfl rfl (d := 57) rfl rfl rfl ?_
            refine OpsL.skipped rfl rfl (d := 57) rfl rfl rfl ?_
            refine OpsL.skipped rfl rfl (d := 57) rfl rfl rfl ?_
            refine OpsL.skipped rfl rfl (d := 57) rfl rfl rfl ?_
            refine OpsL.skipped rfl rfl (d := 57) rfl rfl rfl ?_
            refine OpsL.val rfl rfl (r_pickT (v := (.bool _)) rfl rfl) ?_
            refine OpsL.nil ?_
            refine Then.norm ?_
            refine W.cond rfl (fun c48 => ?_) (fun c48 => ?_)
            ·
              refine W.seq ?_
              refine W.region ?_
              refine OpsL.val rfl rfl (r_asB rfl) ?_
              refine OpsL.nil ?_
              refine Then.norm ?_
              refine W.ret ?_
              refine Blk.ret ?_
              refine Then.ret ?_
              refine Then.ret ?_
              refine Blk.ret ?_
              refine Then.ret ?_
              -- return r5
              refine Post.ret1 Tryz.results7 ?_
              refine ⟨h42, _, rfl, st46.done, ?_⟩
              refine bool_eq ?_
              first | (simp [smallX]; intros; omega) | (simp [smallX, not_all (p := smallR) hr (by simp [smallR]; intros; omega)]; done) | (simp [smallX, not_all (p := smallD) hd (by simp [smallD]; intros; omega)]; done) | (simp [smallX, all_of_take hA (by omega), all_of_take hB (by omega)]; omega)
            ·
              cases c48
          ·
            replace g47 := of_decide_eq_false g47
            refine OpsL.guarded rfl rfl (d := 57) rfl ?_
            refine OpsL.val rfl rfl (r_field_addr rfl Tryz.underlying56 rfl Tryz.sizeOf54 rfl) ?_
            refine OpsL.guarded rfl rfl (d := 57) rfl ?_
            refine OpsL.val rfl rfl (r_field_addr rfl Tryz.underlying54 rfl Tryz.sizeOf9 rfl) ?_
            refine OpsL.guarded rfl rfl (d := 57) rfl ?_
            refine OpsL.val rfl rfl (r_load_cells1 (j := 6) st46.sub hc45 rfl rfl rfl Tryz.isAgg9) ?_
            refine OpsL.guarded rfl rfl (d := 57) rfl ?_
            refine OpsL.val rfl rfl (r_len_str rfl Tryz.underlying9) ?_
            refine OpsL.guarded rfl rfl (d := 57) rfl ?_
            refine OpsL.val rfl rfl (r_gtr rfl rfl) ?_
            refine OpsL.val rfl rfl (r_pickF (v := (.bool _)) rfl rfl) ?_
            refine OpsL.nil ?_
            refine Then.norm ?_
            refine W.cond rfl (fun c49 => ?_) (fun c49 => ?_)
            ·
              replace c49 := of_decide_eq_true c49
              refine W.seq ?_
              refine W.region ?_
              refine OpsL.val rfl rfl (r_asB rfl) ?_
              refine OpsL.nil ?_
              refine Then.norm ?_
              refine W.ret ?_
              refine Blk.ret ?_
              refine Then.ret ?_
              refine Then.ret ?_
              refine Blk.ret ?_
              refine Then.ret ?_
              -- return r6
              refine Post.ret1 Tryz.results7 ?_
              refine ⟨h42, _, rfl, st46.done, ?_⟩
              refine bool_eq ?_
              first | (simp [smallX]; intros; omega) | (simp [smallX, not_all (p := smallR) hr (by simp [smallR]; intros; omega)]; done) | (simp [smallX, not_all (p := smallD) hd (by simp [smallD]; intros; omega)]; done) | (simp [smallX, all_of_take hA (by omega), all_of_take hB (by omega)]; omega)
            ·
              replace c49 := of_decide_eq_false c49
              refine W.skip ?_
              refine Blk.norm ?_
              refine Then.norm ?_
              refine W.region ?_
              refine OpsL.val rfl rfl (r_mvI rfl) ?_
              refine OpsL.val rfl rfl (r_add rfl rfl (by first | omega | (simp; omega))) ?_
              refine OpsL.val rfl rfl (r_asI rfl) ?_
              refine OpsL.nil ?_
              refine Then.norm ?_
              refine ⟨⟨k + 1, h42⟩, ⟨rfl, trivial⟩, ?_, ⟨(le25.trans le43), st46.take 0, ?_, ?_⟩, ?_⟩
              · repeat (first | exact Agree.mix _ _ _ | exact Agree.refl _ _ | refine Agree.updO rfl ?_ | refine Agree.upd rfl ?_ | refine Agree.known rfl ?_ | refine Agree.sub rfl ?_)
              · first | omega | (simp; omega)
              · exact all_take_succ hB hd (by have q := g47; have q2 := c49; simp [smallD]; omega)
              · show x.decisions.length - ((k + 1)) < x.decisions.length - k
                omega
        ·
          replace c28 := of_decide_eq_false c28
          refine W.exit ?_
          refine Then.exit ?_
          refine Then.exit ?_
          refine Blk.hit ?_
          refine Then.norm ?_
          refine W.seq ?_
          refine W.region ?_
          refine OpsL.val rfl rfl (r_asB rfl) ?_
          refine OpsL.nil ?_
          refine Then.norm ?_
          refine W.ret ?_
          -- return r7
          refine Post.ret1 Tryz.results7 ?_
          refine ⟨h24, _, rfl, st26.done, ?_⟩
          refine bool_eq ?_
          first | (simp [smallX]; intros; omega) | (simp [smallX, not_all (p := smallR) hr (by simp [smallR]; intros; omega)]; done) | (simp [smallX, not_all (p := smallD) hd (by simp [smallD]; intros; omega)]; done) | (simp [smallX, all_of_take hA (by omega), all_of_take hB (by omega)]; omega)
end Go.Pk
