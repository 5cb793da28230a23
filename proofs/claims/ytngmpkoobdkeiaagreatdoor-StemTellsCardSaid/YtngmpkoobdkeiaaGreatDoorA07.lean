/- A PART OF THE PROOF (printed by a program of the author's own): contracts of functions, each walked once. -/
import Derived.Test.YtngmpkoobdkeiaaGreatDoorA05
namespace Go.Pk
open Go Go.RowKit Go.Proofs
set_option maxRecDepth 4000 in
theorem c_leaf_open {h : Heap} {w : World} (hs : Sub h w) {t : Text} {t_v0 : Value} (t_f0 : Sl LChapter h t_v0 t.chapters) : Calls Tryz.prog 179 #[.agg #[t_v0]] w (Rets h w (fun h' _ res_ => ∃ u0, res_ = .tuple #[u0, .int .i64 ((if textB t then 0 else 10))] ∧ Box LText h' (textB t) t u0)) := by
  refine W.calls (n := 13) (args := [.agg #[t_v0]]) Tryz.func179 rfl rfl rfl ?_
  have st0 : St h w h w [] := St.start hs
  have t_f0_b := t_f0.le
  refine W.seq ?_
  refine W.region ?_
  refine OpsL.boxF st0 (cs := [t_v0]) rfl rfl rfl ?_
  intro b1 w2 h3 le4 hc5 st6
  refine OpsL.val rfl rfl (r_assign rfl) ?_
  refine OpsL.val rfl rfl (r_asI rfl) ?_
  refine OpsL.nil ?_
  refine Then.norm ?_
  refine W.seq ?_
  refine W.seq ?_
  refine W.region ?_
  refine OpsL.val rfl rfl (r_load_call st6.sub hc5 rfl Tryz.isAgg24 Tryz.sizeOf24 rfl) ?_
  refine OpsL.callF st6 rfl rfl rfl Tryz.call47 rfl (c_leaf_Check st6.sub (t := t) (t_f0.up le4)) ?_
  intro r7 w8 h9 le10 st11 q12
  obtain rfl := q12
  refine OpsL.val rfl rfl (r_asI rfl) ?_
  refine OpsL.nil ?_
  refine Then.norm ?_
  refine W.seq ?_
  refine W.region ?_
  refine OpsL.val rfl rfl (r_mvI rfl) ?_
  refine OpsL.val rfl rfl (r_neq rfl rfl) ?_
  refine OpsL.nil ?_
  refine Then.norm ?_
  refine W.cond rfl (fun c13 => ?_) (fun c13 => ?_)
  ·
    replace c13 := of_decide_eq_true c13
    refine W.seq ?_
    refine W.region ?_
    refine OpsL.val rfl rfl (r_mvI rfl) ?_
    refine OpsL.val rfl rfl (r_assign rfl) ?_
    refine OpsL.val rfl rfl (r_asI rfl) ?_
    refine OpsL.nil ?_
    refine Then.norm ?_
    refine W.ret ?_
    refine Then.ret ?_
    -- return r1
    refine Post.ret2 Tryz.results179 ?_
    refine ⟨h9, _, rfl, st11.done, ?_⟩
    refine ⟨_, tup2 rfl (int_eq ?_), Box.nil ?_⟩
    · simp_all
    · simp_all
  ·
    replace c13 := of_decide_eq_false c13
    refine W.skip ?_
    refine Then.norm ?_
    refine W.seq ?_
    refine W.region ?_
    refine OpsL.val rfl rfl (r_load_call st11.sub (hc5.up le10) rfl Tryz.isAgg24 Tryz.sizeOf24 rfl) ?_
    refine OpsL.val rfl rfl (r_build (cs := [t_v0]) (by kernel_rfl)) ?_
    refine OpsL.boxF st11 (cs := [t_v0]) rfl rfl rfl ?_
    intro b14 w15 h16 le17 hc18 st19
    refine OpsL.val rfl rfl (r_asP rfl) ?_
    refine OpsL.val rfl rfl (r_asI rfl) ?_
    refine OpsL.nil ?_
    refine Then.norm ?_
    refine W.ret ?_
    -- return r2
    refine Post.ret2 Tryz.results179 ?_
    refine ⟨h16, _, rfl, st19.done, ?_⟩
    refine ⟨_, tup2 rfl (int_eq ?_), Box.some ?_ hc18 ⟨_, rfl, (t_f0.up ((le4.trans le10).trans le17))⟩⟩
    · simp_all
    · simp_all
set_option maxRecDepth 4000 in
theorem c_leaf_book_line {h : Heap} {w : World} (hs : Sub h w) {t_b : Nat} {t : Text} {t_v0 : Value} (t_f0 : Sl LChapter h t_v0 t.chapters) (t_c : Cells h t_b 0 [t_v0]) {p : Place} : Calls Tryz.prog 138 #[.pointer (some ⟨t_b, 0, none⟩), .agg #[.int .i64 p.chapter, .int .i64 p.line, .int .i64 p.word]] w (Rets h w (fun h' _ res_ => ∃ u0, res_ = u0 ∧ Sl LStr h' u0 ((lineAt t p).getD []))) := by
  refine W.calls (n := 50) (args := [.pointer (some ⟨t_b, 0, none⟩), .agg #[.int .i64 p.chapter, .int .i64 p.line, .int .i64 p.word]]) Tryz.func138 rfl rfl rfl ?_
  have st0 : St h w h w [] := St.start hs
  have t_f0_b := t_f0.le
  refine W.seq ?_
  refine W.region ?_
  refine OpsL.boxF st0 (cs := [.int .i64 (p.chapter), .int .i64 (p.line), .int .i64 (p.word)]) rfl rfl rfl ?_
  intro b1 w2 h3 le4 hc5 st6
  refine OpsL.val rfl rfl (r_asL rfl) ?_
  refine OpsL.nil ?_
  refine Then.norm ?_
  refine W.seq ?_
  refine W.seq ?_
  rcases Bool.eq_false_or_eq_true ((!(inAll (([(p.chapter)])) (0) (((t.chapters.length : Int) - 1))))) with g7 | g7
  ·
    have g7_r := g7
    refine W.regionR (er := []) (dsts := [5, 6, 7, 8, 9, 10, 11, 12, 13, 14, 15, 16, 17, 18, 19, 20, 21, 22, 23, 24, 25, 26, 27, 28, 29, 30, 31, 32, 33, 34, 35]) st6 Tryz.mixed ?_
    refine Drw.det' 0 [] rfl (by kernel_rfl) (by kernel_rfl) rfl rfl (fun hD wD τD hL hS hO  => (r_mvP rfl)) ?_
    refine Drw.det' 1 [0] rfl (by kernel_rfl) (by kernel_rfl) rfl rfl (fun hD wD τD hL hS hO _ _ => (r_nil_check rfl)) ?_
    refine Drw.det' 2 [0] rfl (by kernel_rfl) (by kernel_rfl) rfl rfl (fun hD wD τD hL hS hO _ _ => (r_field_addr rfl Tryz.underlying236 rfl Tryz.sizeOf24 rfl)) ?_
    refine Drw.det' 3 [0] rfl (by kernel_rfl) (by kernel_rfl) rfl rfl (fun hD wD τD hL hS hO _ _ => (r_field_addr rfl Tryz.underlying24 rfl Tryz.sizeOf22 rfl)) ?_
    refine Drw.det' 4 [0] rfl (by kernel_rfl) (by kernel_rfl) rfl rfl (fun hD wD τD hL hS hO _ _ => (r_load_cells1 (j := 0) (hL.sub hS) (t_c.up le4) rfl rfl rfl Tryz.isAgg22)) ?_
    refine Drw.det' 5 [0] rfl (by kernel_rfl) (by kernel_rfl) rfl rfl (fun hD wD τD hL hS hO _ _ => (r_len (t_f0.up le4) rfl Tryz.underlying22)) ?_
    refine Drw.det' 6 [0] rfl (by kernel_rfl) (by kernel_rfl) rfl rfl (fun hD wD τD hL hS hO _ _ => (r_sub rfl rfl (by first | omega | (simp; omega)))) ?_
    refine Drw.det' 7 [] rfl (by kernel_rfl) (by kernel_rfl) rfl rfl (fun hD wD τD hL hS hO  => (r_field_addr rfl Tryz.underlying52 rfl Tryz.sizeOf3 rfl)) ?_
    refine Drw.det' 8 [0] rfl (by kernel_rfl) (by kernel_rfl) rfl rfl (fun hD wD τD hL hS hO _ _ => (r_load_cells1 (j := 0) (hL.sub hS) hc5 rfl rfl rfl Tryz.isAgg3)) ?_
    refine Drw.flt' 9 (.res (fun h' res_ => Sl LInt h' res_ ([(p.chapter)])) (fun _ _ _ hl f => f.up hl)) [0] rfl (by kernel_rfl) (by kernel_rfl) ?_ ?_
    ·
      intro hD wD τD hL hS hO _ _
      have st8 := St.start hS
      refine OpsL.sliceF (L := LInt) (xs := [(p.chapter)]) (cs := [.int .i64 (p.chapter)]) st8 (Enc.cons (L := LInt) (vs := [.int .i64 (p.chapter)]) (x := (p.chapter)) (h := hD) (rfl) Enc.nil) rfl rfl rfl Tryz.underlying39 Tryz.info3 rfl rfl rfl (by kernel_rfl) ?_
      intro v9 w10 h13 le14 f11 st12
      exact OpsL.nil ⟨_, _, rfl, st12, _, rfl, f11⟩
    refine Drw.flt' 10 (.det (.bool (inAll (([(p.chapter)])) (0) (((t.chapters.length : Int) - 1))))) [3, 0] rfl (by kernel_rfl) (by kernel_rfl) ?_ ?_
    ·
      intro hD wD τD hL hS hO _ _ gv9_0 gf9_0
      have st15 := St.start hS
      refine OpsL.callF st15 rfl rfl rfl Tryz.call89 rfl (c_leaf_in st15.sub _ _ gf9_0) ?_
      intro r16 w17 h18 le19 st20 q21
      obtain rfl := q21
      exact OpsL.nil ⟨_, _, rfl, st20, (), rfl, trivial⟩
    refine Drw.det' 11 [0] rfl (by kernel_rfl) (by kernel_rfl) rfl rfl (fun hD wD τD hL hS hO _ _ => (Run.lit (r_not rfl) g7_r)) ?_
    refine Drw.det' 12 [0, 1] rfl (by kernel_rfl) (by kernel_rfl) rfl rfl (fun hD wD τD hL hS hO _ _ _ _ => (r_mvB rfl)) ?_
    refine Drw.skip 13 [0] rfl (by kernel_rfl) (by kernel_rfl) rfl rfl rfl rfl (fun hD wD τD hL hS hO _ _ => rfl) ?_
    refine Drw.skip 14 [0, 1] rfl (by kernel_rfl) (by kernel_rfl) rfl rfl rfl rfl (fun hD wD τD hL hS hO _ _ _ _ => rfl) ?_
    refine Drw.skip 15 [0, 2] rfl (by kernel_rfl) (by kernel_rfl) rfl rfl rfl rfl (fun hD wD τD hL hS hO _ _ _ _ => rfl) ?_
    refine Drw.skip 16 [0, 3] rfl (by kernel_rfl) (by kernel_rfl) rfl rfl rfl rfl (fun hD wD τD hL hS hO _ _ _ _ => rfl) ?_
    refine Drw.skip 17 [0, 4] rfl (by kernel_rfl) (by kernel_rfl) rfl rfl rfl rfl (fun hD wD τD hL hS hO _ _ _ _ => rfl) ?_
    refine Drw.skip 18 [5] rfl (by kernel_rfl) (by kernel_rfl) rfl rfl rfl rfl (fun hD wD τD hL hS hO _ _ => rfl) ?_
    refine Drw.skip 19 [0, 6] rfl (by kernel_rfl) (by kernel_rfl) rfl rfl rfl rfl (fun hD wD τD hL hS hO _ _ _ _ => rfl) ?_
    refine Drw.skip 20 [2, 0, 7] rfl (by kernel_rfl) (by kernel_rfl) rfl rfl rfl rfl (fun hD wD τD hL hS hO _ _ _ _ _ _ => rfl) ?_
    refine Drw.skip 21 [0, 8] rfl (by kernel_rfl) (by kernel_rfl) rfl rfl rfl rfl (fun hD wD τD hL hS hO _ _ _ _ => rfl) ?_
    refine Drw.skip 22 [0, 9] rfl (by kernel_rfl) (by kernel_rfl) rfl rfl rfl rfl (fun hD wD τD hL hS hO _ _ _ _ => rfl) ?_
    refine Drw.skip 23 [0, 10] rfl (by kernel_rfl) (by kernel_rfl) rfl rfl rfl rfl (fun hD wD τD hL hS hO _ _ _ _ => rfl) ?_
    refine Drw.skip 24 [0, 11] rfl (by kernel_rfl) (by kernel_rfl) rfl rfl rfl rfl (fun hD wD τD hL hS hO _ _ _ _ => rfl) ?_
    refine Drw.skip 25 [12] rfl (by kernel_rfl) (by kernel_rfl) rfl rfl rfl rfl (fun hD wD τD hL hS hO _ _ => rfl) ?_
    refine Drw.skip 26 [0, 13] rfl (by kernel_rfl) (by kernel_rfl) rfl rfl rfl rfl (fun hD wD τD hL hS hO _ _ _ _ => rfl) ?_
    refine Drw.skip 27 [0, 14] rfl (by kernel_rfl) (by kernel_rfl) rfl rfl rfl rfl (fun hD wD τD hL hS hO _ _ _ _ => rfl) ?_
    refine Drw.skip 28 [3, 0, 15] rfl (by kernel_rfl) (by kernel_rfl) rfl rfl rfl rfl (fun hD wD τD hL hS hO _ _ _ _ _ _ => rfl) ?_
    refine Drw.skip 29 [0, 16] rfl (by kernel_rfl) (by kernel_rfl) rfl rfl rfl rfl (fun hD wD τD hL hS hO _ _ _ _ => rfl) ?_
    refine Drw.det' 30 [17, 0] rfl (by kernel_rfl) (by kernel_rfl) rfl rfl (fun hD wD τD hL hS hO _ _ _ _ => (r_pickT (v := (.bool _)) rfl rfl)) ?_
    refine Drw.nil rfl rfl rfl ⟨by kernel_rfl, rfl, by kernel_rfl, rfl, by kernel_rfl, rfl, cx_nil⟩ ?_
    intro hE22 w23 _ le24 st25 _ _ _ _ _ _ _ _ _ _ _ _ _ _ _ _ _ _ gv9_0x26 gf9_0x26 _ _ _ _ _ _ _ _ _ _ _ _ _ _ _ _ _ _ _ _ _ _ _ _ _ _ _ _ _ _ _ _ _ _ _ _ _ _ _ _ _ _
    refine AllDeps.fin rfl ?_
    refine Then.norm ?_
    refine W.cond rfl (fun c27 => ?_) (fun c27 => ?_)
    ·
      refine W.seq ?_
      refine W.region ?_
      refine OpsL.val rfl rfl (r_asL rfl) ?_
      refine OpsL.nil ?_
      refine Then.norm ?_
      refine W.ret ?_
      refine Then.ret ?_
      -- return r1
      refine Post.ret1 Tryz.results138 ?_
      refine ⟨hE22, _, rfl, st25.done, ?_⟩
      refine ⟨_, rfl, Sl.to (Sl.nil _ _) ?_⟩
      have q : lineAt t p = none := line_none1 (by
        have q := g7
        simp [inAll, inB] at q
        omega)
      simp [q]
    ·
      cases c27
  ·
    have g7_r := g7
    have q1 : 0 ≤ p.chapter ∧ p.chapter < t.chapters.length := by
      have q := g7
      simp [inAll, inB] at q
      omega
    have hc : ∃ y, (t.chapters)[p.chapter.toNat]? = some y := ⟨_, List.getElem?_eq_getElem (by omega)⟩
    obtain ⟨c, hc⟩ := hc
    obtain ⟨b28, o29, _, he31, hc30, hr_c⟩ := Sl.elem (t_f0.up le4) hc
    obtain ⟨v32, rfl, f33⟩ := hr_c
    have f33_b := f33.le
    refine W.regionR (er := []) (dsts := [5, 6, 7, 8, 9, 10, 11, 12, 13, 14, 15, 16, 17, 18, 19, 20, 21, 22, 23, 24, 25, 26, 27, 28, 29, 30, 31, 32, 33, 34, 35]) st6 Tryz.mixed ?_
    refine Drw.det' 0 [] rfl (by kernel_rfl) (by kernel_rfl) rfl rfl (fun hD wD τD hL hS hO  => (r_mvP rfl)) ?_
    refine Drw.det' 1 [0] rfl (by kernel_rfl) (by kernel_rfl) rfl rfl (fun hD wD τD hL hS hO _ _ => (r_nil_check rfl)) ?_
    refine Drw.det' 2 [0] rfl (by kernel_rfl) (by kernel_rfl) rfl rfl (fun hD wD τD hL hS hO _ _ => (r_field_addr rfl Tryz.underlying236 rfl Tryz.sizeOf24 rfl)) ?_
    refine Drw.det' 3 [0] rfl (by kernel_rfl) (by kernel_rfl) rfl rfl (fun hD wD τD hL hS hO _ _ => (r_field_addr rfl Tryz.underlying24 rfl Tryz.sizeOf22 rfl)) ?_
    refine Drw.det' 4 [0] rfl (by kernel_rfl) (by kernel_rfl) rfl rfl (fun hD wD τD hL hS hO _ _ => (r_load_cells1 (j := 0) (hL.sub hS) (t_c.up le4) rfl rfl rfl Tryz.isAgg22)) ?_
    refine Drw.det' 5 [0] rfl (by kernel_rfl) (by kernel_rfl) rfl rfl (fun hD wD τD hL hS hO _ _ => (r_len (t_f0.up le4) rfl Tryz.underlying22)) ?_
    refine Drw.det' 6 [0] rfl (by kernel_rfl) (by kernel_rfl) rfl rfl (fun hD wD τD hL hS hO _ _ => (r_sub rfl rfl (by first | omega | (simp; omega)))) ?_
    refine Drw.det' 7 [] rfl (by kernel_rfl) (by kernel_rfl) rfl rfl (fun hD wD τD hL hS hO  => (r_field_addr rfl Tryz.underlying52 rfl Tryz.sizeOf3 rfl)) ?_
    refine Drw.det' 8 [0] rfl (by kernel_rfl) (by kernel_rfl) rfl rfl (fun hD wD τD hL hS hO _ _ => (r_load_cells1 (j := 0) (hL.sub hS) hc5 rfl rfl rfl Tryz.isAgg3)) ?_
    refine Drw.flt' 9 (.res (fun h' res_ => Sl LInt h' res_ ([(p.chapter)])) (fun _ _ _ hl f => f.up hl)) [0] rfl (by kernel_rfl) (by kernel_rfl) ?_ ?_
    ·
      intro hD wD τD hL hS hO _ _
      have st34 := St.start hS
      refine OpsL.sliceF (L := LInt) (xs := [(p.chapter)]) (cs := [.int .i64 (p.chapter)]) st34 (Enc.cons (L := LInt) (vs := [.int .i64 (p.chapter)]) (x := (p.chapter)) (h := hD) (rfl) Enc.nil) rfl rfl rfl Tryz.underlying39 Tryz.info3 rfl rfl rfl (by kernel_rfl) ?_
      intro v35 w36 h39 le40 f37 st38
      exact OpsL.nil ⟨_, _, rfl, st38, _, rfl, f37⟩
    refine Drw.flt' 10 (.det (.bool (inAll (([(p.chapter)])) (0) (((t.chapters.length : Int) - 1))))) [3, 0] rfl (by kernel_rfl) (by kernel_rfl) ?_ ?_
    ·
      intro hD wD τD hL hS hO _ _ gv9_0 gf9_0
      have st41 := St.start hS
      refine OpsL.callF st41 rfl rfl rfl Tryz.call89 rfl (c_leaf_in st41.sub _ _ gf9_0) ?_
      intro r42 w43 h44 le45 st46 q47
      obtain rfl := q47
      exact OpsL.nil ⟨_, _, rfl, st46, (), rfl, trivial⟩
    refine Drw.det' 11 [0] rfl (by kernel_rfl) (by kernel_rfl) rfl rfl (fun hD wD τD hL hS hO _ _ => (Run.lit (r_not rfl) g7_r)) ?_
    refine Drw.det' 12 [0, 1] rfl (by kernel_rfl) (by kernel_rfl) rfl rfl (fun hD wD τD hL hS hO _ _ _ _ => (r_mvB rfl)) ?_
    refine Drw.detG 13 [0] rfl (by kernel_rfl) (by kernel_rfl) rfl rfl rfl (fun hD wD τD hL hS hO _ _ => ⟨rfl, (r_mvP rfl)⟩) ?_
    refine Drw.detG 14 [0, 1] rfl (by kernel_rfl) (by kernel_rfl) rfl rfl rfl (fun hD wD τD hL hS hO _ _ _ _ => ⟨rfl, (r_nil_check rfl)⟩) ?_
    refine Drw.detG 15 [0, 2] rfl (by kernel_rfl) (by kernel_rfl) rfl rfl rfl (fun hD wD τD hL hS hO _ _ _ _ => ⟨rfl, (r_field_addr rfl Tryz.underlying236 rfl Tryz.sizeOf24 rfl)⟩) ?_
    refine Drw.detG 16 [0, 3] rfl (by kernel_rfl) (by kernel_rfl) rfl rfl rfl (fun hD wD τD hL hS hO _ _ _ _ => ⟨rfl, (r_field_addr rfl Tryz.underlying24 rfl Tryz.sizeOf22 rfl)⟩) ?_
    refine Drw.detG 17 [0, 4] rfl (by kernel_rfl) (by kernel_rfl) rfl rfl rfl (fun hD wD τD hL hS hO _ _ _ _ => ⟨rfl, (r_load_cells1 (j := 0) (hL.sub hS) (t_c.up le4) rfl rfl rfl Tryz.isAgg22)⟩) ?_
    refine Drw.detG 18 [5] rfl (by kernel_rfl) (by kernel_rfl) rfl rfl rfl (fun hD wD τD hL hS hO _ _ => ⟨rfl, (r_field_addr rfl Tryz.underlying52 rfl Tryz.sizeOf3 rfl)⟩) ?_
    refine Drw.detG 19 [0, 6] rfl (by kernel_rfl) (by kernel_rfl) rfl rfl rfl (fun hD wD τD hL hS hO _ _ _ _ => ⟨rfl, (r_load_cells1 (j := 0) (hL.sub hS) hc5 rfl rfl rfl Tryz.isAgg3)⟩) ?_
    refine Drw.detG 20 [2, 0, 7] rfl (by kernel_rfl) (by kernel_rfl) rfl rfl rfl (fun hD wD τD hL hS hO _ _ _ _ _ _ => ⟨rfl, (r_index_el he31 rfl rfl (hk := (show _ = ((p.chapter.toNat : Nat) : Int) by omega)) (hu := Tryz.underlying22) (hz := Tryz.sizeOf93))⟩) ?_
    refine Drw.detG 21 [0, 8] rfl (by kernel_rfl) (by kernel_rfl) rfl rfl rfl (fun hD wD τD hL hS hO _ _ _ _ => ⟨rfl, (r_field_addr rfl Tryz.underlying93 rfl Tryz.sizeOf91 rfl)⟩) ?_
    refine Drw.detG 22 [0, 9] rfl (by kernel_rfl) (by kernel_rfl) rfl rfl rfl (fun hD wD τD hL hS hO _ _ _ _ => ⟨rfl, (r_load_cells1 (j := 1) (hL.sub hS) hc30 rfl rfl rfl Tryz.isAgg91)⟩) ?_
    refine Drw.detG 23 [0, 10] rfl (by kernel_rfl) (by kernel_rfl) rfl rfl rfl (fun hD wD τD hL hS hO _ _ _ _ => ⟨rfl, (r_len f33 rfl Tryz.underlying91)⟩) ?_
    refine Drw.detG 24 [0, 11] rfl (by kernel_rfl) (by kernel_rfl) rfl rfl rfl (fun hD wD τD hL hS hO _ _ _ _ => ⟨rfl, (r_sub rfl rfl (by first | omega | (simp; omega)))⟩) ?_
    refine Drw.detG 25 [12] rfl (by kernel_rfl) (by kernel_rfl) rfl rfl rfl (fun hD wD τD hL hS hO _ _ => ⟨rfl, (r_field_addr rfl Tryz.underlying52 rfl Tryz.sizeOf3 rfl)⟩) ?_
    refine Drw.detG 26 [0, 13] rfl (by kernel_rfl) (by kernel_rfl) rfl rfl rfl (fun hD wD τD hL hS hO _ _ _ _ => ⟨rfl, (r_load_cells1 (j := 1) (hL.sub hS) hc5 rfl rfl rfl Tryz.isAgg3)⟩) ?_
    refine Drw.flt' 27 (.res (fun h' res_ => Sl LInt h' res_ ([(p.line)])) (fun _ _ _ hl f => f.up hl)) [0, 14] rfl (by kernel_rfl) (by kernel_rfl) ?_ ?_
    ·
      intro hD wD τD hL hS hO _ _ _ _
      have st48 := St.start hS
      refine OpsL.guarded rfl rfl (d := 17) rfl ?_
      refine OpsL.sliceF (L := LInt) (xs := [(p.line)]) (cs := [.int .i64 (p.line)]) st48 (Enc.cons (L := LInt) (vs := [.int .i64 (p.line)]) (x := (p.line)) (h := hD) (rfl) Enc.nil) rfl rfl rfl Tryz.underlying39 Tryz.info3 rfl rfl rfl (by kernel_rfl) ?_
      intro v49 w50 h53 le54 f51 st52
      exact OpsL.nil ⟨_, _, rfl, st52, _, rfl, f51⟩
    refine Drw.flt' 28 (.det (.bool (inAll (([(p.line)])) (0) (((c.lines.length : Int) - 1))))) [3, 0, 15] rfl (by kernel_rfl) (by kernel_rfl) ?_ ?_
    ·
      intro hD wD τD hL hS hO _ _ gv27_0 gf27_0 _ _
      have st55 := St.start hS
      refine OpsL.guarded rfl rfl (d := 17) rfl ?_
      refine OpsL.callF st55 rfl rfl rfl Tryz.call89 rfl (c_leaf_in st55.sub _ _ gf27_0) ?_
      intro r56 w57 h58 le59 st60 q61
      obtain rfl := q61
      exact OpsL.nil ⟨_, _, rfl, st60, (), rfl, trivial⟩
    refine Drw.detG 29 [0, 16] rfl (by kernel_rfl) (by kernel_rfl) rfl rfl rfl (fun hD wD τD hL hS hO _ _ _ _ => ⟨rfl, (r_not rfl)⟩) ?_
    refine Drw.det' 30 [17, 0] rfl (by kernel_rfl) (by kernel_rfl) rfl rfl (fun hD wD τD hL hS hO _ _ _ _ => (r_pickF (v := (.bool _)) rfl rfl)) ?_
    refine Drw.nil rfl rfl rfl ⟨by kernel_rfl, rfl, by kernel_rfl, rfl, by kernel_rfl, rfl, cx_nil⟩ ?_
    intro hE62 w63 _ le64 st65 _ _ _ _ _ _ _ _ _ _ _ _ _ _ _ _ _ _ gv9_0x66 gf9_0x66 _ _ _ _ _ _ _ _ _ _ _ _ _ _ _ _ _ _ _ _ _ _ _ _ _ _ _ _ _ _ _ _ _ _ gv27_0x66 gf27_0x66 _ _ _ _ _ _
    refine AllDeps.fin rfl ?_
    refine Then.norm ?_
    refine W.cond rfl (fun c67 => ?_) (fun c67 => ?_)
    ·
      refine W.seq ?_
      refine W.region ?_
      refine OpsL.val rfl rfl (r_asL rfl) ?_
      refine OpsL.nil ?_
      refine Then.norm ?_
      refine W.ret ?_
      refine Then.ret ?_
      -- return r2
      refine Post.ret1 Tryz.results138 ?_
      refine ⟨hE62, _, rfl, st65.done, ?_⟩
      refine ⟨_, rfl, Sl.to (Sl.nil _ _) ?_⟩
      have q : lineAt t p = none := line_none2 hc (by
        have q := c67
        simp [inAll, inB] at q
        omega)
      simp [q]
    ·
      refine W.skip ?_
      refine Then.norm ?_
      refine W.seq ?_
      have q1 : 0 ≤ p.chapter ∧ p.chapter < t.chapters.length ∧ 0 ≤ p.line ∧ p.line < c.lines.length := by
        have q := g7
        have q0 := c67
        simp [inAll, inB] at q q0
        omega
      refine W.regionQ Tryz.mixed (by kernel_rfl) (Cls hE62 _) (Cls.drew st65) ?_
      refine OpsQ.val rfl rfl (fun _ _ => (r_mvP rfl)) ?_
      refine OpsQ.val rfl rfl (fun _ _ => (r_nil_check rfl)) ?_
      refine OpsQ.val rfl rfl (fun _ _ => (r_field_addr rfl Tryz.underlying236 rfl Tryz.sizeOf24 rfl)) ?_
      refine OpsQ.val rfl rfl (fun _ _ => (r_field_addr rfl Tryz.underlying24 rfl Tryz.sizeOf22 rfl)) ?_
      refine OpsQ.val rfl rfl (fun _ hC => (r_load_cells1 (j := 0) hC.sub (t_c.up (le4.trans le64)) rfl rfl rfl Tryz.isAgg22)) ?_
      refine OpsQ.val rfl rfl (fun _ _ => (r_field_addr rfl Tryz.underlying52 rfl Tryz.sizeOf3 rfl)) ?_
      refine OpsQ.val rfl rfl (fun _ hC => (r_load_cells1 (j := 0) hC.sub (hc5.up le64) rfl rfl rfl Tryz.isAgg3)) ?_
      refine OpsQ.val rfl rfl (fun _ _ => (r_index_el he31 rfl rfl (hk := (show _ = ((p.chapter.toNat : Nat) : Int) by omega)) (hu := Tryz.underlying22) (hz := Tryz.sizeOf93))) ?_
      refine OpsQ.val rfl rfl (fun _ _ => (r_field_addr rfl Tryz.underlying93 rfl Tryz.sizeOf91 rfl)) ?_
      refine OpsQ.val rfl rfl (fun _ hC => (r_load_cells1 (j := 1) hC.sub (hc30.up le64) rfl rfl rfl Tryz.isAgg91)) ?_
      refine OpsQ.val rfl rfl (fun _ _ => (r_field_addr rfl Tryz.underlying52 rfl Tryz.sizeOf3 rfl)) ?_
      refine OpsQ.val rfl rfl (fun _ hC => (r_load_cells1 (j := 1) hC.sub (hc5.up le64) rfl rfl rfl Tryz.isAgg3)) ?_
      have hln : ∃ y, (c.lines)[p.line.toNat]? = some y := ⟨_, List.getElem?_eq_getElem (by omega)⟩
      obtain ⟨ln, hln⟩ := hln
      obtain ⟨b68, o69, _, he71, hc70, hr_ln⟩ := Sl.elem (f33.up le64) hln
      obtain ⟨v72, rfl, f73⟩ := hr_ln
      have f73_b := f73.le
      refine OpsQ.val rfl rfl (fun _ _ => (r_index_el he71 rfl rfl (hk := (show _ = ((p.line.toNat : Nat) : Int) by omega)) (hu := Tryz.underlying91) (hz := Tryz.sizeOf33))) ?_
      refine OpsQ.val rfl rfl (fun _ hC => (r_load_cells1 (j := 0) hC.sub hc70 rfl rfl rfl Tryz.isAgg33)) ?_
      refine OpsQ.val rfl rfl (fun _ _ => (r_assign (v := v72) rfl)) ?_
      refine OpsQ.nil ?_
      rintro w74 ⟨h75, s76⟩
      have st77 := st65.call0 s76
      refine Then.norm ?_
      refine W.ret ?_
      -- return r3
      refine Post.ret1 Tryz.results138 ?_
      refine ⟨h75, _, rfl, st77.done, ?_⟩
      refine ⟨_, rfl, Sl.to (f73.up s76.le) ?_⟩
      rw [line_some hc q1.1 hln q1.2.2.1]; rfl
set_option maxRecDepth 4000 in
theorem c_leaf_book_has {h : Heap} {w : World} (hs : Sub h w) {t_b : Nat} {t : Text} {t_v0 : Value} (t_f0 : Sl LChapter h t_v0 t.chapters) (t_c : Cells h t_b 0 [t_v0]) {p : Place} : Calls Tryz.prog 180 #[.pointer (some ⟨t_b, 0, none⟩), .agg #[.int .i64 p.chapter, .int .i64 p.line, .int .i64 p.word]] w (Rets h w (fun _ _ res_ => res_ = .bool (placeB t p))) := by
  refine W.calls (n := 14) (args := [.pointer (some ⟨t_b, 0, none⟩), .agg #[.int .i64 p.chapter, .int .i64 p.line, .int .i64 p.word]]) Tryz.func180 rfl rfl rfl ?_
  have st0 : St h w h w [] := St.start hs
  have t_f0_b := t_f0.le
  refine W.seq ?_
  refine W.region ?_
  refine OpsL.boxF st0 (cs := [.int .i64 (p.chapter), .int .i64 (p.line), .int .i64 (p.word)]) rfl rfl rfl ?_
  intro b1 w2 h3 le4 hc5 st6
  refine OpsL.val rfl rfl (r_asB rfl) ?_
  refine OpsL.nil ?_
  refine Then.norm ?_
  refine W.seq ?_
  have qb := line_le t_f0 p
  refine W.regionR (er := []) (dsts := [5, 6, 7, 8, 9, 10, 11, 12, 13, 4]) st6 Tryz.mixed ?_
  refine Drw.det' 0 [] rfl (by kernel_rfl) (by kernel_rfl) rfl rfl (fun hD wD τD hL hS hO  => (r_mvP rfl)) ?_
  refine Drw.det' 1 [] rfl (by kernel_rfl) (by kernel_rfl) rfl rfl (fun hD wD τD hL hS hO  => (r_load_call (hL.sub hS) hc5 rfl Tryz.isAgg52 Tryz.sizeOf52 rfl)) ?_
  refine Drw.flt' 2 (.res (fun h' res_ => Sl LStr h' res_ ((lineAt (t) (p)).getD [])) (fun _ _ _ hl f => f.up hl)) [1, 0] rfl (by kernel_rfl) (by kernel_rfl) ?_ ?_
  ·
    intro hD wD τD hL hS hO _ _ _ _
    have st7 := St.start hS
    refine OpsL.callF st7 rfl rfl rfl Tryz.call138 rfl (c_leaf_book_line st7.sub (t := t) (t_f0.up (le4.trans hL)) (t_c.up (le4.trans hL)) (p := p)) ?_
    intro r8 w9 h10 le11 st12 q13
    obtain ⟨v14, e16, f15⟩ := q13
    rw [← e16] at f15
    have f15_b := f15.le
    exact OpsL.nil ⟨_, _, rfl, st12, _, rfl, f15⟩
  refine Drw.flt' 3 (.det (.int .i64 (((lineAt (t) (p)).getD []).length : Int))) [0] rfl (by kernel_rfl) (by kernel_rfl) ?_ ?_
  ·
    intro hD wD τD hL hS hO gv2_0 gf2_0
    have st17 := St.start hS
    refine OpsL.val rfl rfl (r_len gf2_0 rfl Tryz.underlying33) ?_
    exact OpsL.nil ⟨_, _, rfl, st17, (), rfl, trivial⟩
  refine Drw.det' 4 [0] rfl (by kernel_rfl) (by kernel_rfl) rfl rfl (fun hD wD τD hL hS hO _ _ => (r_sub rfl rfl (by first | omega | (simp; omega)))) ?_
  refine Drw.det' 5 [] rfl (by kernel_rfl) (by kernel_rfl) rfl rfl (fun hD wD τD hL hS hO  => (r_field_addr rfl Tryz.underlying52 rfl Tryz.sizeOf3 rfl)) ?_
  refine Drw.det' 6 [0] rfl (by kernel_rfl) (by kernel_rfl) rfl rfl (fun hD wD τD hL hS hO _ _ => (r_load_cells1 (j := 2) (hL.sub hS) hc5 rfl rfl rfl Tryz.isAgg3)) ?_
  refine Drw.flt' 7 (.res (fun h' res_ => Sl LInt h' res_ ([(p.word)])) (fun _ _ _ hl f => f.up hl)) [0] rfl (by kernel_rfl) (by kernel_rfl) ?_ ?_
  ·
    intro hD wD τD hL hS hO _ _
    have st18 := St.start hS
    refine OpsL.sliceF (L := LInt) (xs := [(p.word)]) (cs := [.int .i64 (p.word)]) st18 (Enc.cons (L := LInt) (vs := [.int .i64 (p.word)]) (x := (p.word)) (h := hD) (rfl) Enc.nil) rfl rfl rfl Tryz.underlying39 Tryz.info3 rfl rfl rfl (by kernel_rfl) ?_
    intro v19 w20 h23 le24 f21 st22
    exact OpsL.nil ⟨_, _, rfl, st22, _, rfl, f21⟩
  refine Drw.flt' 8 (.det (.bool (inAll (([(p.word)])) (0) (((((lineAt (t) (p)).getD []).length : Int) - 1))))) [3, 0, 5] rfl (by kernel_rfl) (by kernel_rfl) ?_ ?_
  ·
    intro hD wD τD hL hS hO _ _ gv7_0 gf7_0 gv2_0 gf2_0
    have st25 := St.start hS
    refine OpsL.callF st25 rfl rfl rfl Tryz.call89 rfl (c_leaf_in st25.sub _ _ gf7_0) ?_
    intro r26 w27 h28 le29 st30 q31
    obtain rfl := q31
    exact OpsL.nil ⟨_, _, rfl, st30, (), rfl, trivial⟩
  refine Drw.det' 9 [8, 7, 6, 5, 4, 3, 2, 1, 0] rfl (by kernel_rfl) (by kernel_rfl) rfl rfl (fun hD wD τD hL hS hO _ _ _ _ gv2_0 gf2_0 _ _ _ _ _ _ _ _ gv7_0 gf7_0 _ _ => (r_asB rfl)) ?_
  refine Drw.nil rfl rfl rfl ⟨by kernel_rfl, rfl, by kernel_rfl, rfl, by kernel_rfl, rfl, cx_nil⟩ ?_
  intro hE32 w33 _ le34 st35 _ _ _ _ gv2_0x36 gf2_0x36 _ _ _ _ _ _ _ _ gv7_0x36 gf7_0x36 _ _ _ _
  refine AllDeps.fin rfl ?_
  refine Then.norm ?_
  refine W.ret ?_
  -- return r1
  refine Post.ret1 Tryz.results180 ?_
  refine ⟨hE32, _, rfl, st35.done, ?_⟩
  refine bool_eq ?_
  rw [place_eq]
  cases hq : lineAt t p with
  | none => simp [inAll, inB]; omega
  | some l => simp [inAll]
set_option maxRecDepth 4000 in
theorem c_leaf_placed {h : Heap} {w : World} (hs : Sub h w) {t : Text} {t_v0 : Value} (t_f0 : Sl LChapter h t_v0 t.chapters) {p : Place} : Calls Tryz.prog 137 #[.agg #[t_v0], .agg #[.int .i64 p.chapter, .int .i64 p.line, .int .i64 p.word]] w (Rets h w (fun h' _ res_ => ∃ u0, res_ = .tuple #[u0, .int .i64 ((if textB t && placeB t p then 0 else if textB t then 12 else 10))] ∧ Box LText h' (textB t && placeB t p) t u0)) := by
  refine W.calls (n := 21) (args := [.agg #[t_v0], .agg #[.int .i64 p.chapter, .int .i64 p.line, .int .i64 p.word]]) Tryz.func137 rfl rfl rfl ?_
  have st0 : St h w h w [] := St.start hs
  have t_f0_b := t_f0.le
  refine W.seq ?_
  refine W.region ?_
  refine OpsL.boxF st0 (cs := [t_v0]) rfl rfl rfl ?_
  intro b1 w2 h3 le4 hc5 st6
  refine OpsL.boxF st6 (cs := [.int .i64 (p.chapter), .int .i64 (p.line), .int .i64 (p.word)]) rfl rfl rfl ?_
  intro b7 w8 h9 le10 hc11 st12
  refine OpsL.val rfl rfl (r_assign rfl) ?_
  refine OpsL.val rfl rfl (r_asI rfl) ?_
  refine OpsL.nil ?_
  refine Then.norm ?_
  refine W.seq ?_
  refine W.region ?_
  refine OpsL.val rfl rfl (r_load_call st12.sub (hc5.up le10) rfl Tryz.isAgg24 Tryz.sizeOf24 rfl) ?_
  refine OpsL.callF st12 rfl rfl rfl Tryz.call179 rfl (c_leaf_open st12.sub (t := t) (t_f0.up (le4.trans le10))) ?_
  intro r13 w14 h15 le16 st17 q18
  rcases Bool.eq_false_or_eq_true (textB (t)) with hb19 | hb19
  ·
    simp only [hb19, if_true, if_false, Bool.false_eq_true, reduceIte] at q18
    obtain ⟨v20, rfl, f21⟩ := q18
    obtain ⟨b22, vs23, rfl, hc24, hr25⟩ := f21
    obtain ⟨v26, rfl, f27⟩ := hr25
    have f27_b := f27.le
    refine OpsL.val rfl rfl (r_mvT rfl) ?_
    refine OpsL.val rfl rfl (r_extract (v := (.pointer (some _))) rfl rfl) ?_
    refine OpsL.val rfl rfl (r_extract (v := (.int _ _)) rfl rfl) ?_
    refine OpsL.val rfl rfl (r_asP rfl) ?_
    refine OpsL.val rfl rfl (r_asI rfl) ?_
    refine OpsL.nil ?_
    refine Then.norm ?_
    refine W.seq ?_
    refine W.seq ?_
    refine W.region ?_
    refine OpsL.val rfl rfl (r_mvI rfl) ?_
    refine OpsL.val rfl rfl (r_neq rfl rfl) ?_
    refine OpsL.nil ?_
    refine Then.norm ?_
    refine W.cond rfl (fun c28 => ?_) (fun c28 => ?_)
    ·
      exact absurd c28 (by decide)
    ·
      refine W.skip ?_
      refine Then.norm ?_
      refine W.seq ?_
      refine W.seq ?_
      refine W.region ?_
      refine OpsL.val rfl rfl (r_mvP rfl) ?_
      refine OpsL.val rfl rfl (r_load_call st17.sub (hc11.up le16) rfl Tryz.isAgg52 Tryz.sizeOf52 rfl) ?_
      refine OpsL.callF st17 rfl rfl rfl Tryz.call180 rfl (c_leaf_book_has st17.sub (t := (t)) f27 hc24 (p := p)) ?_
      intro r29 w30 h31 le32 st33 q34
      obtain rfl := q34
      refine OpsL.val rfl rfl (r_not rfl) ?_
      refine OpsL.nil ?_
      refine Then.norm ?_
      refine W.cond rfl (fun c35 => ?_) (fun c35 => ?_)
      ·
        refine W.seq ?_
        refine W.region ?_
        refine OpsL.val rfl rfl (r_assign rfl) ?_
        refine OpsL.val rfl rfl (r_asI rfl) ?_
        refine OpsL.nil ?_
        refine Then.norm ?_
        refine W.ret ?_
        refine Then.ret ?_
        -- return r1
        refine Post.ret2 Tryz.results137 ?_
        refine ⟨h31, _, rfl, st33.done, ?_⟩
        refine ⟨_, tup2 rfl (int_eq ?_), Box.nil ?_⟩
        · simp_all
        · simp_all
      ·
        refine W.skip ?_
        refine Then.norm ?_
        refine W.seq ?_
        refine W.region ?_
        refine OpsL.val rfl rfl (r_mvP rfl) ?_
        refine OpsL.val rfl rfl (r_asP rfl) ?_
        refine OpsL.val rfl rfl (r_asI rfl) ?_
        refine OpsL.nil ?_
        refine Then.norm ?_
        refine W.ret ?_
        -- return r2
        refine Post.ret2 Tryz.results137 ?_
        refine ⟨h31, _, rfl, st33.done, ?_⟩
        refine ⟨_, tup2 rfl (int_eq ?_), Box.some ?_ (hc24.up le32) ⟨_, rfl, (f27.up le32)⟩⟩
        · simp_all
        · simp_all
  ·
    simp only [hb19, if_true, if_false, Bool.false_eq_true, reduceIte] at q18
    obtain ⟨v36, rfl, f37⟩ := q18
    obtain rfl := f37
    refine OpsL.val rfl rfl (r_mvT rfl) ?_
    refine OpsL.val rfl rfl (r_extract (v := (.pointer none)) rfl rfl) ?_
    refine OpsL.val rfl rfl (r_extract (v := (.int _ _)) rfl rfl) ?_
    refine OpsL.val rfl rfl (r_assign rfl) ?_
    refine OpsL.val rfl rfl (r_asI rfl) ?_
    refine OpsL.nil ?_
    refine Then.norm ?_
    refine W.seq ?_
    refine W.seq ?_
    refine W.region ?_
    refine OpsL.val rfl rfl (r_mvI rfl) ?_
    refine OpsL.val rfl rfl (r_neq rfl rfl) ?_
    refine OpsL.nil ?_
    refine Then.norm ?_
    refine W.cond rfl (fun c38 => ?_) (fun c38 => ?_)
    ·
      refine W.seq ?_
      refine W.region ?_
      refine OpsL.val rfl rfl (r_mvI rfl) ?_
      refine OpsL.val rfl rfl (r_assign rfl) ?_
      refine OpsL.val rfl rfl (r_asI rfl) ?_
      refine OpsL.nil ?_
      refine Then.norm ?_
      refine W.ret ?_
      refine Then.ret ?_
      -- return r3
      refine Post.ret2 Tryz.results137 ?_
      refine ⟨h15, _, rfl, st17.done, ?_⟩
      refine ⟨_, tup2 rfl (int_eq ?_), Box.nil ?_⟩
      · simp_all
      · simp_all
    ·
      exact absurd c38 (by decide)
set_option maxRecDepth 4000 in
theorem c_leaf_At {h : Heap} {w : World} (hs : Sub h w) {t : Text} {t_v0 : Value} (t_f0 : Sl LChapter h t_v0 t.chapters) {p : Place} : Calls Tryz.prog 99 #[.agg #[t_v0], .agg #[.int .i64 p.chapter, .int .i64 p.line, .int .i64 p.word]] w (Rets h w (fun _ _ res_ => res_ = .tuple #[strV ((if textB t then (wordAt t p).getD [] else [])), .int .i64 ((if textB t && placeB t p then 0 else if textB t then 12 else 10))])) := by
  refine W.calls (n := 24) (args := [.agg #[t_v0], .agg #[.int .i64 p.chapter, .int .i64 p.line, .int .i64 p.word]]) Tryz.func99 rfl rfl rfl ?_
  have st0 : St h w h w [] := St.start hs
  have t_f0_b := t_f0.le
  refine W.seq ?_
  refine W.region ?_
  refine OpsL.boxF st0 (cs := [t_v0]) rfl rfl rfl ?_
  intro b1 w2 h3 le4 hc5 st6
  refine OpsL.boxF st6 (cs := [.int .i64 (p.chapter), .int .i64 (p.line), .int .i64 (p.word)]) rfl rfl rfl ?_
  intro b7 w8 h9 le10 hc11 st12
  refine OpsL.val rfl rfl (r_asS rfl) ?_
  refine OpsL.val rfl rfl (r_asI rfl) ?_
  refine OpsL.nil ?_
  refine Then.norm ?_
  refine W.seq ?_
  refine W.region ?_
  refine OpsL.val rfl rfl (r_load_call st12.sub (hc5.up le10) rfl Tryz.isAgg24 Tryz.sizeOf24 rfl) ?_
  refine OpsL.val rfl rfl (r_load_call st12.sub hc11 rfl Tryz.isAgg52 Tryz.sizeOf52 rfl) ?_
  refine OpsL.callF st12 rfl rfl rfl Tryz.call137 rfl (c_leaf_placed st12.sub (t := t) (t_f0.up (le4.trans le10)) (p := p)) ?_
  intro r13 w14 h15 le16 st17 q18
  rcases Bool.eq_false_or_eq_true (textB (t) && placeB (t) (p)) with hb19 | hb19
  ·
    simp only [hb19, if_true, if_false, Bool.false_eq_true, reduceIte] at q18
    obtain ⟨v20, rfl, f21⟩ := q18
    obtain ⟨b22, vs23, rfl, hc24, hr25⟩ := f21
    obtain ⟨v26, rfl, f27⟩ := hr25
    have f27_b := f27.le
    refine OpsL.val rfl rfl (r_mvT rfl) ?_
    refine OpsL.val rfl rfl (r_extract (v := (.pointer (some _))) rfl rfl) ?_
    refine OpsL.val rfl rfl (r_extract (v := (.int _ _)) rfl rfl) ?_
    refine OpsL.val rfl rfl (r_asP rfl) ?_
    refine OpsL.val rfl rfl (r_asI rfl) ?_
    refine OpsL.nil ?_
    refine Then.norm ?_
    refine W.seq ?_
    refine W.seq ?_
    refine W.region ?_
    refine OpsL.val rfl rfl (r_mvI rfl) ?_
    refine OpsL.val rfl rfl (r_neq rfl rfl) ?_
    refine OpsL.nil ?_
    refine Then.norm ?_
    refine W.cond rfl (fun c28 => ?_) (fun c28 => ?_)
    ·
      exact absurd c28 (by decide)
    ·
      refine W.skip ?_
      refine Then.norm ?_
      refine W.seq ?_
      have q1 : placeB t p = true := by simp_all
      have q2 := place_eq t p
      have q3 : 0 ≤ p.word ∧ p.word < (((lineAt t p).getD []).length : Int) := by
        rw [q1] at q2
        simp [inB] at q2
        omega
      have hwd : ∃ y, (((lineAt ((t)) (p)).getD []))[p.word.toNat]? = some y := ⟨_, List.getElem?_eq_getElem (by omega)⟩
      obtain ⟨wd, hwd⟩ := hwd
      refine W.regionR (er := []) (dsts := [17, 18, 19, 20, 21, 22, 23, 4, 5]) st17 Tryz.mixed ?_
      refine Drw.det' 0 [] rfl (by kernel_rfl) (by kernel_rfl) rfl rfl (fun hD wD τD hL hS hO  => (r_mvP rfl)) ?_
      refine Drw.det' 1 [] rfl (by kernel_rfl) (by kernel_rfl) rfl rfl (fun hD wD τD hL hS hO  => (r_load_call (hL.sub hS) (hc11.up le16) rfl Tryz.isAgg52 Tryz.sizeOf52 rfl)) ?_
      refine Drw.flt' 2 (.res (fun h' res_ => Sl LStr h' res_ ((lineAt ((t)) (p)).getD [])) (fun _ _ _ hl f => f.up hl)) [1, 0] rfl (by kernel_rfl) (by kernel_rfl) ?_ ?_
      ·
        intro hD wD τD hL hS hO _ _ _ _
        have st29 := St.start hS
        refine OpsL.callF st29 rfl rfl rfl Tryz.call138 rfl (c_leaf_book_line st29.sub (t := (t)) (f27.up hL) (hc24.up hL) (p := p)) ?_
        intro r30 w31 h32 le33 st34 q35
        obtain ⟨v36, e38, f37⟩ := q35
        rw [← e38] at f37
        have f37_b := f37.le
        exact OpsL.nil ⟨_, _, rfl, st34, _, rfl, f37⟩
      refine Drw.det' 3 [] rfl (by kernel_rfl) (by kernel_rfl) rfl rfl (fun hD wD τD hL hS hO  => (r_field_addr rfl Tryz.underlying52 rfl Tryz.sizeOf3 rfl)) ?_
      refine Drw.det' 4 [0] rfl (by kernel_rfl) (by kernel_rfl) rfl rfl (fun hD wD τD hL hS hO _ _ => (r_load_cells1 (j := 2) (hL.sub hS) (hc11.up le16) rfl rfl rfl Tryz.isAgg3)) ?_
      refine Drw.flt' 5 (.res (fun h' res_ => ∃ b o, res_ = .pointer (some ⟨b, o, none⟩) ∧ Cells h' b o [strV wd]) (by rintro _ _ _ hl ⟨b, o, e, c⟩; exact ⟨b, o, e, c.up hl⟩)) [2, 0] rfl (by kernel_rfl) (by kernel_rfl) ?_ ?_
      ·
        intro hD wD τD hL hS hO gv2_0 gf2_0 _ _
        have st39 := St.start hS
        obtain ⟨b_, o_, _, he_, hc_, hr_⟩ := Sl.elem gf2_0 hwd
        obtain ⟨rfl, ls40⟩ := hr_
        simp only [big] at ls40
        refine OpsL.val rfl rfl (r_index_el he_ rfl rfl (hk := (show _ = ((p.word.toNat : Nat) : Int) by omega)) (hu := Tryz.underlying33) (hz := Tryz.sizeOf9)) ?_
        exact OpsL.nil ⟨_, _, rfl, st39, _, rfl, _, _, rfl, hc_⟩
      refine Drw.flt' 6 (.det (strV wd)) [0] rfl (by kernel_rfl) (by kernel_rfl) ?_ ?_
      ·
        intro hD wD τD hL hS hO gv5_ gf5_
        obtain ⟨gb5, go5, rfl, gc5⟩ := gf5_
        have st41 := St.start hS
        refine OpsL.val rfl rfl (r_load_cells1 (j := 0) hS gc5 rfl rfl rfl Tryz.isAgg9) ?_
        exact OpsL.nil ⟨_, _, rfl, st41, (), rfl, trivial⟩
      refine Drw.det' 7 [6, 5, 4, 3, 2, 1, 0] rfl (by kernel_rfl) (by kernel_rfl) rfl rfl (fun hD wD τD hL hS hO _ _ _ _ gv2_0 gf2_0 _ _ _ _ gv5_ gf5_ _ _ => (r_asS rfl)) ?_
      refine Drw.det' 8 [7, 6, 5, 4, 3, 2, 1, 0] rfl (by kernel_rfl) (by kernel_rfl) rfl rfl (fun hD wD τD hL hS hO _ _ _ _ gv2_0 gf2_0 _ _ _ _ gv5_ gf5_ _ _ _ _ => (r_asI rfl)) ?_
      refine Drw.nil rfl rfl rfl ⟨by kernel_rfl, rfl, by kernel_rfl, rfl, by kernel_rfl, rfl, cx_nil⟩ ?_
      intro hE42 w43 _ le44 st45 _ _ _ _ gv2_0x46 gf2_0x46 _ _ _ _ gv5_x46 gf5_x46 _ _ _ _ _ _
      obtain ⟨gb5x46, go5x46, rfl, gc5x46⟩ := gf5_x46
      refine AllDeps.fin rfl ?_
      refine Then.norm ?_
      refine W.ret ?_
      -- return r1
      refine Post.ret2 Tryz.results99 ?_
      refine ⟨hE42, _, rfl, st45.done, ?_⟩
      refine tup2 (str_eq ?_) (int_eq ?_)
      all_goals have qq : textB t = true ∧ placeB t p = true := by simp_all
      · simp [qq.1, word_some qq.2 hwd]
      · simp [qq.1, qq.2]
  ·
    simp only [hb19, if_true, if_false, Bool.false_eq_true, reduceIte] at q18
    obtain ⟨v47, rfl, f48⟩ := q18
    obtain rfl := f48
    refine OpsL.val rfl rfl (r_mvT rfl) ?_
    refine OpsL.val rfl rfl (r_extract (v := (.pointer none)) rfl rfl) ?_
    refine OpsL.val rfl rfl (r_extract (v := (.int _ _)) rfl rfl) ?_
    refine OpsL.val rfl rfl (r_assign rfl) ?_
    refine OpsL.val rfl rfl (r_asI rfl) ?_
    refine OpsL.nil ?_
    refine Then.norm ?_
    refine W.seq ?_
    refine W.seq ?_
    refine W.region ?_
    refine OpsL.val rfl rfl (r_mvI rfl) ?_
    refine OpsL.val rfl rfl (r_neq rfl rfl) ?_
    refine OpsL.nil ?_
    refine Then.norm ?_
    refine W.cond rfl (fun c49 => ?_) (fun c49 => ?_)
    ·
      replace c49 := of_decide_eq_true c49
      refine W.seq ?_
      refine W.region ?_
      refine OpsL.val rfl rfl (r_mvI rfl) ?_
      refine OpsL.val rfl rfl (r_asS rfl) ?_
      refine OpsL.val rfl rfl (r_asI rfl) ?_
      refine OpsL.nil ?_
      refine Then.norm ?_
      refine W.ret ?_
      refine Then.ret ?_
      -- return r2
      refine Post.ret2 Tryz.results99 ?_
      refine ⟨h15, _, rfl, st17.done, ?_⟩
      refine tup2 (str_eq ?_) (int_eq ?_)
      all_goals have qq : textB t = true → placeB t p = false := by simp_all
      · cases q0 : textB t
        · rfl
        · simp [word_none (qq q0)]
      · cases q0 : textB t
        · rfl
        · simp [qq q0]
    ·
      replace c49 := of_decide_eq_false c49
      exfalso
      revert c49
      split <;> simp
end Go.Pk
