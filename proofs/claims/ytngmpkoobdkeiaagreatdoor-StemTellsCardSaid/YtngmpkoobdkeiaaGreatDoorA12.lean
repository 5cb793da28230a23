/- A PART OF THE PROOF (printed by a program of the author's own): contracts of functions, each walked once. -/
import Derived.Test.YtngmpkoobdkeiaaGreatDoorA10
import Derived.Test.YtngmpkoobdkeiaaGreatDoorA11
import Derived.Test.YtngmpkoobdkeiaaGreatDoorMap2
namespace Go.Pk
open Go Go.RowKit Go.Proofs
set_option maxRecDepth 4000 in
theorem c_stem_Check_1 {h : Heap} {w : World} (hs : Sub h w) {r : Rule} (r_l1 : r.cut.length ≤ 281474976710656) (r_l2 : r.put.length ≤ 281474976710656) : Calls Tryz.prog 49 #[.agg #[strV r.cut, strV r.put, .int .i64 r.least]] w (Rets h w (fun _ _ res_ => res_ = .bool (ruleB r))) := by
  refine W.calls (n := 24) (args := [.agg #[strV r.cut, strV r.put, .int .i64 r.least]]) Tryz.func49 rfl rfl rfl ?_
  have st0 : St h w h w [] := St.start hs
  refine W.seq ?_
  refine W.region ?_
  refine OpsL.boxF st0 (cs := [strV (r.cut), strV (r.put), .int .i64 (r.least)]) rfl rfl rfl ?_
  intro b1 w2 h3 le4 hc5 st6
  refine OpsL.val rfl rfl (r_asB rfl) ?_
  refine OpsL.nil ?_
  refine Then.norm ?_
  refine W.seq ?_
  refine W.region ?_
  refine OpsL.val rfl rfl (r_field_addr rfl Tryz.underlying70 rfl Tryz.sizeOf9 rfl) ?_
  refine OpsL.val rfl rfl (r_load_cells1 (j := 0) st6.sub hc5 rfl rfl rfl Tryz.isAgg9) ?_
  refine OpsL.callF st6 rfl rfl rfl Tryz.call41 rfl (c_stem_letters st6.sub _ (by first | assumption | (simp [big]; done) | (simp [big]; omega) | omega) _) ?_
  intro r7 w8 h9 le10 st11 q12
  obtain rfl := q12
  refine OpsL.val rfl rfl (r_mvB rfl) ?_
  refine OpsL.split (d := 6) rfl (fun g13 => ?_) (fun g13 => ?_)
  ·
    refine OpsL.guarded rfl rfl (d := 6) rfl ?_
    refine OpsL.val rfl rfl (r_field_addr rfl Tryz.underlying70 rfl Tryz.sizeOf9 rfl) ?_
    refine OpsL.guarded rfl rfl (d := 6) rfl ?_
    refine OpsL.val rfl rfl (r_load_cells1 (j := 1) st11.sub (hc5.up le10) rfl rfl rfl Tryz.isAgg9) ?_
    refine OpsL.guarded rfl rfl (d := 6) rfl ?_
    refine OpsL.callF st11 rfl rfl rfl Tryz.call41 rfl (c_stem_letters st11.sub _ (by first | assumption | (simp [big]; done) | (simp [big]; omega) | omega) _) ?_
    intro r14 w15 h16 le17 st18 q19
    obtain rfl := q19
    refine OpsL.val rfl rfl (r_pickT (v := (.bool _)) rfl rfl) ?_
    refine OpsL.val rfl rfl (r_mvB rfl) ?_
    refine OpsL.split (d := 11) rfl (fun g20 => ?_) (fun g20 => ?_)
    ·
      refine OpsL.guarded rfl rfl (d := 11) rfl ?_
      refine OpsL.val rfl rfl (r_field_addr rfl Tryz.underlying70 rfl Tryz.sizeOf9 rfl) ?_
      refine OpsL.guarded rfl rfl (d := 11) rfl ?_
      refine OpsL.val rfl rfl (r_load_cells1 (j := 0) st18.sub (hc5.up (le10.trans le17)) rfl rfl rfl Tryz.isAgg9) ?_
      refine OpsL.guarded rfl rfl (d := 11) rfl ?_
      refine OpsL.val rfl rfl (r_field_addr rfl Tryz.underlying70 rfl Tryz.sizeOf9 rfl) ?_
      refine OpsL.guarded rfl rfl (d := 11) rfl ?_
      refine OpsL.val rfl rfl (r_load_cells1 (j := 1) st18.sub (hc5.up (le10.trans le17)) rfl rfl rfl Tryz.isAgg9) ?_
      refine OpsL.guarded rfl rfl (d := 11) rfl ?_
      refine OpsL.val rfl rfl (r_sneq rfl rfl) ?_
      refine OpsL.val rfl rfl (r_pickT (v := (.bool _)) rfl rfl) ?_
      refine OpsL.val rfl rfl (r_mvB rfl) ?_
      refine OpsL.split (d := 18) rfl (fun g21 => ?_) (fun g21 => ?_)
      ·
        replace g21 := of_decide_eq_true g21
        refine OpsL.guarded rfl rfl (d := 18) rfl ?_
        refine OpsL.val rfl rfl (r_field_addr rfl Tryz.underlying70 rfl Tryz.sizeOf3 rfl) ?_
        refine OpsL.guarded rfl rfl (d := 18) rfl ?_
        refine OpsL.val rfl rfl (r_load_cells1 (j := 2) st18.sub (hc5.up (le10.trans le17)) rfl rfl rfl Tryz.isAgg3) ?_
        refine OpsL.guarded rfl rfl (d := 18) rfl ?_
        refine OpsL.sliceF (L := LInt) (xs := [(r.least)]) (cs := [.int .i64 (r.least)]) st18 (Enc.cons (L := LInt) (vs := [.int .i64 (r.least)]) (x := (r.least)) (h := h16) (rfl) Enc.nil) rfl rfl rfl Tryz.underlying39 Tryz.info3 rfl rfl rfl (by kernel_rfl) ?_
        intro v22 w23 h26 le27 f24 st25
        refine OpsL.guarded rfl rfl (d := 18) rfl ?_
        refine OpsL.callF st25 rfl rfl rfl Tryz.call50 rfl (c_stem_in st25.sub _ _ f24) ?_
        intro r28 w29 h30 le31 st32 q33
        obtain rfl := q33
        refine OpsL.val rfl rfl (r_pickT (v := (.bool _)) rfl rfl) ?_
        refine OpsL.val rfl rfl (r_asB rfl) ?_
        refine OpsL.nil ?_
        refine Then.norm ?_
        refine W.ret ?_
        -- return r1
        refine Post.ret1 Tryz.results49 ?_
        refine ⟨h30, _, rfl, st32.done, ?_⟩
        refine bool_eq ?_
        simp_all [ruleB, inAll_one]
      ·
        replace g21 := of_decide_eq_false g21
        refine OpsL.skipped rfl rfl (d := 18) rfl rfl rfl ?_
        refine OpsL.skipped rfl rfl (d := 18) rfl rfl rfl ?_
        refine OpsL.skipped rfl rfl (d := 18) rfl rfl rfl ?_
        refine OpsL.skipped rfl rfl (d := 18) rfl rfl rfl ?_
        refine OpsL.val rfl rfl (r_pickF (v := (.bool _)) rfl rfl) ?_
        refine OpsL.val rfl rfl (r_asB rfl) ?_
        refine OpsL.nil ?_
        refine Then.norm ?_
        refine W.ret ?_
        -- return r2
        refine Post.ret1 Tryz.results49 ?_
        refine ⟨h16, _, rfl, st18.done, ?_⟩
        refine bool_eq ?_
        simp_all [ruleB, inAll_one]
    ·
      refine OpsL.skipped rfl rfl (d := 11) rfl rfl rfl ?_
      refine OpsL.skipped rfl rfl (d := 11) rfl rfl rfl ?_
      refine OpsL.skipped rfl rfl (d := 11) rfl rfl rfl ?_
      refine OpsL.skipped rfl rfl (d := 11) rfl rfl rfl ?_
      refine OpsL.skipped rfl rfl (d := 11) rfl rfl rfl ?_
      refine OpsL.val rfl rfl (r_pickF (v := (.bool _)) rfl rfl) ?_
      refine OpsL.val rfl rfl (r_mvB rfl) ?_
      refine OpsL.skipped rfl rfl (d := 18) rfl rfl rfl ?_
      refine OpsL.skipped rfl rfl (d := 18) rfl rfl rfl ?_
      refine OpsL.skipped rfl rfl (d := 18) rfl rfl rfl ?_
      refine OpsL.skipped rfl rfl (d := 18) rfl rfl rfl ?_
      refine OpsL.val rfl rfl (r_pickF (v := (.bool _)) rfl rfl) ?_
      refine OpsL.val rfl rfl (r_asB rfl) ?_
      refine OpsL.nil ?_
      refine Then.norm ?_
      refine W.ret ?_
      -- return r3
      refine Post.ret1 Tryz.results49 ?_
      refine ⟨h16, _, rfl, st18.done, ?_⟩
      refine bool_eq ?_
      simp_all [ruleB, inAll_one]
  ·
    refine OpsL.skipped rfl rfl (d := 6) rfl rfl rfl ?_
    refine OpsL.skipped rfl rfl (d := 6) rfl rfl rfl ?_
    refine OpsL.skipped rfl rfl (d := 6) rfl rfl rfl ?_
    refine OpsL.val rfl rfl (r_pickF (v := (.bool _)) rfl rfl) ?_
    refine OpsL.val rfl rfl (r_mvB rfl) ?_
    refine OpsL.skipped rfl rfl (d := 11) rfl rfl rfl ?_
    refine OpsL.skipped rfl rfl (d := 11) rfl rfl rfl ?_
    refine OpsL.skipped rfl rfl (d := 11) rfl rfl rfl ?_
    refine OpsL.skipped rfl rfl (d := 11) rfl rfl rfl ?_
    refine OpsL.skipped rfl rfl (d := 11) rfl rfl rfl ?_
    refine OpsL.val rfl rfl (r_pickF (v := (.bool _)) rfl rfl) ?_
    refine OpsL.val rfl rfl (r_mvB rfl) ?_
    refine OpsL.skipped rfl rfl (d := 18) rfl rfl rfl ?_
    refine OpsL.skipped rfl rfl (d := 18) rfl rfl rfl ?_
    refine OpsL.skipped rfl rfl (d := 18) rfl rfl rfl ?_
    refine OpsL.skipped rfl rfl (d := 18) rfl rfl rfl ?_
    refine OpsL.val rfl rfl (r_pickF (v := (.bool _)) rfl rfl) ?_
    refine OpsL.val rfl rfl (r_asB rfl) ?_
    refine OpsL.nil ?_
    refine Then.norm ?_
    refine W.ret ?_
    -- return r4
    refine Post.ret1 Tryz.results49 ?_
    refine ⟨h9, _, rfl, st11.done, ?_⟩
    refine bool_eq ?_
    simp_all [ruleB, inAll_one]
set_option maxRecDepth 4000 in
theorem c_stem_Check_2 {h0 h : Heap} {w0 w : World} {rest : Own} {m : List (Int × Bool)} {m_o : List (Nat × Obj)} {m_v : Value} (m_M : OM (fun n : Int => .int .i64 n) (fun b : Bool => .bool b) m m_o m_v) (m_N : (m.map (·.1)).Nodup) {d : Decision} (d_l2 : 0 ≤ d.kind ∧ d.kind ≤ 255) (d_l3 : d.form.length ≤ 281474976710656) (d_l7 : d.to.stem.length ≤ 281474976710656) (d_l8 : 0 ≤ d.to.mark ∧ d.to.mark ≤ 255) {numbers_b : Nat} (numbers_c : Cells h numbers_b 0 [m_v]) {t_b : Nat} {t : Text} {t_v0 : Value} (t_f0 : Sl LChapter h t_v0 t.chapters) (t_c : Cells h t_b 0 [t_v0]) (K0 : Cells h 0 0 Tryz.glob0) (ht : textB t = true) (st0 : St h0 w0 h w (m_o :: rest)) : Calls Tryz.prog 52 #[.agg #[.int .i64 d.number, .int .u8 d.kind, strV d.form, .int .i64 d.at_.chapter, .int .i64 d.at_.line, .int .i64 d.at_.word, strV d.to.stem, .int .u8 d.to.mark, .int .i64 d.of_], .pointer (some ⟨numbers_b, 0, none⟩), .pointer (some ⟨t_b, 0, none⟩)] w (fun e_ w' => ∃ h' res_ m_o', e_ = .returned res_ ∧ Le h h' ∧ St h0 w0 h' w' (m_o' :: rest) ∧ OM (fun n : Int => .int .i64 n) (fun b : Bool => .bool b) (putM m d.number true) m_o' m_v ∧ ((putM m d.number true).map (·.1)).Nodup ∧ (res_ = .bool ((!((look m d.number).getD false) && decisionB t d)))) := by
  refine W.calls (n := 20) (args := [.agg #[.int .i64 d.number, .int .u8 d.kind, strV d.form, .int .i64 d.at_.chapter, .int .i64 d.at_.line, .int .i64 d.at_.word, strV d.to.stem, .int .u8 d.to.mark, .int .i64 d.of_], .pointer (some ⟨numbers_b, 0, none⟩), .pointer (some ⟨t_b, 0, none⟩)]) Tryz.func52 rfl rfl rfl ?_
  have t_f0_b := t_f0.le
  refine W.seq ?_
  refine W.region ?_
  refine OpsL.boxF st0 (cs := [.int .i64 (d.number), .int .u8 (d.kind), strV (d.form), .int .i64 (d.at_.chapter), .int .i64 (d.at_.line), .int .i64 (d.at_.word), strV (d.to.stem), .int .u8 (d.to.mark), .int .i64 (d.of_)]) rfl rfl rfl ?_
  intro b1 w2 h3 le4 hc5 st6
  refine OpsL.val rfl rfl (r_asB rfl) ?_
  refine OpsL.nil ?_
  refine Then.norm ?_
  refine W.seq ?_
  refine W.region ?_
  refine OpsL.val rfl rfl (r_load_cells1 (j := 0) st6.sub (numbers_c.up le4) rfl rfl rfl Tryz.isAgg107) ?_
  refine OpsL.val rfl rfl (r_field_addr rfl Tryz.underlying56 rfl Tryz.sizeOf3 rfl) ?_
  refine OpsL.val rfl rfl (r_load_cells1 (j := 0) st6.sub hc5 rfl rfl rfl Tryz.isAgg3) ?_
  refine OpsL.val rfl rfl (r_look (k := (d.number)) (zu := false) (key_int Tryz.underlying3) Tryz.underlying107 m_M (st6.ent (k := 0) rfl) Tryz.zeroValue4 rfl rfl rfl) ?_
  refine OpsL.val rfl rfl (r_asB rfl) ?_
  refine OpsL.nil ?_
  refine Then.norm ?_
  refine W.seq ?_
  refine W.region ?_
  refine OpsL.val rfl rfl (r_load_cells1 (j := 0) st6.sub (numbers_c.up le4) rfl rfl rfl Tryz.isAgg107) ?_
  refine OpsL.val rfl rfl (r_field_addr rfl Tryz.underlying56 rfl Tryz.sizeOf3 rfl) ?_
  refine OpsL.val rfl rfl (r_load_cells1 (j := 0) st6.sub hc5 rfl rfl rfl Tryz.isAgg3) ?_
  refine OpsL.mapUpdate (i := 0) st6 m_M rfl m_N (key_int Tryz.underlying3) Tryz.underlying107 rfl (k := (d.number)) rfl (u := true) rfl ?_
  intro o7 w8 _ e9 f10 nd11 st12
  subst e9
  refine OpsL.nil ?_
  refine Then.norm ?_
  refine W.seq ?_
  refine W.region ?_
  refine OpsL.val rfl rfl (r_mvB rfl) ?_
  refine OpsL.val rfl rfl (r_not rfl) ?_
  refine OpsL.val rfl rfl (r_mvB rfl) ?_
  refine OpsL.split (d := 15) rfl (fun g13 => ?_) (fun g13 => ?_)
  ·
    refine OpsL.guarded rfl rfl (d := 15) rfl ?_
    refine OpsL.val rfl rfl (r_load_call st12.sub (t_c.up le4) rfl Tryz.isAgg24 Tryz.sizeOf24 rfl) ?_
    refine OpsL.guarded rfl rfl (d := 15) rfl ?_
    refine OpsL.val rfl rfl (r_load_call st12.sub hc5 rfl Tryz.isAgg56 Tryz.sizeOf56 rfl) ?_
    refine OpsL.guarded rfl rfl (d := 15) rfl ?_
    refine OpsL.callF st12 rfl rfl rfl Tryz.call53 rfl (c_stem_decided st12.sub (t := t) (t_f0.up le4) (d := d) (by first | assumption | decide | omega) (by first | assumption | (simp [big]; done) | (simp [big]; omega) | omega) (by first | assumption | (simp [big]; done) | (simp [big]; omega) | omega) (by first | assumption | decide | omega) (K0.up le4) (by assumption)) ?_
    intro r14 w15 h16 le17 st18 q19
    obtain rfl := q19
    refine OpsL.val rfl rfl (r_pickT (v := (.bool _)) rfl rfl) ?_
    refine OpsL.val rfl rfl (r_asB rfl) ?_
    refine OpsL.nil ?_
    refine Then.norm ?_
    refine W.ret ?_
    -- return r1
    refine Post.ret1 Tryz.results52 ?_
    refine ⟨h16, _, o7, rfl, (le4.trans le17), st18, f10, nd11, ?_⟩
    refine bool_eq ?_
    simp_all
  ·
    refine OpsL.skipped rfl rfl (d := 15) rfl rfl rfl ?_
    refine OpsL.skipped rfl rfl (d := 15) rfl rfl rfl ?_
    refine OpsL.skipped rfl rfl (d := 15) rfl rfl rfl ?_
    refine OpsL.val rfl rfl (r_pickF (v := (.bool _)) rfl rfl) ?_
    refine OpsL.val rfl rfl (r_asB rfl) ?_
    refine OpsL.nil ?_
    refine Then.norm ?_
    refine W.ret ?_
    -- return r2
    refine Post.ret1 Tryz.results52 ?_
    refine ⟨h3, _, o7, rfl, le4, st12, f10, nd11, ?_⟩
    refine bool_eq ?_
    simp_all
set_option maxRecDepth 4000 in
theorem c_stem_Check {h : Heap} {w : World} (hs : Sub h w) {t : Text} {t_v0 : Value} (t_f0 : Sl LChapter h t_v0 t.chapters) {x : Lexicon} {x_v0 : Value} (x_f0 : Sl LRule h x_v0 x.rules) {x_v1 : Value} (x_f1 : Sl LDecision h x_v1 x.decisions) (K0 : Cells h 0 0 Tryz.glob0) : Calls Tryz.prog 14 #[.agg #[t_v0], .agg #[x_v0, x_v1]] w (Rets h w (fun _ _ res_ => res_ = .int .i64 (checkN t x))) := by
  refine W.calls (n := 40) (args := [.agg #[t_v0], .agg #[x_v0, x_v1]]) Tryz.func14 rfl rfl rfl ?_
  have st0 : St h w h w [] := St.start hs
  have t_f0_b := t_f0.le
  have x_f0_b := x_f0.le
  have x_f1_b := x_f1.le
  refine W.seq ?_
  refine W.region ?_
  refine OpsL.boxF st0 (cs := [t_v0]) rfl rfl rfl ?_
  intro b1 w2 h3 le4 hc5 st6
  refine OpsL.boxF st6 (cs := [x_v0, x_v1]) rfl rfl rfl ?_
  intro b7 w8 h9 le10 hc11 st12
  refine OpsL.val rfl rfl (r_asI rfl) ?_
  refine OpsL.nil ?_
  refine Then.norm ?_
  refine W.seq ?_
  refine W.seq ?_
  refine W.region ?_
  refine OpsL.val rfl rfl (r_load_call st12.sub (hc5.up le10) rfl Tryz.isAgg24 Tryz.sizeOf24 rfl) ?_
  refine OpsL.callF st12 rfl rfl rfl Tryz.call47 rfl (c_leaf_Check st12.sub (t := t) (t_f0.up (le4.trans le10))) ?_
  intro r13 w14 h15 le16 st17 q18
  obtain rfl := q18
  refine OpsL.val rfl rfl (r_asI rfl) ?_
  refine OpsL.nil ?_
  refine Then.norm ?_
  refine W.seq ?_
  refine W.region ?_
  refine OpsL.val rfl rfl (r_mvI rfl) ?_
  refine OpsL.val rfl rfl (r_neq rfl rfl) ?_
  refine OpsL.nil ?_
  refine Then.norm ?_
  refine W.cond rfl (fun c19 => ?_) (fun c19 => ?_)
  ·
    replace c19 := of_decide_eq_true c19
    refine W.seq ?_
    refine W.region ?_
    refine OpsL.val rfl rfl (r_mvI rfl) ?_
    refine OpsL.val rfl rfl (r_asI rfl) ?_
    refine OpsL.nil ?_
    refine Then.norm ?_
    refine W.ret ?_
    refine Then.ret ?_
    -- return r1
    refine Post.ret1 Tryz.results14 ?_
    refine ⟨h15, _, rfl, st17.done, ?_⟩
    refine int_eq ?_
    first | (simp_all [checkN, lexiconB]; done) | (simp_all [checkN, lexiconB]; omega) | (simp [checkN, ht, lexiconB]; intros; omega)
  ·
    replace c19 := of_decide_eq_false c19
    refine W.skip ?_
    refine Then.norm ?_
    refine W.seq ?_
    refine W.region ?_
    refine OpsL.makeMap (κ := Int) (υ := Bool) (ek := (fun n : Int => .int .i64 n)) (eu := (fun b : Bool => .bool b)) st17 rfl ?_
    intro v20 o21 w22 f23 st24
    obtain ⟨mb25, rfl⟩ := f23.form
    have nd26 : (([] : List (Int × Bool)).map (·.1)).Nodup := by simp
    refine OpsL.allocO st24 Tryz.zeroValue107 rfl rfl ?_
    intro b27 w28 st29
    refine OpsL.store1 st29 (k := 1) rfl rfl (v := (.map (some mb25))) rfl f23.one Tryz.sizeOf107 rfl rfl rfl ?_
    intro w30 st31
    obtain ⟨h32, le33, hb34, st36⟩ := st31.freeze (k := 1) rfl
    have hc35 := Cells.of hb34
    refine OpsL.nil ?_
    refine Then.norm ?_
    refine W.seq ?_
    refine W.region ?_
    refine OpsL.val rfl rfl (r_field_addr rfl Tryz.underlying28 rfl Tryz.sizeOf25 rfl) ?_
    refine OpsL.val rfl rfl (r_load_cells1 (j := 0) st36.sub (hc11.up (le16.trans le33)) rfl rfl rfl Tryz.isAgg25) ?_
    refine OpsL.callF st36 rfl rfl rfl Tryz.call48 rfl (c_stem_all_api_Rule st36.sub (x_f0.up (((le4.trans le10).trans le16).trans le33)) (fun x_ => ruleB (x_)) (fun x_ h_ w_ vs_ le_ hs_ hx_ hr_ u_ hu_ => by obtain ⟨rfl, f0_, f1_⟩ := hr_; cases hu_; simp only [big] at *; exact c_stem_Check_1 hs_ (r := x_) f0_ f1_) Tryz.call49) ?_
    intro r37 w38 h39 le40 st41 q42
    obtain rfl := q42
    refine OpsL.val rfl rfl (r_asB rfl) ?_
    refine OpsL.nil ?_
    refine Then.norm ?_
    refine W.seq ?_
    refine W.region ?_
    refine OpsL.val rfl rfl (r_field_addr rfl Tryz.underlying28 rfl Tryz.sizeOf26 rfl) ?_
    refine OpsL.val rfl rfl (r_load_cells1 (j := 1) st41.sub (hc11.up ((le16.trans le33).trans le40)) rfl rfl rfl Tryz.isAgg26) ?_
    refine OpsL.val rfl rfl (r_make_func rfl rfl) ?_
    have ht : textB t = true := by
      have q := c19
      cases e : textB t with
      | true => rfl
      | false => rw [e] at q; simp at q
    have con := c_stem_all_api_Decision_st (xs := x.decisions) (v := x_v1) (g := 52) (caps := [.pointer (some ⟨b27, 0, none⟩), .pointer (some ⟨b1, 0, none⟩)]) (fun (k_ : Nat) (h_ : Heap) (w_ : World) => ∃ (m_ : List (Int × Bool)) (o_ : List (Nat × Obj)), Le h39 h_ ∧ St h w h_ w_ [o_, []] ∧ OM (fun n : Int => .int .i64 n) (fun b : Bool => .bool b) m_ o_ (.map (some mb25)) ∧ (m_.map (·.1)).Nodup ∧ (∀ n_, (look m_ n_).getD false = decide (n_ ∈ ((x.decisions).take k_).map (·.number)))) (decP t x.decisions) ?_ ?_ ?_ Tryz.call52 ⟨[], _, Le.refl _, st41, f23, nd26, by simp [look]⟩
    rotate_left
    · rintro k_ h_ w_ ⟨m_, o_, l_, s_, _⟩
      exact ⟨s_.sub, (x_f1.up ((((le4.trans le10).trans le16).trans le33).trans le40)).up l_⟩
    · rintro k_ h_ w_ h2_ w2_ ⟨m_, o_, l_, s_, q_⟩ s2_
      exact ⟨m_, o_, l_.trans s2_.le, s_.call0 s2_, q_⟩
    · rintro k_ d_ h_ w_ vs_ ⟨m_, o_, l_, s_, hM_, hN_, hm_⟩ hx_ hr_
      obtain ⟨rfl, f0_, f1_, f2_, f3_⟩ := hr_
      simp only [big] at *
      refine (c_stem_Check_2 hM_ hN_ (d := d_) f0_ f1_ f2_ f3_ ((hc35.up le40).up l_) (t := t) ((t_f0.up ((((le4.trans le10).trans le16).trans le33).trans le40)).up l_) ((hc5.up (((le10.trans le16).trans le33).trans le40)).up l_) ((K0.up ((((le4.trans le10).trans le16).trans le33).trans le40)).up l_) (by assumption) s_).mono ?_
      rintro e_ w3_ ⟨h3_, res_, o3_, rfl, l3_, s3_, hM3_, hN3_, rfl⟩
      refine ⟨h3_, ?_, l3_, _, _, l_.trans l3_, s3_, hM3_, hN3_, ?_⟩
      · rw [decP_some hx_, hm_]
      · intro n_
        rw [look_putM, take_snoc hx_, List.map_append]
        by_cases e_ : n_ = d_.number
        · simp [e_]
        · simp only [if_neg e_, hm_]; simp [e_]
    refine OpsL.calls rfl rfl (run_call rfl Tryz.call51 rfl) (con.mono ?_)
    rintro _ w44 ⟨h45, k50, bb49, rfl, ⟨m51, o52, le53, st47, hM54, hN55, hm56⟩, hb48⟩
    refine ⟨_, rfl, ?_⟩
    clear con
    have hdB := decisions_iff hb48
    clear hb48
    subst hdB
    refine OpsL.val rfl rfl (r_asB rfl) ?_
    refine OpsL.nil ?_
    refine Then.norm ?_
    refine W.seq ?_
    refine W.seq ?_
    refine W.region ?_
    refine OpsL.val rfl rfl (r_mvB rfl) ?_
    refine OpsL.val rfl rfl (r_not rfl) ?_
    refine OpsL.val rfl rfl (r_mvB rfl) ?_
    refine OpsL.split (d := 24) rfl (fun g57 => ?_) (fun g57 => ?_)
    ·
      refine OpsL.skipped rfl rfl (d := 24) rfl rfl rfl ?_
      refine OpsL.skipped rfl rfl (d := 24) rfl rfl rfl ?_
      refine OpsL.val rfl rfl (r_pickT (v := (.bool _)) rfl rfl) ?_
      refine OpsL.val rfl rfl (r_mvB rfl) ?_
      refine OpsL.skipped rfl rfl (d := 28) rfl rfl rfl ?_
      refine OpsL.skipped rfl rfl (d := 28) rfl rfl rfl ?_
      refine OpsL.skipped rfl rfl (d := 28) rfl rfl rfl ?_
      refine OpsL.skipped rfl rfl (d := 28) rfl rfl rfl ?_
      refine OpsL.val rfl rfl (r_pickT (v := (.bool _)) rfl rfl) ?_
      refine OpsL.val rfl rfl (r_mvB rfl) ?_
      refine OpsL.skipped rfl rfl (d := 34) rfl rfl rfl ?_
      refine OpsL.skipped rfl rfl (d := 34) rfl rfl rfl ?_
      refine OpsL.skipped rfl rfl (d := 34) rfl rfl rfl ?_
      refine OpsL.skipped rfl rfl (d := 34) rfl rfl rfl ?_
      refine OpsL.val rfl rfl (r_pickT (v := (.bool _)) rfl rfl) ?_
      refine OpsL.nil ?_
      refine Then.norm ?_
      refine W.cond rfl (fun c58 => ?_) (fun c58 => ?_)
      ·
        refine W.seq ?_
        refine W.region ?_
        refine OpsL.val rfl rfl (r_asI rfl) ?_
        refine OpsL.nil ?_
        refine Then.norm ?_
        refine W.ret ?_
        refine Then.ret ?_
        -- return r2
        refine Post.ret1 Tryz.results14 ?_
        refine ⟨h45, _, rfl, st47.done, ?_⟩
        refine int_eq ?_
        cases e : x.rules.all ruleB with
        | true => exact absurd g57 (by rw [e]; simp)
        | false => simp only [checkN, ht, lexiconB, e]; simp
      ·
        cases c58
    ·
      refine OpsL.guarded rfl rfl (d := 24) rfl ?_
      refine OpsL.val rfl rfl (r_mvB rfl) ?_
      refine OpsL.guarded rfl rfl (d := 24) rfl ?_
      refine OpsL.val rfl rfl (r_not rfl) ?_
      refine OpsL.val rfl rfl (r_pickF (v := (.bool _)) rfl rfl) ?_
      refine OpsL.val rfl rfl (r_mvB rfl) ?_
      refine OpsL.split (d := 28) rfl (fun g59 => ?_) (fun g59 => ?_)
      ·
        refine OpsL.skipped rfl rfl (d := 28) rfl rfl rfl ?_
        refine OpsL.skipped rfl rfl (d := 28) rfl rfl rfl ?_
        refine OpsL.skipped rfl rfl (d := 28) rfl rfl rfl ?_
        refine OpsL.skipped rfl rfl (d := 28) rfl rfl rfl ?_
        refine OpsL.val rfl rfl (r_pickT (v := (.bool _)) rfl rfl) ?_
        refine OpsL.val rfl rfl (r_mvB rfl) ?_
        refine OpsL.skipped rfl rfl (d := 34) rfl rfl rfl ?_
        refine OpsL.skipped rfl rfl (d := 34) rfl rfl rfl ?_
        refine OpsL.skipped rfl rfl (d := 34) rfl rfl rfl ?_
        refine OpsL.skipped rfl rfl (d := 34) rfl rfl rfl ?_
        refine OpsL.val rfl rfl (r_pickT (v := (.bool _)) rfl rfl) ?_
        refine OpsL.nil ?_
        refine Then.norm ?_
        refine W.cond rfl (fun c60 => ?_) (fun c60 => ?_)
        ·
          refine W.seq ?_
          refine W.region ?_
          refine OpsL.val rfl rfl (r_asI rfl) ?_
          refine OpsL.nil ?_
          refine Then.norm ?_
          refine W.ret ?_
          refine Then.ret ?_
          -- return r3
          refine Post.ret1 Tryz.results14 ?_
          refine ⟨h45, _, rfl, st47.done, ?_⟩
          refine int_eq ?_
          have q : (x.decisions.all (decisionB t) && decide (x.decisions.map (·.number)).Nodup) = false := by
            cases e : (x.decisions.all (decisionB t) && decide (x.decisions.map (·.number)).Nodup) with
            | true => exact absurd g59 (by rw [e]; simp)
            | false => rfl
          rw [checkN, show lexiconB t x = (decide (x.rules.length ≤ 12) && (decide (x.decisions.length ≤ 20) && (x.rules.all ruleB && (x.decisions.all (decisionB t) && decide (x.decisions.map (·.number)).Nodup)))) from by simp only [lexiconB, Bool.and_assoc], q]
          simp [ht]
        ·
          cases c60
      ·
        refine OpsL.guarded rfl rfl (d := 28) rfl ?_
        refine OpsL.val rfl rfl (r_field_addr rfl Tryz.underlying28 rfl Tryz.sizeOf25 rfl) ?_
        refine OpsL.guarded rfl rfl (d := 28) rfl ?_
        refine OpsL.val rfl rfl (r_load_cells1 (j := 0) st47.sub (hc11.up (((le16.trans le33).trans le40).trans le53)) rfl rfl rfl Tryz.isAgg25) ?_
        refine OpsL.guarded rfl rfl (d := 28) rfl ?_
        refine OpsL.val rfl rfl (r_len (x_f0.up (((((le4.trans le10).trans le16).trans le33).trans le40).trans le53)) rfl Tryz.underlying25) ?_
        refine OpsL.guarded rfl rfl (d := 28) rfl ?_
        refine OpsL.val rfl rfl (r_gtr rfl rfl) ?_
        refine OpsL.val rfl rfl (r_pickF (v := (.bool _)) rfl rfl) ?_
        refine OpsL.val rfl rfl (r_mvB rfl) ?_
        refine OpsL.split (d := 34) rfl (fun g61 => ?_) (fun g61 => ?_)
        ·
          replace g61 := of_decide_eq_true g61
          refine OpsL.skipped rfl rfl (d := 34) rfl rfl rfl ?_
          refine OpsL.skipped rfl rfl (d := 34) rfl rfl rfl ?_
          refine OpsL.skipped rfl rfl (d := 34) rfl rfl rfl ?_
          refine OpsL.skipped rfl rfl (d := 34) rfl rfl rfl ?_
          refine OpsL.val rfl rfl (r_pickT (v := (.bool _)) rfl rfl) ?_
          refine OpsL.nil ?_
          refine Then.norm ?_
          refine W.cond rfl (fun c62 => ?_) (fun c62 => ?_)
          ·
            refine W.seq ?_
            refine W.region ?_
            refine OpsL.val rfl rfl (r_asI rfl) ?_
            refine OpsL.nil ?_
            refine Then.norm ?_
            refine W.ret ?_
            refine Then.ret ?_
            -- return r4
            refine Post.ret1 Tryz.results14 ?_
            refine ⟨h45, _, rfl, st47.done, ?_⟩
            refine int_eq ?_
            first | (simp_all [checkN, lexiconB]; done) | (simp_all [checkN, lexiconB]; omega) | (simp [checkN, ht, lexiconB]; intros; omega)
          ·
            cases c62
        ·
          replace g61 := of_decide_eq_false g61
          refine OpsL.guarded rfl rfl (d := 34) rfl ?_
          refine OpsL.val rfl rfl (r_field_addr rfl Tryz.underlying28 rfl Tryz.sizeOf26 rfl) ?_
          refine OpsL.guarded rfl rfl (d := 34) rfl ?_
          refine OpsL.val rfl rfl (r_load_cells1 (j := 1) st47.sub (hc11.up (((le16.trans le33).trans le40).trans le53)) rfl rfl rfl Tryz.isAgg26) ?_
          refine OpsL.guarded rfl rfl (d := 34) rfl ?_
          refine OpsL.val rfl rfl (r_len (x_f1.up (((((le4.trans le10).trans le16).trans le33).trans le40).trans le53)) rfl Tryz.underlying26) ?_
          refine OpsL.guarded rfl rfl (d := 34) rfl ?_
          refine OpsL.val rfl rfl (r_gtr rfl rfl) ?_
          refine OpsL.val rfl rfl (r_pickF (v := (.bool _)) rfl rfl) ?_
          refine OpsL.nil ?_
          refine Then.norm ?_
          refine W.cond rfl (fun c63 => ?_) (fun c63 => ?_)
          ·
            replace c63 := of_decide_eq_true c63
            refine W.seq ?_
            refine W.region ?_
            refine OpsL.val rfl rfl (r_asI rfl) ?_
            refine OpsL.nil ?_
            refine Then.norm ?_
            refine W.ret ?_
            refine Then.ret ?_
            -- return r5
            refine Post.ret1 Tryz.results14 ?_
            refine ⟨h45, _, rfl, st47.done, ?_⟩
            refine int_eq ?_
            first | (simp_all [checkN, lexiconB]; done) | (simp_all [checkN, lexiconB]; omega) | (simp [checkN, ht, lexiconB]; intros; omega)
          ·
            replace c63 := of_decide_eq_false c63
            refine W.skip ?_
            refine Then.norm ?_
            refine W.seq ?_
            refine W.region ?_
            refine OpsL.val rfl rfl (r_asI rfl) ?_
            refine OpsL.nil ?_
            refine Then.norm ?_
            refine W.ret ?_
            -- return r6
            refine Post.ret1 Tryz.results14 ?_
            refine ⟨h45, _, rfl, st47.done, ?_⟩
            refine int_eq ?_
            first | (simp_all [checkN, lexiconB]; done) | (simp_all [checkN, lexiconB]; omega) | (simp [checkN, ht, lexiconB]; intros; omega)
end Go.Pk
