/- A PART OF THE PROOF (printed by a program of the author's own): contracts of functions, each walked once. -/
import Derived.Test.YtngmpkoobdkeiaaGreatDoorA04
namespace Go.Pk
open Go Go.RowKit Go.Proofs
set_option maxRecDepth 4000 in
theorem c_stem_all_api_Rule_st {xs : List Rule} {v : Value} {g : FuncId} {caps : List Value} (S : Nat → Heap → World → Prop) (p : Nat → Bool)
    (hS : ∀ k h w, S k h w → Sub h w ∧ Sl LRule h v xs) (hup : ∀ k h w h' w', S k h w → St h w h' w' [] → S k h' w')
    (hf : ∀ k x h w vs, S k h w → xs[k]? = some x → LRule.R h vs x → Calls Tryz.prog g (.agg vs.toArray :: caps).toArray w (fun e w' => ∃ h', e = .returned (.bool (p k)) ∧ Le h h' ∧ S (k + 1) h' w'))
    (hg : ∀ a w, (callFunc g a).run Tryz.prog w = .ok (.enter g a) w) {h : Heap} {w : World} (h0 : S 0 h w) :
    Calls Tryz.prog 48 #[v, .func (.func g) #[] caps.toArray] w (fun e w' => ∃ h' k b, e = .returned (.bool b) ∧ S k h' w' ∧ (b = true ↔ ∀ j, j < xs.length → p j = true)) := by
  refine W.calls (n := 9) (args := [v, .func (.func g) #[] caps.toArray]) Tryz.func48 rfl rfl rfl ?_
  have st0 : St h w h w [] := St.start (hS _ _ _ h0).1
  refine W.seq ?_
  refine W.region ?_
  refine OpsL.boxF st0 (v := .func (.func g) #[] caps.toArray) (cs := [.func (.func g) #[] caps.toArray]) rfl rfl rfl ?_
  intro b w1 h1 le1 hc st1
  have h1S := hup _ _ _ _ _ h0 st1
  refine OpsL.val rfl rfl (r_asB rfl) ?_
  refine OpsL.nil ?_
  refine Then.norm ?_
  refine W.seq ?_
  refine W.region ?_
  refine OpsL.val rfl rfl (r_move (v := v) rfl) ?_
  refine OpsL.val rfl rfl (r_make_func rfl rfl) ?_
  have con := c_slices_ContainsFunc_Lapi_Rule_api_Rule_st (v := v) (g := 94) (caps := [.pointer (some ⟨b, 0, none⟩)]) (fun k h w => S k h w ∧ Cells h b 0 [.func (.func g) #[] caps.toArray]) (fun k => !p k) (fun k h w hs => hS k h w hs.1) (fun k x h2 w2 vs hs hx hr u hu => by
    subst hu
    obtain ⟨hs, hc2⟩ := hs
    refine W.calls (n := 8) (args := [.agg vs.toArray, .pointer (some ⟨b, 0, none⟩)]) Tryz.func94 rfl rfl rfl ?_
    have st2 : St h2 w2 h2 w2 [] := St.start (hS _ _ _ hs).1
    refine W.seq ?_
    refine W.region ?_
    refine OpsL.boxF st2 (v := .agg vs.toArray) (cs := vs) rfl rfl rfl ?_
    intro b3 w3 h3 le3 hc3 st3
    have hs3 := hup _ _ _ _ _ hs st3
    refine OpsL.val rfl rfl (r_asB rfl) ?_
    refine OpsL.nil ?_
    refine Then.norm ?_
    refine W.seq ?_
    refine W.region ?_
    refine OpsL.val rfl rfl (r_load_cells1 (j := 0) st3.sub (hc2.up le3) rfl rfl rfl Tryz.isAgg110) ?_
    refine OpsL.val rfl rfl (r_load_call st3.sub hc3 rfl Tryz.isAgg70 Tryz.sizeOf70 (LRule.len hr)) ?_
    refine OpsL.calls rfl rfl (run_call_value (fs := []) (cs := caps) rfl rfl hg rfl) ((hf k x h3 w3 vs hs3 hx (LRule.up hr le3)).mono ?_)
    rintro e w4 ⟨h4, rfl, le4, hs4⟩
    refine ⟨_, rfl, ?_⟩
    refine OpsL.val rfl rfl (r_not rfl) ?_
    refine OpsL.val rfl rfl (r_asB rfl) ?_
    refine OpsL.nil ?_
    refine Then.norm ?_
    refine W.ret ?_
    refine Post.ret1 Tryz.results94 ?_
    exact ⟨h4, rfl, hs4, hc2.up (le3.trans le4)⟩) Tryz.call94 ⟨h1S, hc⟩
  refine OpsL.calls rfl rfl (run_call rfl Tryz.call93 rfl) (con.mono ?_)
  rintro e w2 ⟨h2, k, rfl, q1, q2, q3, q4⟩
  refine ⟨_, rfl, ?_⟩
  refine OpsL.val rfl rfl (r_not rfl) ?_
  refine OpsL.val rfl rfl (r_asB rfl) ?_
  refine OpsL.nil ?_
  refine Then.norm ?_
  refine W.ret ?_
  refine Post.ret1 Tryz.results48 ?_
  refine ⟨h2, _, _, rfl, q4.1, ?_⟩
  simp only [Bool.not_eq_true', decide_eq_false_iff_not, Bool.not_eq_false', Bool.not_eq_true] at q2 q3 ⊢
  constructor
  · intro hk j hj
    exact q2 j (by omega)
  · intro hall hk
    have := q3 hk
    rw [hall k hk] at this; cases this
/-- a test that hangs on no memory of its own -/
theorem c_stem_all_api_Rule {xs : List Rule} {v : Value} {g : FuncId} {caps : List Value} {h : Heap} {w : World} (hs : Sub h w) (hx : Sl LRule h v xs) (q : Rule → Bool)
    (hf : ∀ x h' w' vs, Le h h' → Sub h' w' → x ∈ xs → LRule.R h' vs x → ∀ u, u = .agg vs.toArray → Calls Tryz.prog g (u :: caps).toArray w' (Rets h' w' fun _ _ r => r = .bool (q x)))
    (hg : ∀ a w, (callFunc g a).run Tryz.prog w = .ok (.enter g a) w) :
    Calls Tryz.prog 48 #[v, .func (.func g) #[] caps.toArray] w (Rets h w fun _ _ r => r = .bool (xs.all q)) := by
  refine (c_stem_all_api_Rule_st (xs := xs) (v := v) (fun _ h' w' => St h w h' w' []) (fun k => ((xs[k]?).map q).getD true) (fun k h' w' s => ⟨s.sub, hx.up s.le⟩) (fun k h1 w1 h2 w2 s1 s2 => s1.call0 s2) (fun k x h1 w1 vs s1 hk hr => ?_) hg (St.start hs)).mono ?_
  · refine (hf x h1 w1 vs s1.le s1.sub (List.mem_of_getElem? hk) hr _ rfl).mono ?_
    rintro e w2 ⟨h2, r, rfl, s2, rfl⟩
    refine ⟨h2, ?_, s2.le, s1.call0 s2⟩
    rw [hk]; rfl
  · rintro e w2 ⟨h2, k, b, rfl, s2, hb⟩
    refine ⟨h2, _, rfl, s2, congrArg Value.bool ?_⟩
    rw [Bool.eq_iff_iff, hb, List.all_eq_true]
    constructor
    · intro hall x hx'
      obtain ⟨j, hj⟩ := List.mem_iff_getElem?.1 hx'
      have := hall j (List.getElem?_eq_some_iff.1 hj).1
      rw [hj] at this; exact this
    · intro hall j hj
      rw [List.getElem?_eq_getElem hj]
      exact hall _ (List.getElem_mem hj)
set_option maxRecDepth 4000 in
theorem c_stem_all_api_Decision_st {xs : List Decision} {v : Value} {g : FuncId} {caps : List Value} (S : Nat → Heap → World → Prop) (p : Nat → Bool)
    (hS : ∀ k h w, S k h w → Sub h w ∧ Sl LDecision h v xs) (hup : ∀ k h w h' w', S k h w → St h w h' w' [] → S k h' w')
    (hf : ∀ k x h w vs, S k h w → xs[k]? = some x → LDecision.R h vs x → Calls Tryz.prog g (.agg vs.toArray :: caps).toArray w (fun e w' => ∃ h', e = .returned (.bool (p k)) ∧ Le h h' ∧ S (k + 1) h' w'))
    (hg : ∀ a w, (callFunc g a).run Tryz.prog w = .ok (.enter g a) w) {h : Heap} {w : World} (h0 : S 0 h w) :
    Calls Tryz.prog 51 #[v, .func (.func g) #[] caps.toArray] w (fun e w' => ∃ h' k b, e = .returned (.bool b) ∧ S k h' w' ∧ (b = true ↔ ∀ j, j < xs.length → p j = true)) := by
  refine W.calls (n := 9) (args := [v, .func (.func g) #[] caps.toArray]) Tryz.func51 rfl rfl rfl ?_
  have st0 : St h w h w [] := St.start (hS _ _ _ h0).1
  refine W.seq ?_
  refine W.region ?_
  refine OpsL.boxF st0 (v := .func (.func g) #[] caps.toArray) (cs := [.func (.func g) #[] caps.toArray]) rfl rfl rfl ?_
  intro b w1 h1 le1 hc st1
  have h1S := hup _ _ _ _ _ h0 st1
  refine OpsL.val rfl rfl (r_asB rfl) ?_
  refine OpsL.nil ?_
  refine Then.norm ?_
  refine W.seq ?_
  refine W.region ?_
  refine OpsL.val rfl rfl (r_move (v := v) rfl) ?_
  refine OpsL.val rfl rfl (r_make_func rfl rfl) ?_
  have con := c_slices_ContainsFunc_Lapi_Decision_api_Decision_st (v := v) (g := 98) (caps := [.pointer (some ⟨b, 0, none⟩)]) (fun k h w => S k h w ∧ Cells h b 0 [.func (.func g) #[] caps.toArray]) (fun k => !p k) (fun k h w hs => hS k h w hs.1) (fun k x h2 w2 vs hs hx hr u hu => by
    subst hu
    obtain ⟨hs, hc2⟩ := hs
    refine W.calls (n := 8) (args := [.agg vs.toArray, .pointer (some ⟨b, 0, none⟩)]) Tryz.func98 rfl rfl rfl ?_
    have st2 : St h2 w2 h2 w2 [] := St.start (hS _ _ _ hs).1
    refine W.seq ?_
    refine W.region ?_
    refine OpsL.boxF st2 (v := .agg vs.toArray) (cs := vs) rfl rfl rfl ?_
    intro b3 w3 h3 le3 hc3 st3
    have hs3 := hup _ _ _ _ _ hs st3
    refine OpsL.val rfl rfl (r_asB rfl) ?_
    refine OpsL.nil ?_
    refine Then.norm ?_
    refine W.seq ?_
    refine W.region ?_
    refine OpsL.val rfl rfl (r_load_cells1 (j := 0) st3.sub (hc2.up le3) rfl rfl rfl Tryz.isAgg113) ?_
    refine OpsL.val rfl rfl (r_load_call st3.sub hc3 rfl Tryz.isAgg56 Tryz.sizeOf56 (LDecision.len hr)) ?_
    refine OpsL.calls rfl rfl (run_call_value (fs := []) (cs := caps) rfl rfl hg rfl) ((hf k x h3 w3 vs hs3 hx (LDecision.up hr le3)).mono ?_)
    rintro e w4 ⟨h4, rfl, le4, hs4⟩
    refine ⟨_, rfl, ?_⟩
    refine OpsL.val rfl rfl (r_not rfl) ?_
    refine OpsL.val rfl rfl (r_asB rfl) ?_
    refine OpsL.nil ?_
    refine Then.norm ?_
    refine W.ret ?_
    refine Post.ret1 Tryz.results98 ?_
    exact ⟨h4, rfl, hs4, hc2.up (le3.trans le4)⟩) Tryz.call98 ⟨h1S, hc⟩
  refine OpsL.calls rfl rfl (run_call rfl Tryz.call97 rfl) (con.mono ?_)
  rintro e w2 ⟨h2, k, rfl, q1, q2, q3, q4⟩
  refine ⟨_, rfl, ?_⟩
  refine OpsL.val rfl rfl (r_not rfl) ?_
  refine OpsL.val rfl rfl (r_asB rfl) ?_
  refine OpsL.nil ?_
  refine Then.norm ?_
  refine W.ret ?_
  refine Post.ret1 Tryz.results51 ?_
  refine ⟨h2, _, _, rfl, q4.1, ?_⟩
  simp only [Bool.not_eq_true', decide_eq_false_iff_not, Bool.not_eq_false', Bool.not_eq_true] at q2 q3 ⊢
  constructor
  · intro hk j hj
    exact q2 j (by omega)
  · intro hall hk
    have := q3 hk
    rw [hall k hk] at this; cases this
/-- a test that hangs on no memory of its own -/
theorem c_stem_all_api_Decision {xs : List Decision} {v : Value} {g : FuncId} {caps : List Value} {h : Heap} {w : World} (hs : Sub h w) (hx : Sl LDecision h v xs) (q : Decision → Bool)
    (hf : ∀ x h' w' vs, Le h h' → Sub h' w' → x ∈ xs → LDecision.R h' vs x → ∀ u, u = .agg vs.toArray → Calls Tryz.prog g (u :: caps).toArray w' (Rets h' w' fun _ _ r => r = .bool (q x)))
    (hg : ∀ a w, (callFunc g a).run Tryz.prog w = .ok (.enter g a) w) :
    Calls Tryz.prog 51 #[v, .func (.func g) #[] caps.toArray] w (Rets h w fun _ _ r => r = .bool (xs.all q)) := by
  refine (c_stem_all_api_Decision_st (xs := xs) (v := v) (fun _ h' w' => St h w h' w' []) (fun k => ((xs[k]?).map q).getD true) (fun k h' w' s => ⟨s.sub, hx.up s.le⟩) (fun k h1 w1 h2 w2 s1 s2 => s1.call0 s2) (fun k x h1 w1 vs s1 hk hr => ?_) hg (St.start hs)).mono ?_
  · refine (hf x h1 w1 vs s1.le s1.sub (List.mem_of_getElem? hk) hr _ rfl).mono ?_
    rintro e w2 ⟨h2, r, rfl, s2, rfl⟩
    refine ⟨h2, ?_, s2.le, s1.call0 s2⟩
    rw [hk]; rfl
  · rintro e w2 ⟨h2, k, b, rfl, s2, hb⟩
    refine ⟨h2, _, rfl, s2, congrArg Value.bool ?_⟩
    rw [Bool.eq_iff_iff, hb, List.all_eq_true]
    constructor
    · intro hall x hx'
      obtain ⟨j, hj⟩ := List.mem_iff_getElem?.1 hx'
      have := hall j (List.getElem?_eq_some_iff.1 hj).1
      rw [hj] at this; exact this
    · intro hall j hj
      rw [List.getElem?_eq_getElem hj]
      exact hall _ (List.getElem_mem hj)
end Go.Pk
