/- A PART OF THE PROOF (printed by a program of the author's own): contracts of functions, each walked once. -/
import Derived.Test.YtngmpkoobdkeiaaGreatDoorSeat
namespace Go.Pk
open Go Go.RowKit Go.Proofs
set_option maxRecDepth 4000 in
theorem c_slices_IndexFunc_Lstring_string_st {xs : List Str} {v : Value} {g : FuncId} {caps : List Value} (S : Nat → Heap → World → Prop) (p : Nat → Bool)
    (hS : ∀ k h w, S k h w → Sub h w ∧ Sl LStr h v xs)
    (hf : ∀ k x h w vs, S k h w → xs[k]? = some x → LStr.R h vs x → ∀ u, vs = [u] → Calls Tryz.prog g (u :: caps).toArray w (fun e w' => ∃ h', e = .returned (.bool (p k)) ∧ S (k + 1) h' w'))
    (hg : ∀ a w, (callFunc g a).run Tryz.prog w = .ok (.enter g a) w) {h : Heap} {w : World} (h0 : S 0 h w) :
    Calls Tryz.prog 131 #[v, .func (.func g) #[] caps.toArray] w (fun e w' => ∃ h' k, e = .returned (.int .i64 (if k < xs.length then (k : Int) else -1)) ∧ k ≤ xs.length ∧ (∀ j, j < k → p j = false) ∧ (k < xs.length → p k = true) ∧ S (if k < xs.length then k + 1 else k) h' w') := by
  refine W.calls (n := 19) (args := [v, .func (.func g) #[] caps.toArray]) Tryz.func131 rfl rfl rfl ?_
  have hb := (hS 0 h w h0).2.le
  refine W.seq ?_
  refine W.region ?_
  refine OpsL.val rfl rfl (r_asI rfl) ?_
  refine OpsL.nil ?_
  refine Then.norm ?_
  refine W.seq ?_
  refine W.seq ?_
  refine W.region ?_
  refine OpsL.val rfl rfl (r_move (v := v) rfl) ?_
  refine OpsL.val rfl rfl (r_len (hS 0 h w h0).2 rfl Tryz.underlying33) ?_
  refine OpsL.val rfl rfl (r_mvI rfl) ?_
  refine OpsL.nil ?_
  refine Then.norm ?_
  refine W.block ?_
  refine W.loopI [4, 5, 8, 9, 10, 11, 12, 13, 14, 15, 16, 17, 18] (G := Nat × Heap) (fun ⟨k, _⟩ => [(8, .int .i64 (k : Int))]) (fun ⟨k, h'⟩ w' => S k h' w' ∧ k ≤ xs.length ∧ ∀ j, j < k → p j = false) (fun ⟨k, _⟩ => xs.length - k) ⟨0, h⟩ ⟨rfl, trivial⟩ ⟨h0, by omega, by intros; omega⟩ ?_
  rintro ⟨k, h1⟩ _ w1 ⟨hS1, hk, hp⟩
  obtain ⟨hsub, hsl⟩ := hS k h1 w1 hS1
  refine W.seq ?_
  refine W.region ?_
  refine OpsL.val rfl rfl (r_lss rfl rfl) ?_
  refine OpsL.nil ?_
  refine Then.norm ?_
  refine W.seq ?_
  refine W.cond rfl (fun c1 => ?_) (fun c1 => ?_)
  · replace c1 := of_decide_eq_true c1
    refine W.skip ?_
    refine Then.norm ?_
    refine W.seq ?_
    refine W.block ?_
    refine W.seq ?_
    refine W.region ?_
    refine OpsL.val rfl rfl (r_mvI rfl) ?_
    refine OpsL.val rfl rfl (r_asI rfl) ?_
    refine OpsL.nil ?_
    refine Then.norm ?_
    refine W.seq ?_
    refine W.region ?_
    refine OpsL.val rfl rfl (r_mvF rfl) ?_
    refine OpsL.val rfl rfl (r_move (v := v) rfl) ?_
    refine OpsL.val rfl rfl (r_mvI rfl) ?_
    have hy : ∃ y, xs[k]? = some y := ⟨_, List.getElem?_eq_getElem (by omega)⟩
    obtain ⟨y, hy⟩ := hy
    obtain ⟨b, o, vs, he, hc, hr⟩ := Sl.elem hsl hy
    refine OpsL.val rfl rfl (r_index_el he rfl rfl (hk := rfl) (hu := Tryz.underlying33) (hz := Tryz.sizeOf9)) ?_
    obtain ⟨u, rfl⟩ : ∃ u, vs = [u] := by
      have q := LStr.len hr
      match vs, q with
      | [u], _ => exact ⟨u, rfl⟩
    refine OpsL.val rfl rfl (r_load_cells1 (j := 0) hsub hc rfl rfl rfl Tryz.isAgg9) ?_
    refine OpsL.calls rfl rfl (run_call_value (fs := []) (cs := caps) rfl rfl hg rfl) ((hf k y h1 w1 _ hS1 hy hr _ rfl).mono ?_)
    rintro e w2 ⟨h2, rfl, hS2⟩
    refine ⟨_, rfl, ?_⟩
    refine OpsL.nil ?_
    refine Then.norm ?_
    refine W.cond rfl (fun c2 => ?_) (fun c2 => ?_)
    · refine W.seq ?_
      refine W.region ?_
      refine OpsL.val rfl rfl (r_mvI rfl) ?_
      refine OpsL.val rfl rfl (r_asI rfl) ?_
      refine OpsL.nil ?_
      refine Then.norm ?_
      refine W.ret ?_
      repeat (first | refine Blk.ret ?_ | refine Then.ret ?_)
      refine Post.ret1 Tryz.results131 ?_
      have hlt : k < xs.length := by omega
      exact ⟨h2, k, by rw [if_pos hlt]; rfl, hk, hp, fun _ => c2, by rw [if_pos hlt]; exact hS2⟩
    · refine W.skip ?_
      refine Blk.norm ?_
      refine Then.norm ?_
      refine W.region ?_
      refine OpsL.val rfl rfl (r_add rfl rfl (by omega)) ?_
      refine OpsL.val rfl rfl (r_mvI rfl) ?_
      refine OpsL.nil ?_
      refine Then.norm ?_
      refine ⟨⟨k + 1, h2⟩, ⟨rfl, trivial⟩, ?_, ⟨hS2, by omega, ?_⟩, ?_⟩
      · repeat (first | exact Agree.mix _ _ _ | exact Agree.refl _ _ | refine Agree.updO rfl ?_ | refine Agree.upd rfl ?_ | refine Agree.known rfl ?_ | refine Agree.sub rfl ?_)
      · intro j hj
        rcases Nat.lt_or_ge j k with h3 | h3
        · exact hp j h3
        · obtain rfl : j = k := by omega
          exact c2
      · show xs.length - (k + 1) < xs.length - k
        omega
  · replace c1 := of_decide_eq_false c1
    refine W.exit ?_
    refine Then.exit ?_
    refine Then.exit ?_
    refine Blk.hit ?_
    refine Then.norm ?_
    refine W.seq ?_
    refine W.region ?_
    refine OpsL.val rfl rfl (r_asI rfl) ?_
    refine OpsL.nil ?_
    refine Then.norm ?_
    refine W.ret ?_
    refine Post.ret1 Tryz.results131 ?_
    have hlt : ¬ k < xs.length := by omega
    exact ⟨h1, k, by rw [if_neg hlt]; rfl, hk, hp, fun q => absurd q hlt, by rw [if_neg hlt]; exact hS1⟩

set_option maxRecDepth 4000 in
theorem c_slices_ContainsFunc_Lstring_string_st {xs : List Str} {v : Value} {g : FuncId} {caps : List Value} (S : Nat → Heap → World → Prop) (p : Nat → Bool)
    (hS : ∀ k h w, S k h w → Sub h w ∧ Sl LStr h v xs)
    (hf : ∀ k x h w vs, S k h w → xs[k]? = some x → LStr.R h vs x → ∀ u, vs = [u] → Calls Tryz.prog g (u :: caps).toArray w (fun e w' => ∃ h', e = .returned (.bool (p k)) ∧ S (k + 1) h' w'))
    (hg : ∀ a w, (callFunc g a).run Tryz.prog w = .ok (.enter g a) w) {h : Heap} {w : World} (h0 : S 0 h w) :
    Calls Tryz.prog 90 #[v, .func (.func g) #[] caps.toArray] w (fun e w' => ∃ h' k, e = .returned (.bool (decide (k < xs.length))) ∧ k ≤ xs.length ∧ (∀ j, j < k → p j = false) ∧ (k < xs.length → p k = true) ∧ S (if k < xs.length then k + 1 else k) h' w') := by
  refine W.calls (n := 9) (args := [v, .func (.func g) #[] caps.toArray]) Tryz.func90 rfl rfl rfl ?_
  refine W.seq ?_
  refine W.region ?_
  refine OpsL.val rfl rfl (r_asB rfl) ?_
  refine OpsL.nil ?_
  refine Then.norm ?_
  refine W.seq ?_
  refine W.region ?_
  refine OpsL.val rfl rfl (r_move (v := v) rfl) ?_
  refine OpsL.val rfl rfl (r_mvF rfl) ?_
  refine OpsL.calls rfl rfl (run_call rfl Tryz.call131 rfl) ((c_slices_IndexFunc_Lstring_string_st S p hS hf hg h0).mono ?_)
  rintro e w2 ⟨h2, k, rfl, q1, q2, q3, q4⟩
  refine ⟨_, rfl, ?_⟩
  refine OpsL.val rfl rfl (r_geq rfl rfl) ?_
  refine OpsL.val rfl rfl (r_asB rfl) ?_
  refine OpsL.nil ?_
  refine Then.norm ?_
  refine W.ret ?_
  refine Post.ret1 Tryz.results90 ?_
  refine ⟨h2, k, congrArg Ending.returned (bool_eq ?_), q1, q2, q3, q4⟩
  by_cases hlt : k < xs.length
  · simp [hlt]
  · simp [hlt]
theorem c_slices_ContainsFunc_Lstring_string {xs : List Str} {v : Value} {g : FuncId} {caps : List Value} {h : Heap} {w : World} (hs : Sub h w) (hx : Sl LStr h v xs) (q : Str → Bool)
    (hg : ∀ a w, (callFunc g a).run Tryz.prog w = .ok (.enter g a) w)
    (hf : ∀ x h' w' vs, Le h h' → Sub h' w' → x ∈ xs → LStr.R h' vs x → ∀ u, vs = [u] → Calls Tryz.prog g (u :: caps).toArray w' (Rets h' w' fun _ _ r => r = .bool (q x))) :
    Calls Tryz.prog 90 #[v, .func (.func g) #[] caps.toArray] w (Rets h w fun _ _ r => r = .bool (xs.any q)) := by
  refine (c_slices_ContainsFunc_Lstring_string_st (fun k h' w' => St h w h' w' [] ∧ k ≤ xs.length) (fun k => ((xs[k]?).map q).getD false) (fun k h' w' hk => ⟨hk.1.sub, hx.up hk.1.le⟩) ?_ hg ⟨St.start hs, Nat.zero_le _⟩).mono ?_
  · rintro k x h' w' vs ⟨st, _⟩ hk hr u hu
    refine (hf x h' w' vs st.le st.sub (List.mem_of_getElem? hk) hr u hu).mono ?_
    rintro e w'' ⟨h'', r, rfl, s, rfl⟩
    obtain ⟨hlt, _⟩ := List.getElem?_eq_some_iff.1 hk
    exact ⟨h'', by simp [hk], st.call0 s, hlt⟩
  · rintro e w' ⟨h', k, rfl, q1, q2, q3, q4⟩
    refine ⟨h', _, rfl, q4.1, bool_eq ?_⟩
    by_cases hlt : k < xs.length
    · have h3 := q3 hlt
      rw [List.getElem?_eq_getElem hlt] at h3
      simp only [Option.map_some, Option.getD_some] at h3
      have : xs.any q = true := List.any_eq_true.2 ⟨_, List.getElem_mem hlt, h3⟩
      simp [hlt, this]
    · have : xs.any q = false := by
        rw [List.any_eq_false]
        intro x hx'
        obtain ⟨j, hj⟩ := List.mem_iff_getElem?.1 hx'
        obtain ⟨h5, _⟩ := List.getElem?_eq_some_iff.1 hj
        have := q2 j (by omega)
        simpa [hj] using this
      simp [hlt, this]

set_option maxRecDepth 4000 in
theorem c_slices_IndexFunc_Lapi_Rule_api_Rule_st {xs : List Rule} {v : Value} {g : FuncId} {caps : List Value} (S : Nat → Heap → World → Prop) (p : Nat → Bool)
    (hS : ∀ k h w, S k h w → Sub h w ∧ Sl LRule h v xs)
    (hf : ∀ k x h w vs, S k h w → xs[k]? = some x → LRule.R h vs x → ∀ u, u = .agg vs.toArray → Calls Tryz.prog g (u :: caps).toArray w (fun e w' => ∃ h', e = .returned (.bool (p k)) ∧ S (k + 1) h' w'))
    (hg : ∀ a w, (callFunc g a).run Tryz.prog w = .ok (.enter g a) w) {h : Heap} {w : World} (h0 : S 0 h w) :
    Calls Tryz.prog 134 #[v, .func (.func g) #[] caps.toArray] w (fun e w' => ∃ h' k, e = .returned (.int .i64 (if k < xs.length then (k : Int) else -1)) ∧ k ≤ xs.length ∧ (∀ j, j < k → p j = false) ∧ (k < xs.length → p k = true) ∧ S (if k < xs.length then k + 1 else k) h' w') := by
  refine W.calls (n := 19) (args := [v, .func (.func g) #[] caps.toArray]) Tryz.func134 rfl rfl rfl ?_
  have hb := (hS 0 h w h0).2.le
  refine W.seq ?_
  refine W.region ?_
  refine OpsL.val rfl rfl (r_asI rfl) ?_
  refine OpsL.nil ?_
  refine Then.norm ?_
  refine W.seq ?_
  refine W.seq ?_
  refine W.region ?_
  refine OpsL.val rfl rfl (r_move (v := v) rfl) ?_
  refine OpsL.val rfl rfl (r_len (hS 0 h w h0).2 rfl Tryz.underlying25) ?_
  refine OpsL.val rfl rfl (r_mvI rfl) ?_
  refine OpsL.nil ?_
  refine Then.norm ?_
  refine W.block ?_
  refine W.loopI [4, 5, 8, 9, 10, 11, 12, 13, 14, 15, 16, 17, 18] (G := Nat × Heap) (fun ⟨k, _⟩ => [(8, .int .i64 (k : Int))]) (fun ⟨k, h'⟩ w' => S k h' w' ∧ k ≤ xs.length ∧ ∀ j, j < k → p j = false) (fun ⟨k, _⟩ => xs.length - k) ⟨0, h⟩ ⟨rfl, trivial⟩ ⟨h0, by omega, by intros; omega⟩ ?_
  rintro ⟨k, h1⟩ _ w1 ⟨hS1, hk, hp⟩
  obtain ⟨hsub, hsl⟩ := hS k h1 w1 hS1
  refine W.seq ?_
  refine W.region ?_
  refine OpsL.val rfl rfl (r_lss rfl rfl) ?_
  refine OpsL.nil ?_
  refine Then.norm ?_
  refine W.seq ?_
  refine W.cond rfl (fun c1 => ?_) (fun c1 => ?_)
  · replace c1 := of_decide_eq_true c1
    refine W.skip ?_
    refine Then.norm ?_
    refine W.seq ?_
    refine W.block ?_
    refine W.seq ?_
    refine W.region ?_
    refine OpsL.val rfl rfl (r_mvI rfl) ?_
    refine OpsL.val rfl rfl (r_asI rfl) ?_
    refine OpsL.nil ?_
    refine Then.norm ?_
    refine W.seq ?_
    refine W.region ?_
    refine OpsL.val rfl rfl (r_mvF rfl) ?_
    refine OpsL.val rfl rfl (r_move (v := v) rfl) ?_
    refine OpsL.val rfl rfl (r_mvI rfl) ?_
    have hy : ∃ y, xs[k]? = some y := ⟨_, List.getElem?_eq_getElem (by omega)⟩
    obtain ⟨y, hy⟩ := hy
    obtain ⟨b, o, vs, he, hc, hr⟩ := Sl.elem hsl hy
    refine OpsL.val rfl rfl (r_index_el he rfl rfl (hk := rfl) (hu := Tryz.underlying25) (hz := Tryz.sizeOf70)) ?_
    refine OpsL.val rfl rfl (r_load_call hsub hc rfl Tryz.isAgg70 Tryz.sizeOf70 (LRule.len hr)) ?_
    refine OpsL.calls rfl rfl (run_call_value (fs := []) (cs := caps) rfl rfl hg rfl) ((hf k y h1 w1 _ hS1 hy hr _ rfl).mono ?_)
    rintro e w2 ⟨h2, rfl, hS2⟩
    refine ⟨_, rfl, ?_⟩
    refine OpsL.nil ?_
    refine Then.norm ?_
    refine W.cond rfl (fun c2 => ?_) (fun c2 => ?_)
    · refine W.seq ?_
      refine W.region ?_
      refine OpsL.val rfl rfl (r_mvI rfl) ?_
      refine OpsL.val rfl rfl (r_asI rfl) ?_
      refine OpsL.nil ?_
      refine Then.norm ?_
      refine W.ret ?_
      repeat (first | refine Blk.ret ?_ | refine Then.ret ?_)
      refine Post.ret1 Tryz.results134 ?_
      have hlt : k < xs.length := by omega
      exact ⟨h2, k, by rw [if_pos hlt]; rfl, hk, hp, fun _ => c2, by rw [if_pos hlt]; exact hS2⟩
    · refine W.skip ?_
      refine Blk.norm ?_
      refine Then.norm ?_
      refine W.region ?_
      refine OpsL.val rfl rfl (r_add rfl rfl (by omega)) ?_
      refine OpsL.val rfl rfl (r_mvI rfl) ?_
      refine OpsL.nil ?_
      refine Then.norm ?_
      refine ⟨⟨k + 1, h2⟩, ⟨rfl, trivial⟩, ?_, ⟨hS2, by omega, ?_⟩, ?_⟩
      · repeat (first | exact Agree.mix _ _ _ | exact Agree.refl _ _ | refine Agree.updO rfl ?_ | refine Agree.upd rfl ?_ | refine Agree.known rfl ?_ | refine Agree.sub rfl ?_)
      · intro j hj
        rcases Nat.lt_or_ge j k with h3 | h3
        · exact hp j h3
        · obtain rfl : j = k := by omega
          exact c2
      · show xs.length - (k + 1) < xs.length - k
        omega
  · replace c1 := of_decide_eq_false c1
    refine W.exit ?_
    refine Then.exit ?_
    refine Then.exit ?_
    refine Blk.hit ?_
    refine Then.norm ?_
    refine W.seq ?_
    refine W.region ?_
    refine OpsL.val rfl rfl (r_asI rfl) ?_
    refine OpsL.nil ?_
    refine Then.norm ?_
    refine W.ret ?_
    refine Post.ret1 Tryz.results134 ?_
    have hlt : ¬ k < xs.length := by omega
    exact ⟨h1, k, by rw [if_neg hlt]; rfl, hk, hp, fun q => absurd q hlt, by rw [if_neg hlt]; exact hS1⟩

set_option maxRecDepth 4000 in
theorem c_slices_ContainsFunc_Lapi_Rule_api_Rule_st {xs : List Rule} {v : Value} {g : FuncId} {caps : List Value} (S : Nat → Heap → World → Prop) (p : Nat → Bool)
    (hS : ∀ k h w, S k h w → Sub h w ∧ Sl LRule h v xs)
    (hf : ∀ k x h w vs, S k h w → xs[k]? = some x → LRule.R h vs x → ∀ u, u = .agg vs.toArray → Calls Tryz.prog g (u :: caps).toArray w (fun e w' => ∃ h', e = .returned (.bool (p k)) ∧ S (k + 1) h' w'))
    (hg : ∀ a w, (callFunc g a).run Tryz.prog w = .ok (.enter g a) w) {h : Heap} {w : World} (h0 : S 0 h w) :
    Calls Tryz.prog 93 #[v, .func (.func g) #[] caps.toArray] w (fun e w' => ∃ h' k, e = .returned (.bool (decide (k < xs.length))) ∧ k ≤ xs.length ∧ (∀ j, j < k → p j = false) ∧ (k < xs.length → p k = true) ∧ S (if k < xs.length then k + 1 else k) h' w') := by
  refine W.calls (n := 9) (args := [v, .func (.func g) #[] caps.toArray]) Tryz.func93 rfl rfl rfl ?_
  refine W.seq ?_
  refine W.region ?_
  refine OpsL.val rfl rfl (r_asB rfl) ?_
  refine OpsL.nil ?_
  refine Then.norm ?_
  refine W.seq ?_
  refine W.region ?_
  refine OpsL.val rfl rfl (r_move (v := v) rfl) ?_
  refine OpsL.val rfl rfl (r_mvF rfl) ?_
  refine OpsL.calls rfl rfl (run_call rfl Tryz.call134 rfl) ((c_slices_IndexFunc_Lapi_Rule_api_Rule_st S p hS hf hg h0).mono ?_)
  rintro e w2 ⟨h2, k, rfl, q1, q2, q3, q4⟩
  refine ⟨_, rfl, ?_⟩
  refine OpsL.val rfl rfl (r_geq rfl rfl) ?_
  refine OpsL.val rfl rfl (r_asB rfl) ?_
  refine OpsL.nil ?_
  refine Then.norm ?_
  refine W.ret ?_
  refine Post.ret1 Tryz.results93 ?_
  refine ⟨h2, k, congrArg Ending.returned (bool_eq ?_), q1, q2, q3, q4⟩
  by_cases hlt : k < xs.length
  · simp [hlt]
  · simp [hlt]
theorem c_slices_ContainsFunc_Lapi_Rule_api_Rule {xs : List Rule} {v : Value} {g : FuncId} {caps : List Value} {h : Heap} {w : World} (hs : Sub h w) (hx : Sl LRule h v xs) (q : Rule → Bool)
    (hg : ∀ a w, (callFunc g a).run Tryz.prog w = .ok (.enter g a) w)
    (hf : ∀ x h' w' vs, Le h h' → Sub h' w' → x ∈ xs → LRule.R h' vs x → ∀ u, u = .agg vs.toArray → Calls Tryz.prog g (u :: caps).toArray w' (Rets h' w' fun _ _ r => r = .bool (q x))) :
    Calls Tryz.prog 93 #[v, .func (.func g) #[] caps.toArray] w (Rets h w fun _ _ r => r = .bool (xs.any q)) := by
  refine (c_slices_ContainsFunc_Lapi_Rule_api_Rule_st (fun k h' w' => St h w h' w' [] ∧ k ≤ xs.length) (fun k => ((xs[k]?).map q).getD false) (fun k h' w' hk => ⟨hk.1.sub, hx.up hk.1.le⟩) ?_ hg ⟨St.start hs, Nat.zero_le _⟩).mono ?_
  · rintro k x h' w' vs ⟨st, _⟩ hk hr u hu
    refine (hf x h' w' vs st.le st.sub (List.mem_of_getElem? hk) hr u hu).mono ?_
    rintro e w'' ⟨h'', r, rfl, s, rfl⟩
    obtain ⟨hlt, _⟩ := List.getElem?_eq_some_iff.1 hk
    exact ⟨h'', by simp [hk], st.call0 s, hlt⟩
  · rintro e w' ⟨h', k, rfl, q1, q2, q3, q4⟩
    refine ⟨h', _, rfl, q4.1, bool_eq ?_⟩
    by_cases hlt : k < xs.length
    · have h3 := q3 hlt
      rw [List.getElem?_eq_getElem hlt] at h3
      simp only [Option.map_some, Option.getD_some] at h3
      have : xs.any q = true := List.any_eq_true.2 ⟨_, List.getElem_mem hlt, h3⟩
      simp [hlt, this]
    · have : xs.any q = false := by
        rw [List.any_eq_false]
        intro x hx'
        obtain ⟨j, hj⟩ := List.mem_iff_getElem?.1 hx'
        obtain ⟨h5, _⟩ := List.getElem?_eq_some_iff.1 hj
        have := q2 j (by omega)
        simpa [hj] using this
      simp [hlt, this]

set_option maxRecDepth 4000 in
theorem c_slices_IndexFunc_Lint_int_st {xs : List Int} {v : Value} {g : FuncId} {caps : List Value} (S : Nat → Heap → World → Prop) (p : Nat → Bool)
    (hS : ∀ k h w, S k h w → Sub h w ∧ Sl LInt h v xs)
    (hf : ∀ k x h w vs, S k h w → xs[k]? = some x → LInt.R h vs x → ∀ u, vs = [u] → Calls Tryz.prog g (u :: caps).toArray w (fun e w' => ∃ h', e = .returned (.bool (p k)) ∧ S (k + 1) h' w'))
    (hg : ∀ a w, (callFunc g a).run Tryz.prog w = .ok (.enter g a) w) {h : Heap} {w : World} (h0 : S 0 h w) :
    Calls Tryz.prog 135 #[v, .func (.func g) #[] caps.toArray] w (fun e w' => ∃ h' k, e = .returned (.int .i64 (if k < xs.length then (k : Int) else -1)) ∧ k ≤ xs.length ∧ (∀ j, j < k → p j = false) ∧ (k < xs.length → p k = true) ∧ S (if k < xs.length then k + 1 else k) h' w') := by
  refine W.calls (n := 19) (args := [v, .func (.func g) #[] caps.toArray]) Tryz.func135 rfl rfl rfl ?_
  have hb := (hS 0 h w h0).2.le
  refine W.seq ?_
  refine W.region ?_
  refine OpsL.val rfl rfl (r_asI rfl) ?_
  refine OpsL.nil ?_
  refine Then.norm ?_
  refine W.seq ?_
  refine W.seq ?_
  refine W.region ?_
  refine OpsL.val rfl rfl (r_move (v := v) rfl) ?_
  refine OpsL.val rfl rfl (r_len (hS 0 h w h0).2 rfl Tryz.underlying39) ?_
  refine OpsL.val rfl rfl (r_mvI rfl) ?_
  refine OpsL.nil ?_
  refine Then.norm ?_
  refine W.block ?_
  refine W.loopI [4, 5, 8, 9, 10, 11, 12, 13, 14, 15, 16, 17, 18] (G := Nat × Heap) (fun ⟨k, _⟩ => [(8, .int .i64 (k : Int))]) (fun ⟨k, h'⟩ w' => S k h' w' ∧ k ≤ xs.length ∧ ∀ j, j < k → p j = false) (fun ⟨k, _⟩ => xs.length - k) ⟨0, h⟩ ⟨rfl, trivial⟩ ⟨h0, by omega, by intros; omega⟩ ?_
  rintro ⟨k, h1⟩ _ w1 ⟨hS1, hk, hp⟩
  obtain ⟨hsub, hsl⟩ := hS k h1 w1 hS1
  refine W.seq ?_
  refine W.region ?_
  refine OpsL.val rfl rfl (r_lss rfl rfl) ?_
  refine OpsL.nil ?_
  refine Then.norm ?_
  refine W.seq ?_
  refine W.cond rfl (fun c1 => ?_) (fun c1 => ?_)
  · replace c1 := of_decide_eq_true c1
    refine W.skip ?_
    refine Then.norm ?_
    refine W.seq ?_
    refine W.block ?_
    refine W.seq ?_
    refine W.region ?_
    refine OpsL.val rfl rfl (r_mvI rfl) ?_
    refine OpsL.val rfl rfl (r_asI rfl) ?_
    refine OpsL.nil ?_
    refine Then.norm ?_
    refine W.seq ?_
    refine W.region ?_
    refine OpsL.val rfl rfl (r_mvF rfl) ?_
    refine OpsL.val rfl rfl (r_move (v := v) rfl) ?_
    refine OpsL.val rfl rfl (r_mvI rfl) ?_
    have hy : ∃ y, xs[k]? = some y := ⟨_, List.getElem?_eq_getElem (by omega)⟩
    obtain ⟨y, hy⟩ := hy
    obtain ⟨b, o, vs, he, hc, hr⟩ := Sl.elem hsl hy
    refine OpsL.val rfl rfl (r_index_el he rfl rfl (hk := rfl) (hu := Tryz.underlying39) (hz := Tryz.sizeOf3)) ?_
    obtain ⟨u, rfl⟩ : ∃ u, vs = [u] := by
      have q := LInt.len hr
      match vs, q with
      | [u], _ => exact ⟨u, rfl⟩
    refine OpsL.val rfl rfl (r_load_cells1 (j := 0) hsub hc rfl rfl rfl Tryz.isAgg3) ?_
    refine OpsL.calls rfl rfl (run_call_value (fs := []) (cs := caps) rfl rfl hg rfl) ((hf k y h1 w1 _ hS1 hy hr _ rfl).mono ?_)
    rintro e w2 ⟨h2, rfl, hS2⟩
    refine ⟨_, rfl, ?_⟩
    refine OpsL.nil ?_
    refine Then.norm ?_
    refine W.cond rfl (fun c2 => ?_) (fun c2 => ?_)
    · refine W.seq ?_
      refine W.region ?_
      refine OpsL.val rfl rfl (r_mvI rfl) ?_
      refine OpsL.val rfl rfl (r_asI rfl) ?_
      refine OpsL.nil ?_
      refine Then.norm ?_
      refine W.ret ?_
      repeat (first | refine Blk.ret ?_ | refine Then.ret ?_)
      refine Post.ret1 Tryz.results135 ?_
      have hlt : k < xs.length := by omega
      exact ⟨h2, k, by rw [if_pos hlt]; rfl, hk, hp, fun _ => c2, by rw [if_pos hlt]; exact hS2⟩
    · refine W.skip ?_
      refine Blk.norm ?_
      refine Then.norm ?_
      refine W.region ?_
      refine OpsL.val rfl rfl (r_add rfl rfl (by omega)) ?_
      refine OpsL.val rfl rfl (r_mvI rfl) ?_
      refine OpsL.nil ?_
      refine Then.norm ?_
      refine ⟨⟨k + 1, h2⟩, ⟨rfl, trivial⟩, ?_, ⟨hS2, by omega, ?_⟩, ?_⟩
      · repeat (first | exact Agree.mix _ _ _ | exact Agree.refl _ _ | refine Agree.updO rfl ?_ | refine Agree.upd rfl ?_ | refine Agree.known rfl ?_ | refine Agree.sub rfl ?_)
      · intro j hj
        rcases Nat.lt_or_ge j k with h3 | h3
        · exact hp j h3
        · obtain rfl : j = k := by omega
          exact c2
      · show xs.length - (k + 1) < xs.length - k
        omega
  · replace c1 := of_decide_eq_false c1
    refine W.exit ?_
    refine Then.exit ?_
    refine Then.exit ?_
    refine Blk.hit ?_
    refine Then.norm ?_
    refine W.seq ?_
    refine W.region ?_
    refine OpsL.val rfl rfl (r_asI rfl) ?_
    refine OpsL.nil ?_
    refine Then.norm ?_
    refine W.ret ?_
    refine Post.ret1 Tryz.results135 ?_
    have hlt : ¬ k < xs.length := by omega
    exact ⟨h1, k, by rw [if_neg hlt]; rfl, hk, hp, fun q => absurd q hlt, by rw [if_neg hlt]; exact hS1⟩

set_option maxRecDepth 4000 in
theorem c_slices_ContainsFunc_Lint_int_st {xs : List Int} {v : Value} {g : FuncId} {caps : List Value} (S : Nat → Heap → World → Prop) (p : Nat → Bool)
    (hS : ∀ k h w, S k h w → Sub h w ∧ Sl LInt h v xs)
    (hf : ∀ k x h w vs, S k h w → xs[k]? = some x → LInt.R h vs x → ∀ u, vs = [u] → Calls Tryz.prog g (u :: caps).toArray w (fun e w' => ∃ h', e = .returned (.bool (p k)) ∧ S (k + 1) h' w'))
    (hg : ∀ a w, (callFunc g a).run Tryz.prog w = .ok (.enter g a) w) {h : Heap} {w : World} (h0 : S 0 h w) :
    Calls Tryz.prog 95 #[v, .func (.func g) #[] caps.toArray] w (fun e w' => ∃ h' k, e = .returned (.bool (decide (k < xs.length))) ∧ k ≤ xs.length ∧ (∀ j, j < k → p j = false) ∧ (k < xs.length → p k = true) ∧ S (if k < xs.length then k + 1 else k) h' w') := by
  refine W.calls (n := 9) (args := [v, .func (.func g) #[] caps.toArray]) Tryz.func95 rfl rfl rfl ?_
  refine W.seq ?_
  refine W.region ?_
  refine OpsL.val rfl rfl (r_asB rfl) ?_
  refine OpsL.nil ?_
  refine Then.norm ?_
  refine W.seq ?_
  refine W.region ?_
  refine OpsL.val rfl rfl (r_move (v := v) rfl) ?_
  refine OpsL.val rfl rfl (r_mvF rfl) ?_
  refine OpsL.calls rfl rfl (run_call rfl Tryz.call135 rfl) ((c_slices_IndexFunc_Lint_int_st S p hS hf hg h0).mono ?_)
  rintro e w2 ⟨h2, k, rfl, q1, q2, q3, q4⟩
  refine ⟨_, rfl, ?_⟩
  refine OpsL.val rfl rfl (r_geq rfl rfl) ?_
  refine OpsL.val rfl rfl (r_asB rfl) ?_
  refine OpsL.nil ?_
  refine Then.norm ?_
  refine W.ret ?_
  refine Post.ret1 Tryz.results95 ?_
  refine ⟨h2, k, congrArg Ending.returned (bool_eq ?_), q1, q2, q3, q4⟩
  by_cases hlt : k < xs.length
  · simp [hlt]
  · simp [hlt]
theorem c_slices_ContainsFunc_Lint_int {xs : List Int} {v : Value} {g : FuncId} {caps : List Value} {h : Heap} {w : World} (hs : Sub h w) (hx : Sl LInt h v xs) (q : Int → Bool)
    (hg : ∀ a w, (callFunc g a).run Tryz.prog w = .ok (.enter g a) w)
    (hf : ∀ x h' w' vs, Le h h' → Sub h' w' → x ∈ xs → LInt.R h' vs x → ∀ u, vs = [u] → Calls Tryz.prog g (u :: caps).toArray w' (Rets h' w' fun _ _ r => r = .bool (q x))) :
    Calls Tryz.prog 95 #[v, .func (.func g) #[] caps.toArray] w (Rets h w fun _ _ r => r = .bool (xs.any q)) := by
  refine (c_slices_ContainsFunc_Lint_int_st (fun k h' w' => St h w h' w' [] ∧ k ≤ xs.length) (fun k => ((xs[k]?).map q).getD false) (fun k h' w' hk => ⟨hk.1.sub, hx.up hk.1.le⟩) ?_ hg ⟨St.start hs, Nat.zero_le _⟩).mono ?_
  · rintro k x h' w' vs ⟨st, _⟩ hk hr u hu
    refine (hf x h' w' vs st.le st.sub (List.mem_of_getElem? hk) hr u hu).mono ?_
    rintro e w'' ⟨h'', r, rfl, s, rfl⟩
    obtain ⟨hlt, _⟩ := List.getElem?_eq_some_iff.1 hk
    exact ⟨h'', by simp [hk], st.call0 s, hlt⟩
  · rintro e w' ⟨h', k, rfl, q1, q2, q3, q4⟩
    refine ⟨h', _, rfl, q4.1, bool_eq ?_⟩
    by_cases hlt : k < xs.length
    · have h3 := q3 hlt
      rw [List.getElem?_eq_getElem hlt] at h3
      simp only [Option.map_some, Option.getD_some] at h3
      have : xs.any q = true := List.any_eq_true.2 ⟨_, List.getElem_mem hlt, h3⟩
      simp [hlt, this]
    · have : xs.any q = false := by
        rw [List.any_eq_false]
        intro x hx'
        obtain ⟨j, hj⟩ := List.mem_iff_getElem?.1 hx'
        obtain ⟨h5, _⟩ := List.getElem?_eq_some_iff.1 hj
        have := q2 j (by omega)
        simpa [hj] using this
      simp [hlt, this]

set_option maxRecDepth 4000 in
theorem c_slices_IndexFunc_Lapi_Decision_api_Decision_st {xs : List Decision} {v : Value} {g : FuncId} {caps : List Value} (S : Nat → Heap → World → Prop) (p : Nat → Bool)
    (hS : ∀ k h w, S k h w → Sub h w ∧ Sl LDecision h v xs)
    (hf : ∀ k x h w vs, S k h w → xs[k]? = some x → LDecision.R h vs x → ∀ u, u = .agg vs.toArray → Calls Tryz.prog g (u :: caps).toArray w (fun e w' => ∃ h', e = .returned (.bool (p k)) ∧ S (k + 1) h' w'))
    (hg : ∀ a w, (callFunc g a).run Tryz.prog w = .ok (.enter g a) w) {h : Heap} {w : World} (h0 : S 0 h w) :
    Calls Tryz.prog 136 #[v, .func (.func g) #[] caps.toArray] w (fun e w' => ∃ h' k, e = .returned (.int .i64 (if k < xs.length then (k : Int) else -1)) ∧ k ≤ xs.length ∧ (∀ j, j < k → p j = false) ∧ (k < xs.length → p k = true) ∧ S (if k < xs.length then k + 1 else k) h' w') := by
  refine W.calls (n := 19) (args := [v, .func (.func g) #[] caps.toArray]) Tryz.func136 rfl rfl rfl ?_
  have hb := (hS 0 h w h0).2.le
  refine W.seq ?_
  refine W.region ?_
  refine OpsL.val rfl rfl (r_asI rfl) ?_
  refine OpsL.nil ?_
  refine Then.norm ?_
  refine W.seq ?_
  refine W.seq ?_
  refine W.region ?_
  refine OpsL.val rfl rfl (r_move (v := v) rfl) ?_
  refine OpsL.val rfl rfl (r_len (hS 0 h w h0).2 rfl Tryz.underlying26) ?_
  refine OpsL.val rfl rfl (r_mvI rfl) ?_
  refine OpsL.nil ?_
  refine Then.norm ?_
  refine W.block ?_
  refine W.loopI [4, 5, 8, 9, 10, 11, 12, 13, 14, 15, 16, 17, 18] (G := Nat × Heap) (fun ⟨k, _⟩ => [(8, .int .i64 (k : Int))]) (fun ⟨k, h'⟩ w' => S k h' w' ∧ k ≤ xs.length ∧ ∀ j, j < k → p j = false) (fun ⟨k, _⟩ => xs.length - k) ⟨0, h⟩ ⟨rfl, trivial⟩ ⟨h0, by omega, by intros; omega⟩ ?_
  rintro ⟨k, h1⟩ _ w1 ⟨hS1, hk, hp⟩
  obtain ⟨hsub, hsl⟩ := hS k h1 w1 hS1
  refine W.seq ?_
  refine W.region ?_
  refine OpsL.val rfl rfl (r_lss rfl rfl) ?_
  refine OpsL.nil ?_
  refine Then.norm ?_
  refine W.seq ?_
  refine W.cond rfl (fun c1 => ?_) (fun c1 => ?_)
  · replace c1 := of_decide_eq_true c1
    refine W.skip ?_
    refine Then.norm ?_
    refine W.seq ?_
    refine W.block ?_
    refine W.seq ?_
    refine W.region ?_
    refine OpsL.val rfl rfl (r_mvI rfl) ?_
    refine OpsL.val rfl rfl (r_asI rfl) ?_
    refine OpsL.nil ?_
    refine Then.norm ?_
    refine W.seq ?_
    refine W.region ?_
    refine OpsL.val rfl rfl (r_mvF rfl) ?_
    refine OpsL.val rfl rfl (r_move (v := v) rfl) ?_
    refine OpsL.val rfl rfl (r_mvI rfl) ?_
    have hy : ∃ y, xs[k]? = some y := ⟨_, List.getElem?_eq_getElem (by omega)⟩
    obtain ⟨y, hy⟩ := hy
    obtain ⟨b, o, vs, he, hc, hr⟩ := Sl.elem hsl hy
    refine OpsL.val rfl rfl (r_index_el he rfl rfl (hk := rfl) (hu := Tryz.underlying26) (hz := Tryz.sizeOf56)) ?_
    refine OpsL.val rfl rfl (r_load_call hsub hc rfl Tryz.isAgg56 Tryz.sizeOf56 (LDecision.len hr)) ?_
    refine OpsL.calls rfl rfl (run_call_value (fs := []) (cs := caps) rfl rfl hg rfl) ((hf k y h1 w1 _ hS1 hy hr _ rfl).mono ?_)
    rintro e w2 ⟨h2, rfl, hS2⟩
    refine ⟨_, rfl, ?_⟩
    refine OpsL.nil ?_
    refine Then.norm ?_
    refine W.cond rfl (fun c2 => ?_) (fun c2 => ?_)
    · refine W.seq ?_
      refine W.region ?_
      refine OpsL.val rfl rfl (r_mvI rfl) ?_
      refine OpsL.val rfl rfl (r_asI rfl) ?_
      refine OpsL.nil ?_
      refine Then.norm ?_
      refine W.ret ?_
      repeat (first | refine Blk.ret ?_ | refine Then.ret ?_)
      refine Post.ret1 Tryz.results136 ?_
      have hlt : k < xs.length := by omega
      exact ⟨h2, k, by rw [if_pos hlt]; rfl, hk, hp, fun _ => c2, by rw [if_pos hlt]; exact hS2⟩
    · refine W.skip ?_
      refine Blk.norm ?_
      refine Then.norm ?_
      refine W.region ?_
      refine OpsL.val rfl rfl (r_add rfl rfl (by omega)) ?_
      refine OpsL.val rfl rfl (r_mvI rfl) ?_
      refine OpsL.nil ?_
      refine Then.norm ?_
      refine ⟨⟨k + 1, h2⟩, ⟨rfl, trivial⟩, ?_, ⟨hS2, by omega, ?_⟩, ?_⟩
      · repeat (first | exact Agree.mix _ _ _ | exact Agree.refl _ _ | refine Agree.updO rfl ?_ | refine Agree.upd rfl ?_ | refine Agree.known rfl ?_ | refine Agree.sub rfl ?_)
      · intro j hj
        rcases Nat.lt_or_ge j k with h3 | h3
        · exact hp j h3
        · obtain rfl : j = k := by omega
          exact c2
      · show xs.length - (k + 1) < xs.length - k
        omega
  · replace c1 := of_decide_eq_false c1
    refine W.exit ?_
    refine Then.exit ?_
    refine Then.exit ?_
    refine Blk.hit ?_
    refine Then.norm ?_
    refine W.seq ?_
    refine W.region ?_
    refine OpsL.val rfl rfl (r_asI rfl) ?_
    refine OpsL.nil ?_
    refine Then.norm ?_
    refine W.ret ?_
    refine Post.ret1 Tryz.results136 ?_
    have hlt : ¬ k < xs.length := by omega
    exact ⟨h1, k, by rw [if_neg hlt]; rfl, hk, hp, fun q => absurd q hlt, by rw [if_neg hlt]; exact hS1⟩

set_option maxRecDepth 4000 in
theorem c_slices_ContainsFunc_Lapi_Decision_api_Decision_st {xs : List Decision} {v : Value} {g : FuncId} {caps : List Value} (S : Nat → Heap → World → Prop) (p : Nat → Bool)
    (hS : ∀ k h w, S k h w → Sub h w ∧ Sl LDecision h v xs)
    (hf : ∀ k x h w vs, S k h w → xs[k]? = some x → LDecision.R h vs x → ∀ u, u = .agg vs.toArray → Calls Tryz.prog g (u :: caps).toArray w (fun e w' => ∃ h', e = .returned (.bool (p k)) ∧ S (k + 1) h' w'))
    (hg : ∀ a w, (callFunc g a).run Tryz.prog w = .ok (.enter g a) w) {h : Heap} {w : World} (h0 : S 0 h w) :
    Calls Tryz.prog 97 #[v, .func (.func g) #[] caps.toArray] w (fun e w' => ∃ h' k, e = .returned (.bool (decide (k < xs.length))) ∧ k ≤ xs.length ∧ (∀ j, j < k → p j = false) ∧ (k < xs.length → p k = true) ∧ S (if k < xs.length then k + 1 else k) h' w') := by
  refine W.calls (n := 9) (args := [v, .func (.func g) #[] caps.toArray]) Tryz.func97 rfl rfl rfl ?_
  refine W.seq ?_
  refine W.region ?_
  refine OpsL.val rfl rfl (r_asB rfl) ?_
  refine OpsL.nil ?_
  refine Then.norm ?_
  refine W.seq ?_
  refine W.region ?_
  refine OpsL.val rfl rfl (r_move (v := v) rfl) ?_
  refine OpsL.val rfl rfl (r_mvF rfl) ?_
  refine OpsL.calls rfl rfl (run_call rfl Tryz.call136 rfl) ((c_slices_IndexFunc_Lapi_Decision_api_Decision_st S p hS hf hg h0).mono ?_)
  rintro e w2 ⟨h2, k, rfl, q1, q2, q3, q4⟩
  refine ⟨_, rfl, ?_⟩
  refine OpsL.val rfl rfl (r_geq rfl rfl) ?_
  refine OpsL.val rfl rfl (r_asB rfl) ?_
  refine OpsL.nil ?_
  refine Then.norm ?_
  refine W.ret ?_
  refine Post.ret1 Tryz.results97 ?_
  refine ⟨h2, k, congrArg Ending.returned (bool_eq ?_), q1, q2, q3, q4⟩
  by_cases hlt : k < xs.length
  · simp [hlt]
  · simp [hlt]
theorem c_slices_ContainsFunc_Lapi_Decision_api_Decision {xs : List Decision} {v : Value} {g : FuncId} {caps : List Value} {h : Heap} {w : World} (hs : Sub h w) (hx : Sl LDecision h v xs) (q : Decision → Bool)
    (hg : ∀ a w, (callFunc g a).run Tryz.prog w = .ok (.enter g a) w)
    (hf : ∀ x h' w' vs, Le h h' → Sub h' w' → x ∈ xs → LDecision.R h' vs x → ∀ u, u = .agg vs.toArray → Calls Tryz.prog g (u :: caps).toArray w' (Rets h' w' fun _ _ r => r = .bool (q x))) :
    Calls Tryz.prog 97 #[v, .func (.func g) #[] caps.toArray] w (Rets h w fun _ _ r => r = .bool (xs.any q)) := by
  refine (c_slices_ContainsFunc_Lapi_Decision_api_Decision_st (fun k h' w' => St h w h' w' [] ∧ k ≤ xs.length) (fun k => ((xs[k]?).map q).getD false) (fun k h' w' hk => ⟨hk.1.sub, hx.up hk.1.le⟩) ?_ hg ⟨St.start hs, Nat.zero_le _⟩).mono ?_
  · rintro k x h' w' vs ⟨st, _⟩ hk hr u hu
    refine (hf x h' w' vs st.le st.sub (List.mem_of_getElem? hk) hr u hu).mono ?_
    rintro e w'' ⟨h'', r, rfl, s, rfl⟩
    obtain ⟨hlt, _⟩ := List.getElem?_eq_some_iff.1 hk
    exact ⟨h'', by simp [hk], st.call0 s, hlt⟩
  · rintro e w' ⟨h', k, rfl, q1, q2, q3, q4⟩
    refine ⟨h', _, rfl, q4.1, bool_eq ?_⟩
    by_cases hlt : k < xs.length
    · have h3 := q3 hlt
      rw [List.getElem?_eq_getElem hlt] at h3
      simp only [Option.map_some, Option.getD_some] at h3
      have : xs.any q = true := List.any_eq_true.2 ⟨_, List.getElem_mem hlt, h3⟩
      simp [hlt, this]
    · have : xs.any q = false := by
        rw [List.any_eq_false]
        intro x hx'
        obtain ⟨j, hj⟩ := List.mem_iff_getElem?.1 hx'
        obtain ⟨h5, _⟩ := List.getElem?_eq_some_iff.1 hj
        have := q2 j (by omega)
        simpa [hj] using this
      simp [hlt, this]

set_option maxRecDepth 4000 in
theorem c_slices_IndexFunc_Lbyte_byte_st {xs : List Int} {v : Value} {g : FuncId} {caps : List Value} (S : Nat → Heap → World → Prop) (p : Nat → Bool)
    (hS : ∀ k h w, S k h w → Sub h w ∧ Sl LU8 h v xs)
    (hf : ∀ k x h w vs, S k h w → xs[k]? = some x → LU8.R h vs x → ∀ u, vs = [u] → Calls Tryz.prog g (u :: caps).toArray w (fun e w' => ∃ h', e = .returned (.bool (p k)) ∧ S (k + 1) h' w'))
    (hg : ∀ a w, (callFunc g a).run Tryz.prog w = .ok (.enter g a) w) {h : Heap} {w : World} (h0 : S 0 h w) :
    Calls Tryz.prog 178 #[v, .func (.func g) #[] caps.toArray] w (fun e w' => ∃ h' k, e = .returned (.int .i64 (if k < xs.length then (k : Int) else -1)) ∧ k ≤ xs.length ∧ (∀ j, j < k → p j = false) ∧ (k < xs.length → p k = true) ∧ S (if k < xs.length then k + 1 else k) h' w') := by
  refine W.calls (n := 19) (args := [v, .func (.func g) #[] caps.toArray]) Tryz.func178 rfl rfl rfl ?_
  have hb := (hS 0 h w h0).2.le
  refine W.seq ?_
  refine W.region ?_
  refine OpsL.val rfl rfl (r_asI rfl) ?_
  refine OpsL.nil ?_
  refine Then.norm ?_
  refine W.seq ?_
  refine W.seq ?_
  refine W.region ?_
  refine OpsL.val rfl rfl (r_move (v := v) rfl) ?_
  refine OpsL.val rfl rfl (r_len (hS 0 h w h0).2 rfl Tryz.underlying195) ?_
  refine OpsL.val rfl rfl (r_mvI rfl) ?_
  refine OpsL.nil ?_
  refine Then.norm ?_
  refine W.block ?_
  refine W.loopI [4, 5, 8, 9, 10, 11, 12, 13, 14, 15, 16, 17, 18] (G := Nat × Heap) (fun ⟨k, _⟩ => [(8, .int .i64 (k : Int))]) (fun ⟨k, h'⟩ w' => S k h' w' ∧ k ≤ xs.length ∧ ∀ j, j < k → p j = false) (fun ⟨k, _⟩ => xs.length - k) ⟨0, h⟩ ⟨rfl, trivial⟩ ⟨h0, by omega, by intros; omega⟩ ?_
  rintro ⟨k, h1⟩ _ w1 ⟨hS1, hk, hp⟩
  obtain ⟨hsub, hsl⟩ := hS k h1 w1 hS1
  refine W.seq ?_
  refine W.region ?_
  refine OpsL.val rfl rfl (r_lss rfl rfl) ?_
  refine OpsL.nil ?_
  refine Then.norm ?_
  refine W.seq ?_
  refine W.cond rfl (fun c1 => ?_) (fun c1 => ?_)
  · replace c1 := of_decide_eq_true c1
    refine W.skip ?_
    refine Then.norm ?_
    refine W.seq ?_
    refine W.block ?_
    refine W.seq ?_
    refine W.region ?_
    refine OpsL.val rfl rfl (r_mvI rfl) ?_
    refine OpsL.val rfl rfl (r_asI rfl) ?_
    refine OpsL.nil ?_
    refine Then.norm ?_
    refine W.seq ?_
    refine W.region ?_
    refine OpsL.val rfl rfl (r_mvF rfl) ?_
    refine OpsL.val rfl rfl (r_move (v := v) rfl) ?_
    refine OpsL.val rfl rfl (r_mvI rfl) ?_
    have hy : ∃ y, xs[k]? = some y := ⟨_, List.getElem?_eq_getElem (by omega)⟩
    obtain ⟨y, hy⟩ := hy
    obtain ⟨b, o, vs, he, hc, hr⟩ := Sl.elem hsl hy
    refine OpsL.val rfl rfl (r_index_el he rfl rfl (hk := rfl) (hu := Tryz.underlying195) (hz := Tryz.sizeOf5)) ?_
    obtain ⟨u, rfl⟩ : ∃ u, vs = [u] := by
      have q := LU8.len hr
      match vs, q with
      | [u], _ => exact ⟨u, rfl⟩
    refine OpsL.val rfl rfl (r_load_cells1 (j := 0) hsub hc rfl rfl rfl Tryz.isAgg5) ?_
    refine OpsL.calls rfl rfl (run_call_value (fs := []) (cs := caps) rfl rfl hg rfl) ((hf k y h1 w1 _ hS1 hy hr _ rfl).mono ?_)
    rintro e w2 ⟨h2, rfl, hS2⟩
    refine ⟨_, rfl, ?_⟩
    refine OpsL.nil ?_
    refine Then.norm ?_
    refine W.cond rfl (fun c2 => ?_) (fun c2 => ?_)
    · refine W.seq ?_
      refine W.region ?_
      refine OpsL.val rfl rfl (r_mvI rfl) ?_
      refine OpsL.val rfl rfl (r_asI rfl) ?_
      refine OpsL.nil ?_
      refine Then.norm ?_
      refine W.ret ?_
      repeat (first | refine Blk.ret ?_ | refine Then.ret ?_)
      refine Post.ret1 Tryz.results178 ?_
      have hlt : k < xs.length := by omega
      exact ⟨h2, k, by rw [if_pos hlt]; rfl, hk, hp, fun _ => c2, by rw [if_pos hlt]; exact hS2⟩
    · refine W.skip ?_
      refine Blk.norm ?_
      refine Then.norm ?_
      refine W.region ?_
      refine OpsL.val rfl rfl (r_add rfl rfl (by omega)) ?_
      refine OpsL.val rfl rfl (r_mvI rfl) ?_
      refine OpsL.nil ?_
      refine Then.norm ?_
      refine ⟨⟨k + 1, h2⟩, ⟨rfl, trivial⟩, ?_, ⟨hS2, by omega, ?_⟩, ?_⟩
      · repeat (first | exact Agree.mix _ _ _ | exact Agree.refl _ _ | refine Agree.updO rfl ?_ | refine Agree.upd rfl ?_ | refine Agree.known rfl ?_ | refine Agree.sub rfl ?_)
      · intro j hj
        rcases Nat.lt_or_ge j k with h3 | h3
        · exact hp j h3
        · obtain rfl : j = k := by omega
          exact c2
      · show xs.length - (k + 1) < xs.length - k
        omega
  · replace c1 := of_decide_eq_false c1
    refine W.exit ?_
    refine Then.exit ?_
    refine Then.exit ?_
    refine Blk.hit ?_
    refine Then.norm ?_
    refine W.seq ?_
    refine W.region ?_
    refine OpsL.val rfl rfl (r_asI rfl) ?_
    refine OpsL.nil ?_
    refine Then.norm ?_
    refine W.ret ?_
    refine Post.ret1 Tryz.results178 ?_
    have hlt : ¬ k < xs.length := by omega
    exact ⟨h1, k, by rw [if_neg hlt]; rfl, hk, hp, fun q => absurd q hlt, by rw [if_neg hlt]; exact hS1⟩

set_option maxRecDepth 4000 in
theorem c_slices_ContainsFunc_Lbyte_byte_st {xs : List Int} {v : Value} {g : FuncId} {caps : List Value} (S : Nat → Heap → World → Prop) (p : Nat → Bool)
    (hS : ∀ k h w, S k h w → Sub h w ∧ Sl LU8 h v xs)
    (hf : ∀ k x h w vs, S k h w → xs[k]? = some x → LU8.R h vs x → ∀ u, vs = [u] → Calls Tryz.prog g (u :: caps).toArray w (fun e w' => ∃ h', e = .returned (.bool (p k)) ∧ S (k + 1) h' w'))
    (hg : ∀ a w, (callFunc g a).run Tryz.prog w = .ok (.enter g a) w) {h : Heap} {w : World} (h0 : S 0 h w) :
    Calls Tryz.prog 132 #[v, .func (.func g) #[] caps.toArray] w (fun e w' => ∃ h' k, e = .returned (.bool (decide (k < xs.length))) ∧ k ≤ xs.length ∧ (∀ j, j < k → p j = false) ∧ (k < xs.length → p k = true) ∧ S (if k < xs.length then k + 1 else k) h' w') := by
  refine W.calls (n := 9) (args := [v, .func (.func g) #[] caps.toArray]) Tryz.func132 rfl rfl rfl ?_
  refine W.seq ?_
  refine W.region ?_
  refine OpsL.val rfl rfl (r_asB rfl) ?_
  refine OpsL.nil ?_
  refine Then.norm ?_
  refine W.seq ?_
  refine W.region ?_
  refine OpsL.val rfl rfl (r_move (v := v) rfl) ?_
  refine OpsL.val rfl rfl (r_mvF rfl) ?_
  refine OpsL.calls rfl rfl (run_call rfl Tryz.call178 rfl) ((c_slices_IndexFunc_Lbyte_byte_st S p hS hf hg h0).mono ?_)
  rintro e w2 ⟨h2, k, rfl, q1, q2, q3, q4⟩
  refine ⟨_, rfl, ?_⟩
  refine OpsL.val rfl rfl (r_geq rfl rfl) ?_
  refine OpsL.val rfl rfl (r_asB rfl) ?_
  refine OpsL.nil ?_
  refine Then.norm ?_
  refine W.ret ?_
  refine Post.ret1 Tryz.results132 ?_
  refine ⟨h2, k, congrArg Ending.returned (bool_eq ?_), q1, q2, q3, q4⟩
  by_cases hlt : k < xs.length
  · simp [hlt]
  · simp [hlt]
theorem c_slices_ContainsFunc_Lbyte_byte {xs : List Int} {v : Value} {g : FuncId} {caps : List Value} {h : Heap} {w : World} (hs : Sub h w) (hx : Sl LU8 h v xs) (q : Int → Bool)
    (hg : ∀ a w, (callFunc g a).run Tryz.prog w = .ok (.enter g a) w)
    (hf : ∀ x h' w' vs, Le h h' → Sub h' w' → x ∈ xs → LU8.R h' vs x → ∀ u, vs = [u] → Calls Tryz.prog g (u :: caps).toArray w' (Rets h' w' fun _ _ r => r = .bool (q x))) :
    Calls Tryz.prog 132 #[v, .func (.func g) #[] caps.toArray] w (Rets h w fun _ _ r => r = .bool (xs.any q)) := by
  refine (c_slices_ContainsFunc_Lbyte_byte_st (fun k h' w' => St h w h' w' [] ∧ k ≤ xs.length) (fun k => ((xs[k]?).map q).getD false) (fun k h' w' hk => ⟨hk.1.sub, hx.up hk.1.le⟩) ?_ hg ⟨St.start hs, Nat.zero_le _⟩).mono ?_
  · rintro k x h' w' vs ⟨st, _⟩ hk hr u hu
    refine (hf x h' w' vs st.le st.sub (List.mem_of_getElem? hk) hr u hu).mono ?_
    rintro e w'' ⟨h'', r, rfl, s, rfl⟩
    obtain ⟨hlt, _⟩ := List.getElem?_eq_some_iff.1 hk
    exact ⟨h'', by simp [hk], st.call0 s, hlt⟩
  · rintro e w' ⟨h', k, rfl, q1, q2, q3, q4⟩
    refine ⟨h', _, rfl, q4.1, bool_eq ?_⟩
    by_cases hlt : k < xs.length
    · have h3 := q3 hlt
      rw [List.getElem?_eq_getElem hlt] at h3
      simp only [Option.map_some, Option.getD_some] at h3
      have : xs.any q = true := List.any_eq_true.2 ⟨_, List.getElem_mem hlt, h3⟩
      simp [hlt, this]
    · have : xs.any q = false := by
        rw [List.any_eq_false]
        intro x hx'
        obtain ⟨j, hj⟩ := List.mem_iff_getElem?.1 hx'
        obtain ⟨h5, _⟩ := List.getElem?_eq_some_iff.1 hj
        have := q2 j (by omega)
        simpa [hj] using this
      simp [hlt, this]
end Go.Pk
