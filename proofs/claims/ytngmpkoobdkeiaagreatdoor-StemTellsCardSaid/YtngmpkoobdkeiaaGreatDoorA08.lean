/- A PART OF THE PROOF (printed by a program of the author's own): contracts of functions, each walked once. -/
import Derived.Test.YtngmpkoobdkeiaaGreatDoorA04
namespace Go.Pk
open Go Go.RowKit Go.Proofs
set_option maxRecDepth 4000 in
theorem c_strings_indexFunc {s : Str} (hlen : s.length ≤ 281474976710656) {g : FuncId} {caps : List Value} (p : Int → Bool) (hp : ∀ x : Int, 128 ≤ x → p x = true)
    (hf : ∀ (x : Int) h w, Sub h w → Calls Tryz.prog g (.int .i32 x :: caps).toArray w (Rets h w fun _ _ r => r = .bool (p x)))
    (hg : ∀ a w, (callFunc g a).run Tryz.prog w = .ok (.enter g a) w) {h : Heap} {w : World} (hs : Sub h w) :
    Calls Tryz.prog 170 #[strV s, .func (.func g) #[] caps.toArray, .bool true] w (Rets h w fun _ _ r => ∃ k : Int, r = .int .i64 k ∧ (0 ≤ k ↔ (s.any fun c => p (c.toNat : Int)) = true)) := by
  refine W.calls (n := 21) (args := [strV s, .func (.func g) #[] caps.toArray, .bool true]) Tryz.func170 rfl rfl rfl ?_
  have st0 : St h w h w [] := St.start hs
  refine W.seq ?_
  refine W.region ?_
  refine OpsL.val rfl rfl (r_asI rfl) ?_
  refine OpsL.nil ?_
  refine Then.norm ?_
  refine W.seq ?_
  refine W.seq ?_
  refine W.region ?_
  refine OpsL.val rfl rfl (r_mvS rfl) ?_
  refine OpsL.rangeS st0 rfl Tryz.underlying9 rfl ?_
  intro b w1 st1
  refine OpsL.nil ?_
  refine Then.norm ?_
  refine W.block ?_
  refine W.loopI [7, 8, 11, 12, 13, 14, 15, 16, 17, 18, 19, 20, 6] (G := Nat × Heap) (fun ⟨k, _⟩ => []) (fun ⟨k, h'⟩ w' => Le h h' ∧ St h w h' w' [[(b, .stringIter ⟨s.toArray⟩ k)]] ∧ k ≤ s.length ∧ ∀ j c, j < k → s[j]? = some c → p (c.toNat : Int) = false) (fun ⟨k, _⟩ => s.length - k) ⟨0, h⟩ trivial ⟨Le.refl _, st1, by omega, by intros; omega⟩ ?_
  rintro ⟨k, h2⟩ _ w2 ⟨le2, st2, hk, hall⟩
  rcases Nat.lt_or_ge k s.length with hlt | hge
  · obtain ⟨c, hc⟩ : ∃ c, s[k]? = some c := ⟨_, List.getElem?_eq_getElem hlt⟩
    refine W.seq ?_
    refine W.region ?_
    refine OpsL.nextS st2 (k := 0) rfl rfl hc rfl ?_
    intro w3 st3
    generalize hR : Utf8.decode ⟨s.toArray⟩ k = R at st3
    refine OpsL.val rfl rfl (r_extract (v := .bool _) rfl rfl) ?_
    refine OpsL.nil ?_
    refine Then.norm ?_
    refine W.seq ?_
    refine W.cond rfl (fun c1 => ?_) (fun c1 => ?_)
    · refine W.skip ?_
      refine Then.norm ?_
      refine W.block ?_
      refine W.seq ?_
      refine W.region ?_
      refine OpsL.val rfl rfl (r_extract (v := .int _ _) rfl rfl) ?_
      refine OpsL.val rfl rfl (r_extract (v := .int _ _) rfl rfl) ?_
      refine OpsL.val rfl rfl (r_asI rfl) ?_
      refine OpsL.val rfl rfl (r_asI rfl) ?_
      refine OpsL.nil ?_
      refine Then.norm ?_
      refine W.seq ?_
      refine W.region ?_
      refine OpsL.val rfl rfl (r_mvF rfl) ?_
      refine OpsL.val rfl rfl (r_mvI rfl) ?_
      refine OpsL.calls rfl rfl (run_call_value (fs := []) (cs := caps) rfl rfl hg rfl) ((hf (R.1 : Int) h2 w3 st3.sub).mono ?_)
      rintro e w4 ⟨h4, r4, rfl, s4, rfl⟩
      refine ⟨_, rfl, ?_⟩
      have st4 := st3.call0 s4
      refine OpsL.val rfl rfl (r_mvB rfl) ?_
      refine OpsL.val rfl rfl (r_beql rfl rfl Tryz.underlying4) ?_
      refine OpsL.nil ?_
      refine Then.norm ?_
      refine W.cond rfl (fun c2 => ?_) (fun c2 => ?_)
      · have c3 : p (R.1 : Int) = true := by simpa using c2
        refine W.seq ?_
        refine W.region ?_
        refine OpsL.val rfl rfl (r_mvI rfl) ?_
        refine OpsL.val rfl rfl (r_asI rfl) ?_
        refine OpsL.nil ?_
        refine Then.norm ?_
        refine W.ret ?_
        repeat (first | refine Blk.ret ?_ | refine Then.ret ?_)
        refine Post.ret1 Tryz.results170 ?_
        refine ⟨h4, _, rfl, st4.done, (k : Int), rfl, ⟨fun _ => ?_, fun _ => by omega⟩⟩
        rw [List.any_eq_true]
        refine ⟨c, List.mem_of_getElem? hc, ?_⟩
        by_cases hl : c.toNat < 128
        · rw [decode_low hc hl] at hR; subst hR; exact c3
        · exact hp _ (by omega)
      · have c3 : p (R.1 : Int) = false := by simpa using c2
        have hl : c.toNat < 128 := by
          rcases Nat.lt_or_ge c.toNat 128 with h5 | h5
          · exact h5
          · have q := decode_high hc (by omega)
            rw [hR] at q
            rw [hp _ (by omega)] at c3; cases c3
        rw [decode_low hc hl] at hR
        subst hR
        refine W.skip ?_
        refine Blk.norm ?_
        refine ⟨⟨k + 1, h4⟩, trivial, ?_, ⟨le2.trans s4.le, st4, by omega, ?_⟩, ?_⟩
        · repeat (first | exact Agree.mix _ _ _ | exact Agree.refl _ _ | refine Agree.updO rfl ?_ | refine Agree.upd rfl ?_ | refine Agree.known rfl ?_ | refine Agree.sub rfl ?_)
        · intro j d hj hd
          rcases Nat.lt_or_ge j k with h3 | h3
          · exact hall j d h3 hd
          · obtain rfl : j = k := by omega
            rw [hc] at hd; cases hd
            exact c3
        · show s.length - (k + 1) < s.length - k
          omega
    · cases c1
  · refine W.seq ?_
    refine W.region ?_
    refine OpsL.nextE st2 (k := 0) rfl rfl hge rfl ?_
    refine OpsL.val rfl rfl (r_extract (v := .bool _) rfl rfl) ?_
    refine OpsL.nil ?_
    refine Then.norm ?_
    refine W.seq ?_
    refine W.cond rfl (fun c1 => ?_) (fun c1 => ?_)
    · cases c1
    · refine W.exit ?_
      refine Then.exit ?_
      refine Then.exit ?_
      refine Blk.hit ?_
      refine Then.norm ?_
      refine W.seq ?_
      refine W.region ?_
      refine OpsL.val rfl rfl (r_asI rfl) ?_
      refine OpsL.nil ?_
      refine Then.norm ?_
      refine W.ret ?_
      refine Post.ret1 Tryz.results170 ?_
      refine ⟨h2, _, rfl, st2.done, _, rfl, ⟨fun q => absurd q (by decide), fun q => ?_⟩⟩
      rw [List.any_eq_true] at q
      obtain ⟨c, hc, hpc⟩ := q
      obtain ⟨j, hj⟩ := List.mem_iff_getElem?.1 hc
      have hjl := (List.getElem?_eq_some_iff.1 hj).1
      rw [hall j c (by omega) hj] at hpc; cases hpc
set_option maxRecDepth 4000 in
theorem c_strings_IndexFunc {s : Str} (hlen : s.length ≤ 281474976710656) {g : FuncId} {caps : List Value} (p : Int → Bool) (hp : ∀ x : Int, 128 ≤ x → p x = true)
    (hf : ∀ (x : Int) h w, Sub h w → Calls Tryz.prog g (.int .i32 x :: caps).toArray w (Rets h w fun _ _ r => r = .bool (p x)))
    (hg : ∀ a w, (callFunc g a).run Tryz.prog w = .ok (.enter g a) w) {h : Heap} {w : World} (hs : Sub h w) :
    Calls Tryz.prog 116 #[strV s, .func (.func g) #[] caps.toArray] w (Rets h w fun _ _ r => ∃ k : Int, r = .int .i64 k ∧ (0 ≤ k ↔ (s.any fun c => p (c.toNat : Int)) = true)) := by
  refine W.calls (n := 8) (args := [strV s, .func (.func g) #[] caps.toArray]) Tryz.func116 rfl rfl rfl ?_
  have st0 : St h w h w [] := St.start hs
  refine W.seq ?_
  refine W.region ?_
  refine OpsL.val rfl rfl (r_asI rfl) ?_
  refine OpsL.nil ?_
  refine Then.norm ?_
  refine W.seq ?_
  refine W.region ?_
  refine OpsL.val rfl rfl (r_mvS rfl) ?_
  refine OpsL.val rfl rfl (r_mvF rfl) ?_
  refine OpsL.callF st0 rfl rfl rfl Tryz.call170 rfl (c_strings_indexFunc hlen p hp hf hg st0.sub) ?_
  rintro v w1 h1 le1 st1 ⟨k, rfl, hk⟩
  refine OpsL.val rfl rfl (r_asI rfl) ?_
  refine OpsL.nil ?_
  refine Then.norm ?_
  refine W.ret ?_
  refine Post.ret1 Tryz.results116 ?_
  exact ⟨h1, _, rfl, st1.done, k, rfl, hk⟩
set_option maxRecDepth 4000 in
theorem c_strings_ContainsFunc {s : Str} (hlen : s.length ≤ 281474976710656) {g : FuncId} {caps : List Value} (p : Int → Bool) (hp : ∀ x : Int, 128 ≤ x → p x = true)
    (hf : ∀ (x : Int) h w, Sub h w → Calls Tryz.prog g (.int .i32 x :: caps).toArray w (Rets h w fun _ _ r => r = .bool (p x)))
    (hg : ∀ a w, (callFunc g a).run Tryz.prog w = .ok (.enter g a) w) {h : Heap} {w : World} (hs : Sub h w) :
    Calls Tryz.prog 81 #[strV s, .func (.func g) #[] caps.toArray] w (Rets h w fun _ _ r => r = .bool (s.any fun c => p (c.toNat : Int))) := by
  refine W.calls (n := 9) (args := [strV s, .func (.func g) #[] caps.toArray]) Tryz.func81 rfl rfl rfl ?_
  have st0 : St h w h w [] := St.start hs
  refine W.seq ?_
  refine W.region ?_
  refine OpsL.val rfl rfl (r_asB rfl) ?_
  refine OpsL.nil ?_
  refine Then.norm ?_
  refine W.seq ?_
  refine W.region ?_
  refine OpsL.val rfl rfl (r_mvS rfl) ?_
  refine OpsL.val rfl rfl (r_mvF rfl) ?_
  refine OpsL.callF st0 rfl rfl rfl Tryz.call116 rfl (c_strings_IndexFunc hlen p hp hf hg st0.sub) ?_
  rintro v w1 h1 le1 st1 ⟨k, rfl, hk⟩
  refine OpsL.val rfl rfl (r_geq rfl rfl) ?_
  refine OpsL.val rfl rfl (r_asB rfl) ?_
  refine OpsL.nil ?_
  refine Then.norm ?_
  refine W.ret ?_
  refine Post.ret1 Tryz.results81 ?_
  refine ⟨h1, _, rfl, st1.done, bool_eq ?_⟩
  rw [Bool.eq_iff_iff, decide_eq_true_eq]
  exact hk
end Go.Pk
