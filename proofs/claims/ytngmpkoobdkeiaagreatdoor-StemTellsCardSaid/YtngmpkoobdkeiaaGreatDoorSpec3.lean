/- THE PLAIN LAW, ON: which decisions stand, as a map. -/
import Derived.Test.YtngmpkoobdkeiaaGreatDoorSpec2
import Derived.Test.YtngmpkoobdkeiaaGreatDoorData2
namespace Go.Pk
open Go Go.RowKit
def downD (x : Lexicon) : List Decision := x.decisions.mergeSort fun a b => decide (b.number ≤ a.number)
def pairD (d : Decision) : Int × Decision := (d.number, d)
def standM (x : Lexicon) : List (Int × Decision) := ((downD x).filter (standsB x)).map pairD
/-- what a valid lexicon's decisions are -/
def OkD (x : Lexicon) : Prop := (x.decisions.map (·.number)).Nodup ∧ ∀ v ∈ x.decisions, 1 ≤ v.number ∧ v.number ≤ 999 ∧ (v.kind = 4 → v.of_ < v.number)
theorem downD_perm (x : Lexicon) : (downD x).Perm x.decisions := List.mergeSort_perm _ _
theorem downD_sorted (x : Lexicon) : (downD x).Pairwise fun a b => b.number ≤ a.number := by
  have h := List.pairwise_mergeSort (le := fun a b : Decision => decide (b.number ≤ a.number)) (by intro a b c h1 h2; simp at *; omega) (by intro a b; simp; omega) x.decisions
  exact h.imp (fun h => by simpa using h)
theorem nodup_key {α : Type} {f : α → Int} {xs : List α} (hn : (xs.map f).Nodup) {a b : α} (ha : a ∈ xs) (hb : b ∈ xs) (e : f a = f b) : a = b := by
  obtain ⟨i, hi⟩ := List.mem_iff_getElem?.1 ha
  obtain ⟨j, hj⟩ := List.mem_iff_getElem?.1 hb
  rcases Nat.lt_trichotomy i j with h | h | h
  · exact absurd hn (not_nodup hi hj h e)
  · subst h; rw [hi] at hj; exact Option.some.inj hj
  · exact absurd hn (not_nodup hj hi h e.symm)
theorem downD_eq {x : Lexicon} {ys : List Decision} (hp : ys.Perm x.decisions) (hs : ys.Pairwise fun a b => ¬ a.number - b.number < 0) (hn : (x.decisions.map (·.number)).Nodup) : ys = downD x := by
  refine List.Perm.eq_of_pairwise (le := fun a b : Decision => b.number ≤ a.number) ?_ (hs.imp (fun h => by omega)) (downD_sorted x) (hp.trans (downD_perm x).symm)
  intro a b ha hb h1 h2
  exact nodup_key hn (hp.mem_iff.1 ha) ((downD_perm x).mem_iff.1 hb) (by omega)
theorem downD_nodup {x : Lexicon} (hn : (x.decisions.map (·.number)).Nodup) : ((downD x).map (·.number)).Nodup := ((downD_perm x).map _).nodup_iff.2 hn
theorem putM_new {κ υ : Type} [DecidableEq κ] {m : List (κ × υ)} {k : κ} {u : υ} (h : look m k = none) : putM m k u = m ++ [(k, u)] := by simp [putM, h]
theorem look_pair {l : List Decision} {n : Int} (hn : (l.map (·.number)).Nodup) {d : Decision} : look (l.map pairD) n = some d ↔ d ∈ l ∧ d.number = n := by
  induction l with
  | nil => simp [look]
  | cons e l ih =>
    simp only [List.map_cons, List.nodup_cons] at hn
    have ih := ih hn.2
    simp only [look, List.map_cons, List.find?_cons, pairD] at ih ⊢
    by_cases h : e.number = n
    · simp only [h, decide_true, Option.map_some, Option.some.injEq, List.mem_cons]
      constructor
      · rintro rfl; exact ⟨.inl rfl, h⟩
      · rintro ⟨rfl | h1, h2⟩
        · rfl
        · exact absurd (List.mem_map.2 ⟨d, h1, h2.trans h.symm⟩) hn.1
    · simp only [h, decide_false, List.mem_cons]
      rw [ih]
      constructor
      · rintro ⟨h1, h2⟩; exact ⟨.inr h1, h2⟩
      · rintro ⟨rfl | h1, h2⟩
        · exact absurd h2 h
        · exact ⟨h1, h2⟩
theorem look_pair_none {l : List Decision} {n : Int} (h : n ∉ l.map (·.number)) : look (l.map pairD) n = none := by
  simp only [look, Option.map_eq_none_iff, List.find?_eq_none]
  intro p hp
  obtain ⟨d, hd, rfl⟩ := List.mem_map.1 hp
  intro e
  have e' : d.number = n := of_decide_eq_true e
  exact h (e' ▸ List.mem_map_of_mem hd)
theorem map_fill {l : List Decision} {k : Nat} {d : Decision} (hn : (l.map (·.number)).Nodup) (hd : l[k]? = some d) : putM ((l.take k).map pairD) d.number d = (l.take (k + 1)).map pairD := by
  rw [putM_new (look_pair_none ?_), take_snoc hd, List.map_append]
  · rfl
  · intro h
    exact not_nodup_mem (f := (·.number)) hd h hn
/-- what the first k decisions, from the greatest number down, leave -/
def leftK (x : Lexicon) (k : Nat) (d : Decision) : Bool := ((downD x).take k).all fun v => !(decide (v.kind = 4) && decide (v.of_ = d.number) && standsB x v)
theorem standsB_eq {x : Lexicon} (hx : OkD x) {d : Decision} (hd : 1 ≤ d.number) : standsB x d = x.decisions.all fun v => !(decide (v.kind = 4) && decide (v.of_ = d.number) && standsB x v) := by
  have hv : ∀ v ∈ x.decisions, v.number ≤ 999 ∧ (v.kind = 4 → v.of_ < v.number) := fun v h => (hx.2 v h).2
  unfold standsB
  rw [standsF_eq hv (by omega)]
  rw [Bool.eq_iff_iff, List.all_eq_true, List.all_eq_true]
  refine forall_congr' fun v => forall_congr' fun hm => ?_
  have h1 := (hx.2 v hm).1
  have e : standsF x (1000 - 1) v = standsF x 1000 v := by
    rw [standsF_eq hv (show 999 < v.number + ((1000 - 1 : Nat) : Int) by omega), standsF_eq hv (show 999 < v.number + ((1000 : Nat) : Int) by omega)]
    -- both say the same of what makes v void
    rw [Bool.eq_iff_iff, List.all_eq_true, List.all_eq_true]
    refine forall_congr' fun u => forall_congr' fun hu => ?_
    by_cases hk : u.kind = 4
    · by_cases ho : u.of_ = v.number
      · have h2 := (hx.2 u hu).2.2 hk
        have : standsF x (1000 - 1 - 1) u = standsF x (1000 - 1) u := by
          have h3 : 2 ≤ u.number := by omega
          have key : ∀ (n m : Nat) (w : Decision), 999 < w.number + (n : Int) → 999 < w.number + (m : Int) → standsF x n w = standsF x m w := by
            intro n
            induction n with
            | zero => intro m w hw hm'
                      cases m with
                      | zero => rfl
                      | succ m =>
                        simp only [standsF]
                        symm
                        rw [List.all_eq_true]
                        intro y hy
                        have hy' := hx.2 y hy
                        by_cases hk' : y.kind = 4
                        · have : ¬ y.of_ = w.number := by have := hy'.2.2 hk'; omega
                          simp [this]
                        · simp [hk']
            | succ n ih => intro m w hw hm'
                           cases m with
                           | zero =>
                             simp only [standsF]
                             rw [List.all_eq_true]
                             intro y hy
                             have hy' := hx.2 y hy
                             by_cases hk' : y.kind = 4
                             · have : ¬ y.of_ = w.number := by have := hy'.2.2 hk'; omega
                               simp [this]
                             · simp [hk']
                           | succ m =>
                             simp only [standsF]
                             rw [Bool.eq_iff_iff, List.all_eq_true, List.all_eq_true]
                             refine forall_congr' fun y => forall_congr' fun hy => ?_
                             have hy' := hx.2 y hy
                             by_cases hk' : y.kind = 4
                             · by_cases ho' : y.of_ = w.number
                               · have := hy'.2.2 hk'
                                 rw [ih m y (by omega) (by omega)]
                               · simp [ho']
                             · simp [hk']
          exact key _ _ u (by omega) (by omega)
        simp only [voids, this]
      · simp [voids, ho]
    · simp [voids, hk]
  simp only [voids, e]
theorem leftK_at {x : Lexicon} (hx : OkD x) {k : Nat} {d : Decision} (hd : (downD x)[k]? = some d) : leftK x k d = standsB x d := by
  have hm : d ∈ x.decisions := (downD_perm x).mem_iff.1 (List.mem_of_getElem? hd)
  rw [standsB_eq hx (hx.2 d hm).1]
  rw [Bool.eq_iff_iff, leftK, List.all_eq_true, List.all_eq_true]
  constructor
  · intro h v hv
    by_cases hk : v.kind = 4
    · by_cases ho : v.of_ = d.number
      · have h1 := (hx.2 v hv).2.2 hk
        obtain ⟨j, hj⟩ := List.mem_iff_getElem?.1 ((downD_perm x).mem_iff.2 hv)
        have hjk : j < k := by
          rcases Nat.lt_or_ge j k with h2 | h2
          · exact h2
          · rcases Nat.eq_or_lt_of_le h2 with h3 | h3
            · subst h3; rw [hj] at hd; cases hd; omega
            · obtain ⟨a1, a2⟩ := List.getElem?_eq_some_iff.1 hd
              obtain ⟨b1, b2⟩ := List.getElem?_eq_some_iff.1 hj
              have := List.pairwise_iff_getElem.1 (downD_sorted x) k j a1 b1 h3
              rw [a2, b2] at this; omega
        exact h v (List.mem_of_getElem? (by rw [List.getElem?_take, if_pos hjk]; exact hj))
      · simp [ho]
    · simp [hk]
  · intro h v hv
    exact h v ((downD_perm x).mem_iff.1 (List.mem_of_mem_take hv))
theorem leftK_zero (x : Lexicon) : ((downD x).filter (leftK x 0)).map pairD = (downD x).map pairD := by
  congr 1
  rw [List.filter_eq_self]
  intro d _; simp [leftK]
theorem leftK_end {x : Lexicon} (hx : OkD x) : ((downD x).filter (leftK x (downD x).length)).map pairD = standM x := by
  unfold standM
  congr 1
  apply List.filter_congr
  intro d hd
  have hm : d ∈ x.decisions := (downD_perm x).mem_iff.1 hd
  rw [standsB_eq hx (hx.2 d hm).1, leftK, List.take_length, Bool.eq_iff_iff, List.all_eq_true, List.all_eq_true]
  exact ⟨fun h v hv => h v ((downD_perm x).mem_iff.2 hv), fun h v hv => h v ((downD_perm x).mem_iff.1 hv)⟩
theorem filter_nodup {x : Lexicon} (hx : OkD x) (p : Decision → Bool) : (((downD x).filter p).map (·.number)).Nodup := (List.filter_sublist.map _).nodup (downD_nodup hx.1)
theorem look_left {x : Lexicon} (hx : OkD x) {k : Nat} {d : Decision} (hd : (downD x)[k]? = some d) : (look (((downD x).filter (leftK x k)).map pairD) d.number).isSome = standsB x d := by
  rw [← leftK_at hx hd]
  have hm := List.mem_of_getElem? hd
  cases h : leftK x k d with
  | true =>
    have := (look_pair (filter_nodup hx (leftK x k))).2 ⟨List.mem_filter.2 ⟨hm, h⟩, rfl⟩
    rw [this]; rfl
  | false =>
    cases hl : look (((downD x).filter (leftK x k)).map pairD) d.number with
    | none => rfl
    | some e =>
      obtain ⟨h1, h2⟩ := (look_pair (filter_nodup hx (leftK x k))).1 hl
      have h3 := List.mem_filter.1 h1
      have : e = d := nodup_key (downD_nodup hx.1) h3.1 hm h2
      subst this
      rw [h] at h3; cases h3.2
theorem leftK_succ {x : Lexicon} {k : Nat} {d e : Decision} (hd : (downD x)[k]? = some d) : leftK x (k + 1) e = (leftK x k e && !(decide (d.kind = 4) && decide (d.of_ = e.number) && standsB x d)) := by
  simp only [leftK, take_snoc hd, List.all_append, List.all_cons, List.all_nil, Bool.and_true]
theorem map_void {x : Lexicon} {k : Nat} {d : Decision} (hd : (downD x)[k]? = some d) (h : d.kind = 4 ∧ standsB x d = true) :
    delM (((downD x).filter (leftK x k)).map pairD) d.of_ = ((downD x).filter (leftK x (k + 1))).map pairD := by
  rw [delM, List.filter_map, List.filter_filter]
  congr 1
  apply List.filter_congr
  intro e _
  rw [leftK_succ hd, h.1, h.2]
  simp only [Function.comp, pairD, decide_true, Bool.and_true, Bool.true_and]
  rw [Bool.and_comm]
  congr 2
  exact decide_eq_decide.2 eq_comm
theorem map_stay {x : Lexicon} {k : Nat} {d : Decision} (hd : (downD x)[k]? = some d) (h : ¬ (d.kind = 4 ∧ standsB x d = true)) :
    ((downD x).filter (leftK x k)).map pairD = ((downD x).filter (leftK x (k + 1))).map pairD := by
  congr 1
  apply List.filter_congr
  intro e _
  rw [leftK_succ hd]
  by_cases h1 : d.kind = 4
  · have h2 : standsB x d = false := by
      cases q : standsB x d with
      | false => rfl
      | true => exact absurd ⟨h1, q⟩ h
    simp [h2]
  · simp [h1]
theorem standM_mem {x : Lexicon} {p : Int × Decision} (h : p ∈ standM x) : p.2 ∈ x.decisions ∧ p.1 = p.2.number ∧ standsB x p.2 = true := by
  obtain ⟨d, hd, rfl⟩ := List.mem_map.1 h
  obtain ⟨h1, h2⟩ := List.mem_filter.1 hd
  exact ⟨(downD_perm x).mem_iff.1 h1, rfl, h2⟩
theorem okD_of {t : Text} {x : Lexicon} (h : checkN t x = 0) : OkD x := by
  have h1 := lexicon_v h
  have h2 := lexicon_v1 h
  refine ⟨?_, fun v hv => ⟨h2 v hv, h1 v hv⟩⟩
  unfold checkN at h
  split at h
  · cases h
  · split at h
    · cases h
    · rename_i h3
      simp only [Bool.not_eq_false] at h3
      simp only [lexiconB, Bool.and_eq_true, decide_eq_true_eq] at h3
      exact h3.2
/-- one turn of a word: what it is then, whether it turned, and how many turns are left -/
def turnW (rs : List Rule) (left : Int) (w : Str) : Str := if left = 0 then w else (stepOf rs w).getD w
def turnB (rs : List Rule) (left : Int) (w : Str) : Bool := if left = 0 then false else (stepOf rs w).isSome
def turnL (left : Int) : Int := if left = 0 then 0 else left - 1
def hasSuf (s p : Str) : Bool := decide (p.length ≤ s.length) && decide (s.drop (s.length - p.length) = p)
theorem stepOf_at {rs : List Rule} {i : Nat} {r : Rule} {w s : Str} (ht : (rs.take i).findSome? (made · w) = none) (hr : rs[i]? = some r) (hm : made r w = some s) : stepOf rs w = some s := by
  unfold stepOf
  rw [← List.take_append_drop i rs, List.findSome?_append, ht, drop_cons hr, List.findSome?_cons, hm]
  rfl
theorem stepOf_none {rs : List Rule} {i : Nat} {w : Str} (ht : (rs.take i).findSome? (made · w) = none) (hi : rs.length ≤ i) : stepOf rs w = none := by
  rw [List.take_of_length_le hi] at ht; exact ht
theorem turn_take {rs : List Rule} {i : Nat} {r : Rule} {w : Str} (ht : (rs.take i).findSome? (made · w) = none) (hr : rs[i]? = some r) (hm : made r w = none) : (rs.take (i + 1)).findSome? (made · w) = none := by
  rw [take_snoc hr, List.findSome?_append, ht, List.findSome?_cons, hm]; rfl
theorem turnW_len {rs : List Rule} {left : Int} {w : Str} (h : w.length ≤ 12) : (turnW rs left w).length ≤ 12 := by
  unfold turnW
  split
  · exact h
  · cases e : stepOf rs w with
    | none => exact h
    | some s =>
      obtain ⟨r, _, hr⟩ := List.exists_of_findSome?_eq_some e
      exact made_len hr
theorem made_no {r : Rule} {w : Str} (h : hasSuf w r.cut = true → r.least ≤ ((w.take (w.length - r.cut.length)).length : Int) ∧ (w.take (w.length - r.cut.length)).length + r.put.length ≤ 12 → False) : made r w = none := by
  unfold made
  rw [if_neg]
  rintro ⟨q1, q2, q3, q4⟩
  have hl : (w.take (w.length - r.cut.length)).length = w.length - r.cut.length := by rw [List.length_take]; omega
  exact h (by simp [hasSuf, q1, q3]) (by rw [hl]; exact ⟨q2, q4⟩)
theorem made_yes {r : Rule} {w : Str} (h : hasSuf w r.cut = true) (h1 : r.least ≤ ((w.take (w.length - r.cut.length)).length : Int)) (h2 : (w.take (w.length - r.cut.length)).length + r.put.length ≤ 12) : made r w = some (w.take (w.length - r.cut.length) ++ r.put) := by
  simp only [hasSuf, Bool.and_eq_true, decide_eq_true_eq] at h
  have hl : (w.take (w.length - r.cut.length)).length = w.length - r.cut.length := by rw [List.length_take]; omega
  rw [hl] at h1 h2
  unfold made
  rw [if_pos ⟨h.1, h1, h.2, h2⟩]
theorem turn_true {rs : List Rule} {left : Int} {w : Str} (h : turnB rs left w = true) : ¬ left = 0 ∧ stepOf rs w = some (turnW rs left w) := by
  unfold turnB at h
  unfold turnW
  split at h
  · cases h
  · rename_i h0
    rw [if_neg h0]
    refine ⟨h0, ?_⟩
    cases e : stepOf rs w with
    | none => rw [e] at h; cases h
    | some s => rfl
theorem turn_false {rs : List Rule} {left : Int} {n : Nat} {w : Str} (h : turnB rs left w = false) (hn : left = (n : Int)) : stepsN rs n w = [w] := by
  unfold turnB at h
  split at h
  · have : n = 0 := by omega
    subst this; rfl
  · apply stepsN_none
    cases e : stepOf rs w with
    | none => rfl
    | some s => rw [e] at h; cases h
theorem perm_step {α : Type} {dn rm rm' m : List α} {p : α} (h : (dn ++ rm).Perm m) (q : rm.Perm (p :: rm')) : ((dn ++ [p]) ++ rm').Perm m := by
  refine List.Perm.trans ?_ h
  rw [List.append_assoc]
  exact (List.Perm.append_left dn q).symm
theorem standAt_mem {x : Lexicon} {n : Nat} {d : Decision} : d ∈ standAt x n ↔ d ∈ x.decisions ∧ d.number = (n : Int) + 1 ∧ standsB x d = true := by
  simp only [standAt, List.mem_filter, standP, standsB, Bool.and_eq_true, decide_eq_true_eq]
theorem standing_sorted {x : Lexicon} (hn : (x.decisions.map (·.number)).Nodup) : ∀ n, (((List.range n).flatMap (standAt x)).map (·.number)).Pairwise (fun a b : Int => a < b) ∧ ∀ a ∈ ((List.range n).flatMap (standAt x)).map (·.number), a ≤ (n : Int)
  | 0 => by simp
  | n + 1 => by
    obtain ⟨h1, h2⟩ := standing_sorted hn n
    have h3 : ((standAt x n).map (·.number)).Nodup := (List.filter_sublist.map _).nodup hn
    have h4 : ∀ a ∈ (standAt x n).map (·.number), a = (n : Int) + 1 := by
      intro a ha
      obtain ⟨d, hd, rfl⟩ := List.mem_map.1 ha
      exact (standAt_mem.1 hd).2.1
    rw [List.range_succ, List.flatMap_append, List.map_append]
    simp only [List.flatMap_cons, List.flatMap_nil, List.append_nil]
    refine ⟨List.pairwise_append.2 ⟨h1, ?_, ?_⟩, ?_⟩
    · refine List.Pairwise.imp_of_mem ?_ h3
      intro a b ha hb hne
      exact absurd ((h4 a ha).trans (h4 b hb).symm) hne
    · intro a ha b hb
      have := h2 a ha; have := h4 b hb; omega
    · intro a ha
      rcases List.mem_append.1 ha with ha | ha
      · have := h2 a ha; omega
      · have := h4 a ha; omega
theorem standM_nodup {x : Lexicon} (hx : OkD x) : ((standM x).map (·.1)).Nodup := by
  have := filter_nodup hx (standsB x)
  have e : (standM x).map (·.1) = ((downD x).filter (standsB x)).map (·.number) := by rw [standM, List.map_map]; rfl
  rw [e]; exact this
theorem standing_eq {x : Lexicon} (hx : OkD x) {dn : List (Int × Decision)} (hp : dn.Perm (standM x)) : (dn.map (·.1)).mergeSort (fun a b => decide (a ≤ b)) = (standingR x).map (·.number) := by
  have hs := (standing_sorted hx.1 999).1
  have hnd : ((standingR x).map (·.number)).Nodup := hs.imp (fun h => by omega)
  have hperm : (dn.map (·.1)).Perm ((standingR x).map (·.number)) := by
    refine (hp.map (·.1)).trans ?_
    rw [List.perm_ext_iff_of_nodup (standM_nodup hx) hnd]
    intro a
    constructor
    · intro ha
      obtain ⟨p, hp', rfl⟩ := List.mem_map.1 ha
      obtain ⟨h1, h2, h3⟩ := standM_mem hp'
      have h4 := hx.2 _ h1
      refine List.mem_map.2 ⟨p.2, List.mem_flatMap.2 ⟨(p.2.number - 1).toNat, List.mem_range.2 (by omega), standAt_mem.2 ⟨h1, by omega, h3⟩⟩, h2.symm⟩
    · intro ha
      obtain ⟨d, hd, rfl⟩ := List.mem_map.1 ha
      obtain ⟨n, _, hd'⟩ := List.mem_flatMap.1 hd
      obtain ⟨h1, _, h3⟩ := standAt_mem.1 hd'
      exact List.mem_map.2 ⟨pairD d, List.mem_map.2 ⟨d, List.mem_filter.2 ⟨(downD_perm x).mem_iff.2 h1, h3⟩, rfl⟩, rfl⟩
  refine List.Perm.eq_of_pairwise (le := fun a b : Int => a ≤ b) (fun a b _ _ h1 h2 => by omega) ?_ (hs.imp (fun h => by omega)) ((List.mergeSort_perm _ _).trans hperm)
  have h := List.pairwise_mergeSort (le := fun a b : Int => decide (a ≤ b)) (by intro a b c h1 h2; simp at *; omega) (by intro a b; simp; omega) (dn.map (·.1))
  exact h.imp (fun h => by simpa using h)
theorem standM_len {t : Text} {x : Lexicon} (h : checkN t x = 0) : (standM x).length ≤ 20 := by
  have h1 := lexicon_20 h
  have h2 := (downD_perm x).length_eq
  have h3 := List.length_filter_le (standsB x) (downD x)
  rw [standM, List.length_map]; omega
theorem standingN_len (t : Text) (x : Lexicon) : (standingN t x).length ≤ 281474976710656 := by
  unfold standingN
  split
  · rename_i h
    have := stand_len 999 (lexicon_20 h)
    rw [List.length_map, standingR]; omega
  · simp
/-- what is not great -/
def smallW (w : Str) : Bool := decide (w.length ≤ 40)
def smallL (l : List Str) : Bool := decide (l.length ≤ 15) && l.all smallW
def smallC (c : Chapter) : Bool := decide (c.lines.length ≤ 15) && c.lines.all smallL
def smallT (t : Text) : Bool := decide (t.chapters.length ≤ 10) && t.chapters.all smallC
def smallR (r : Rule) : Bool := decide (r.cut.length ≤ 100) && decide (r.put.length ≤ 100)
def smallD (d : Decision) : Bool := decide (d.form.length ≤ 100) && decide (d.to.stem.length ≤ 100)
def smallX (x : Lexicon) : Bool := decide (x.rules.length ≤ 20) && decide (x.decisions.length ≤ 25) && x.rules.all smallR && x.decisions.all smallD
theorem smallT_len {t : Text} (h : smallT t = true) : t.chapters.length ≤ 10 := by
  simp only [smallT, Bool.and_eq_true, decide_eq_true_eq] at h; exact h.1
theorem smallT_c {t : Text} (h : smallT t = true) {i : Nat} {c : Chapter} (hc : t.chapters[i]? = some c) : c.lines.length ≤ 15 := by
  simp only [smallT, Bool.and_eq_true, decide_eq_true_eq, List.all_eq_true] at h
  have := h.2 c (List.mem_of_getElem? hc)
  simp only [smallC, Bool.and_eq_true, decide_eq_true_eq] at this; exact this.1
theorem smallT_l {t : Text} (h : smallT t = true) {i k : Nat} {c : Chapter} {l : List Str} (hc : t.chapters[i]? = some c) (hl : c.lines[k]? = some l) : l.length ≤ 15 := by
  simp only [smallT, Bool.and_eq_true, decide_eq_true_eq, List.all_eq_true] at h
  have := h.2 c (List.mem_of_getElem? hc)
  simp only [smallC, Bool.and_eq_true, decide_eq_true_eq, List.all_eq_true] at this
  have := this.2 l (List.mem_of_getElem? hl)
  simp only [smallL, Bool.and_eq_true, decide_eq_true_eq] at this; exact this.1
theorem smallX_len {x : Lexicon} (h : smallX x = true) : x.rules.length ≤ 20 ∧ x.decisions.length ≤ 25 := by
  simp only [smallX, Bool.and_eq_true, decide_eq_true_eq] at h; exact h.1.1
end Go.Pk
