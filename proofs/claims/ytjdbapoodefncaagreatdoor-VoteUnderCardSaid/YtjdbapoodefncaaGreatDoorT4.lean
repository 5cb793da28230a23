/- A PART OF THE PROOF: contracts of functions, each walked once (much of it printed by a program of the author's own). -/
import Derived.Test.YtjdbapoodefncaaGreatDoorT3
import Derived.Test.YtjdbapoodefncaaGreatDoorT2
import Derived.Test.YtjdbapoodefncaaGreatDoorT1
set_option linter.unusedSimpArgs false
set_option linter.unusedVariables false
set_option maxRecDepth 4000
namespace Go.Pk
open Go Go.RowKit
def maxL : List Int → Int
 | [] => 0
 | a :: l => l.foldl zht a
theorem maxL_take {l : List Int} {k : Nat} {x : Int} (h : l[k]? = some x) (hk : 1 ≤ k) : maxL (l.take (k + 1)) = zht (maxL (l.take k)) x := by
 cases l with
 | nil => simp at h
 | cons a l =>
  obtain ⟨m, rfl⟩ : ∃ m, k = m + 1 := ⟨k - 1, by omega⟩;simp only [List.getElem?_cons_succ] at h;simp only [List.take_succ_cons, maxL];rw [zbg h, List.foldl_append]; rfl
theorem maxL_one {l : List Int} {x : Int} (h : l[0]? = some x) : maxL (l.take 1) = x := by
 cases l with
 | nil => simp at h
 | cons a l => simp at h; subst h; rfl
theorem worst3 (ts : List (List Int)) (q : Nat) {a b c : Int} (ha : a = (zgX ts q 0 : Nat)) (hb : b = (zgX ts q 1 : Nat)) (hc : c = (zgX ts q 2 : Nat)) : maxL [a, b, c] = zdk ts q := by
 subst ha hb hc;show zht (zht (zgX ts q 0 : Int) (zgX ts q 1 : Int)) (zgX ts q 2 : Int) = zht (zht (zht 0 (zgX ts q 0 : Int)) (zgX ts q 1 : Int)) (zgX ts q 2 : Int);have e : zht 0 (zgX ts q 0 : Int) = (zgX ts q 0 : Int) := by unfold zht; split <;> omega
 rw [e]
theorem cmpL_lt : ∀ {a b : List Int}, a.length = b.length → decide (cmpL a b < 0) = ltL a b
 | [], [], _ => rfl
 | x :: a, y :: b, h => by
  have ih := cmpL_lt (a := a) (b := b) (by simpa using h);simp only [cmpL, ltL, zdd]
  by_cases e : x = y
  ·subst e; simp; rw [← ih]
  ·rw [if_neg e]
   by_cases h1 : x < y
   ·simp [h1]
   ·have h2 : y < x := by omega
    simp [h1, h2]
 | [], _ :: _, h => by simp at h
 | _ :: _, [], h => by simp at h
theorem before_eq (a b : List Int) : decide (orL [(a.length : Int) - (b.length : Int), cmpL a b] < 0) = zjP a b := by
 unfold zjP
 by_cases e : a.length = b.length
 ·rw [if_neg zr, ← cmpL_lt e];simp only [orL, show (a.length : Int) - (b.length : Int) = 0 by omega, ne_eq, not_true_eq_false, if_false]
  by_cases h : cmpL a b = 0 <;> simp [h]
 rw [if_pos e];simp only [orL, ne_eq, show ¬ (a.length : Int) - (b.length : Int) = 0 by omega, not_false_eq_true, if_true];rw [Bool.eq_iff_iff, decide_eq_true_eq, decide_eq_true_eq]; omega
theorem members_none {s : Int} {n k : Nat} (h0 : 0 ≤ s) (h1 : s < 2 ^ n) (hk : n ≤ k) : zje s (k : Int) = 0 := by
 have h2 : (2 : Int) ^ n ≤ 2 ^ k := by
  have := Nat.pow_le_pow_right (n := 2) zr hk
  exact_mod_cast this
 rw [zje, Int.toNat_natCast, Int.ediv_eq_zero_of_lt h0 zr]; rfl
theorem members_top {s : Int} {n : Nat} (h0 : 0 ≤ s) (h1 : s < 2 ^ n) : ∀ d, zca s (n + d) = zca s n
 | 0 => rfl
 | d + 1 => by
  rw [← Nat.add_assoc, zjD, if_neg (by rw [members_none h0 h1 zr]; decide), List.append_nil];exact members_top h0 h1 d
theorem members_six {s : Int} {n : Nat} (h0 : 0 ≤ s) (h1 : s < 2 ^ n) (hn : n ≤ 6) : zca s 6 = zca s n := by
 have := members_top h0 h1 (6 - n);rwa [show n + (6 - n) = 6 by omega] at this
def zgv {α : Type} (lt : α → α → Bool) (l : List α) : Option α := l.foldl (fun o x => match o with | none => some x | some b => if lt x b = true then some x else some b) none
def zeA {α : Type} (lt : α → α → Bool) (z : α) (l : List α) : α := (zgv lt l).getD z
theorem zfF {α : Type} (lt : α → α → Bool) (l : List α) (x : α) : zgv lt (l ++ [x]) = match zgv lt l with | none => some x | some b => if lt x b = true then some x else some b := by simp [zgv]
theorem ziU {α : Type} {lt : α → α → Bool} : ∀ {l : List α}, (zgv lt l).isSome = !l.isEmpty := by
 intro l
 rcases List.eq_nil_or_concat l with rfl | ⟨l, x, rfl⟩
 ·rfl
 rw [List.concat_eq_append, zfF];cases zgv lt l with
 | none => simp
 | some b => simp only; split <;> simp
theorem first_one {α : Type} {lt : α → α → Bool} {z x : α} {l : List α} (h : (!l.isEmpty) = false) : zeA lt z (l ++ [x]) = x := by
 have e := ziU (lt := lt) (l := l);rw [h] at e;rw [zeA, zfF];cases h2 : zgv lt l with
 | none => rfl
 | some b => rw [h2] at e; cases e
theorem first_new {α : Type} {lt : α → α → Bool} {z x : α} {l : List α} (h : (!l.isEmpty) = true) (hl : lt x (zeA lt z l) = true) : zeA lt z (l ++ [x]) = x := by
 have e := ziU (lt := lt) (l := l);rw [h] at e;rw [zeA] at hl ⊢;rw [zfF];cases h2 : zgv lt l with
 | none => rw [h2] at e; cases e
 | some b => rw [h2] at hl; simp only [Option.getD_some] at hl; simp [hl]
theorem first_old {α : Type} {lt : α → α → Bool} {z x : α} {l : List α} (h : (!l.isEmpty) = true) (hl : lt x (zeA lt z l) = false) : zeA lt z (l ++ [x]) = zeA lt z l := by
 have e := ziU (lt := lt) (l := l);rw [h] at e;rw [zeA] at hl ⊢;rw [zeA, zfF];cases h2 : zgv lt l with
 | none => rw [h2] at e; cases e
 | some b => rw [h2] at hl; simp only [Option.getD_some] at hl; simp [hl]
theorem firstO_mem {α : Type} {lt : α → α → Bool} : ∀ {l : List α} {o : Option α} {b : α}, l.foldl (fun o x => match o with | none => some x | some b => if lt x b = true then some x else some b) o = some b → b ∈ l ∨ o = some b
 | [], o, b, h => .inr h
 | x :: l, o, b, h => by
  rw [List.foldl_cons] at h
  rcases firstO_mem h with q | q
  ·exact .inl (List.mem_cons_of_mem _ q)
  ·cases o with
   | none => simp only [Option.some.injEq] at q; subst q; exact .inl List.mem_cons_self
   | some c =>
    simp only at q;split at q
    ·simp only [Option.some.injEq] at q; subst q; exact .inl List.mem_cons_self
    ·exact .inr q
theorem firstL_mem {α : Type} {lt : α → α → Bool} {z : α} {l : List α} (h : (!l.isEmpty) = true) : zeA lt z l ∈ l := by
 have e := ziU (lt := lt) (l := l);rw [h] at e;rw [zeA];cases h2 : zgv lt l with
 | none => rw [h2] at e; cases e
 | some b =>
  rcases firstO_mem h2 with q | q
  ·exact q
  ·cases q
def askC (ts : List (List Int)) (n k : Nat) : List (List Int) := ((List.range k).filter fun (s : Nat) => zjy ts (zca (s : Int) n)).map fun (s : Nat) => zca (s : Int) n
theorem askC_succ (ts : List (List Int)) (n k : Nat) : askC ts n (k + 1) = askC ts n k ++ if zjy ts (zca (k : Int) n) = true then [zca (k : Int) n] else [] := by
 rw [askC, List.range_succ, List.filter_append, List.map_append, List.filter_cons, List.filter_nil, askC]
 by_cases h : zjy ts (zca (k : Int) n) = true <;> simp [h]
theorem askK_first (ts : List (List Int)) (n : Nat) : ∀ k, zgv zjP (askC ts n k) = askK ts n k
 | 0 => rfl
 | k + 1 => by
  rw [askC_succ, askK, ← askK_first ts n k]
  by_cases h : zjy ts (zca (k : Int) n) = true
  ·rw [if_pos h, zfF, h, Bool.and_true];cases zgv zjP (askC ts n k) with
   | none => rfl
   | some b => rfl
  ·rw [if_neg h, List.append_nil, Bool.not_eq_true] at *;rw [h, Bool.and_false]; rfl
def nextC (ts : List (List Int)) (k : Nat) : List Int := ((List.range k).filter fun (q : Nat) => decide (zdk ts q < (ts.length : Int))).map fun (q : Nat) => (q : Int)
theorem zjC (ts : List (List Int)) (k : Nat) : nextC ts (k + 1) = nextC ts k ++ if zdk ts k < (ts.length : Int) then [(k : Int)] else [] := by
 rw [nextC, List.range_succ, List.filter_append, List.map_append, List.filter_cons, List.filter_nil, nextC]
 by_cases h : zdk ts k < (ts.length : Int) <;> simp [h]
def worseB (ts : List (List Int)) (a b : Int) : Bool := decide (zdk ts a.toNat < zdk ts b.toNat)
theorem maxI_le {a b c : Int} (h1 : a ≤ c) (h2 : b ≤ c) : zht a b ≤ c := by unfold zht; split <;> omega
theorem worst_le (ts : List (List Int)) (q : Nat) : zdk ts q ≤ (ts.length : Int) := by
 have h : ∀ k, worstK ts q k ≤ (ts.length : Int) := by
  intro k
  induction k with
  | zero => simp [worstK]
  | succ k ih => exact maxI_le ih (by have := zfR ts q (k : Int); omega)
 exact h 3
theorem next_first (ts : List (List Int)) : ∀ k, zgv (worseB ts) (nextC ts (k + 1)) = if zdk ts (zhK ts k) < (ts.length : Int) then some (zhK ts k : Int) else none
 | 0 => by
  rw [zjC]
  by_cases h : zdk ts 0 < (ts.length : Int)
  ·simp [h, zhK, nextC, zgv]
  ·simp [h, zhK, nextC, zgv]
 | k + 1 => by
  rw [zjC, zhK];have ih := next_first ts k;have h1 := worst_le ts (k + 1);have h2 := worst_le ts (zhK ts k)
  by_cases a : zdk ts (k + 1) < zdk ts (zhK ts k)
  ·rw [if_pos a, if_pos (show zdk ts (k + 1) < (ts.length : Int) by omega), zfF, ih]
   by_cases b : zdk ts (zhK ts k) < (ts.length : Int)
   ·rw [if_pos b];rw [if_pos (show zdk ts (k + 1) < (ts.length : Int) by omega)];simp only [worseB, Int.toNat_natCast, decide_eq_true a, if_true]
   ·rw [if_neg b, if_pos (show zdk ts (k + 1) < (ts.length : Int) by omega)]
  ·rw [if_neg a]
   by_cases b : zdk ts (zhK ts k) < (ts.length : Int)
   ·by_cases c : zdk ts (k + 1) < (ts.length : Int)
    ·rw [if_pos c, zfF, ih, if_pos b];simp only [worseB, Int.toNat_natCast, decide_eq_false a, Bool.false_eq_true, if_false]
    ·rw [if_neg c, List.append_nil, ih]
   ·rw [if_neg (show ¬ zdk ts (k + 1) < (ts.length : Int) by omega), List.append_nil, ih]
theorem candL_nodup : ∀ ns : List Nat, (candL ns).Nodup
 | [] => by simp [candL]
 | n :: ns => by
  rw [candL, List.Nodup, List.pairwise_flatMap];refine ⟨fun h _ => ?_, ?_⟩
  ·rw [List.pairwise_map];exact (candL_nodup ns).imp fun hne e => hne (by simpa using e)
  ·refine (List.nodup_range (n := n)).imp fun hne => ?_;intro x hx y hy e;obtain ⟨t, _, rfl⟩ := List.mem_map.1 hx;obtain ⟨u, _, rfl⟩ := List.mem_map.1 hy;simp only [List.cons.injEq] at e;exact hne zr
theorem truths_nodup (p : Poll) : (zac p).Nodup := (candL_nodup _).filter _
theorem cnt_all {ts : List (List Int)} {q : Nat} {h : Int} (e : zgX ts q h = ts.length) {t : List Int} (ht : t ∈ ts) : t[q]? = some h := by
 have := List.length_filter_eq_length_iff.1 e t ht;simpa using this
theorem worst_all {ts : List (List Int)} {q : Nat} (h : ¬ zdk ts q < (ts.length : Int)) (h0 : 0 < ts.length) : ∃ a : Int, ∀ t ∈ ts, t[q]? = some a := by
 have h1 := worst_le ts q;have h2 : zdk ts q = (ts.length : Int) := by omega
 have h3 : zdk ts q = zht (zht (zht 0 (zgX ts q 0 : Int)) (zgX ts q 1 : Int)) (zgX ts q 2 : Int) := rfl;have a0 := zfR ts q 0;have a1 := zfR ts q 1;have a2 := zfR ts q 2;have : zgX ts q 0 = ts.length ∨ zgX ts q 1 = ts.length ∨ zgX ts q 2 = ts.length := by
  have h4 : ∀ a b c : Int, zht a b = c → a = c ∨ b = c := by intro a b c e; unfold zht at e; split at e <;> simp [e]
  rw [h3] at h2
  rcases h4 _ _ _ h2 with e | e
  ·rcases h4 _ _ _ e with e | e
   ·rcases h4 _ _ _ e with e | e
    ·omega
    ·left; omega
   ·right; left; omega
  ·right; right; omega
 rcases this with e | e | e
 ·exact ⟨0, fun t ht => cnt_all e ht⟩
 ·exact ⟨1, fun t ht => cnt_all e ht⟩
 exact ⟨2, fun t ht => cnt_all e ht⟩
theorem nextK_small {p : Poll} (hl : 1 < (zac p).length) : zdk (zac p) (zhK (zac p) (p.questions.length - 1)) < ((zac p).length : Int) := by
 refine Classical.byContradiction fun hc => ?_
 -- all questions leave all
 have h1 : ∀ k q, q ≤ k → zdk (zac p) (zhK (zac p) k) ≤ zdk (zac p) q := by
  intro k
  induction k with
  | zero =>
   intro q hq;obtain rfl : q = 0 := by omega
   exact Int.le_refl _
  | succ k ih =>
   intro q hq;rw [zhK]
   by_cases a : zdk (zac p) (k + 1) < zdk (zac p) (zhK (zac p) k)
   ·rw [if_pos a]
    by_cases e : q = k + 1
    ·subst e; exact Int.le_refl _
    ·exact Int.le_trans (Int.le_of_lt a) (ih q zr)
   ·rw [if_neg a]
    by_cases e : q = k + 1
    ·subst e; omega
    ·exact ih q zr
 obtain ⟨t0, h0⟩ : ∃ t, (zac p)[0]? = some t := ⟨_, List.getElem?_eq_getElem zr⟩;obtain ⟨t1, h2⟩ : ∃ t, (zac p)[1]? = some t := ⟨_, List.getElem?_eq_getElem zr⟩;have m0 := List.mem_of_getElem? h0;have m1 := List.mem_of_getElem? h2;have hne : t0 = t1 := by
  refine List.ext_getElem? fun q => ?_
  by_cases hq : q < p.questions.length
  ·obtain ⟨a, ha⟩ := worst_all (ts := zac p) (q := q) (by have := h1 (p.questions.length - 1) q zr; omega) zr;rw [ha t0 m0, ha t1 m1]
  ·rw [List.getElem?_eq_none (by rw [zeh m0]; omega), List.getElem?_eq_none (by rw [zeh m1]; omega)]
 have hn := truths_nodup p;subst hne;have e0 := (List.getElem?_eq_some_iff.1 h0).2;have e1 := (List.getElem?_eq_some_iff.1 h2).2;have := (List.nodup_iff_pairwise_ne.1 hn);rw [List.pairwise_iff_getElem] at this;exact this 0 1 zr zr zr (by rw [e0, e1])
theorem next_ok {p : Poll} (hl : 1 < (zac p).length) (hq : 0 < p.questions.length) : zeA (worseB (zac p)) 0 (nextC (zac p) p.questions.length) = (zhK (zac p) (p.questions.length - 1) : Int) := by
 have h := next_first (zac p) (p.questions.length - 1);rw [show p.questions.length - 1 + 1 = p.questions.length by omega, if_pos (nextK_small hl)] at h;rw [zeA, h]; rfl
def zfq (t : List Int) (s : Int) (k j : Nat) : Int := if j < k then (t[j]?).getD 0 * zje s (j : Int) else 0
def zji (t : List Int) (s : Int) (k : Nat) : Six := ⟨zfq t s k 0, zfq t s k 1, zfq t s k 2, zfq t s k 3, zfq t s k 4, zfq t s k 5⟩
theorem ziq {t : List Int} {s : Int} {k j : Nat} (h : ¬ j = k) : zfq t s (k + 1) j = zfq t s k j := by
 unfold zfq
 by_cases e : j < k
 ·rw [if_pos e, if_pos zr]
 rw [if_neg e, if_neg zr]
theorem sixAt_new {t : List Int} {s x : Int} {k : Nat} (h : t[k]? = some x) : zfq t s (k + 1) k = x * zje s (k : Int) := by
 rw [zfq, if_pos zr, h]; rfl
theorem bit_01 {s : Int} {j : Int} : zje s j = 0 ∨ zje s j = 1 := by rw [zje]; omega
theorem zhq {t : List Int} {s x : Int} {k j : Nat} (hj : j = k) (h : t[k]? = some x) : zfq t s (k + 1) j = x * zje s (k : Int) := by subst hj; exact sixAt_new h
theorem sixK_len {t : List Int} {s : Int} (h : t.length ≤ 6) : zji t s t.length = zji t s 6 := by
 have e : ∀ j, j < 6 → zfq t s t.length j = zfq t s 6 j := by
  intro j hj;rw [zfq, zfq, if_pos hj]
  by_cases q : j < t.length
  ·rw [if_pos q]
  ·rw [if_neg q, List.getElem?_eq_none zr]; simp
 simp only [zji, e 0 zr, e 1 zr, e 2 zr, e 3 zr, e 4 zr, e 5 zr]
theorem six_alike6 {t u : List Int} {s : Int} (ht : t.length ≤ 6) (hu : t.length = u.length) : alikeL t u (zca s 6) = decide (zji t s 6 = zji u s 6) := by
 have hk : ∀ j : Nat, j < 6 → zje s (j : Int) = 1 → (zfq t s 6 j = zfq u s 6 j ↔ t[j]? = u[j]?) := by
  intro j hj hb;rw [zfq, zfq, if_pos hj, if_pos hj, hb, Int.mul_one, Int.mul_one]
  by_cases q : j < t.length
  ·rw [List.getElem?_eq_getElem q, List.getElem?_eq_getElem zr]; simp
  ·rw [List.getElem?_eq_none zr, List.getElem?_eq_none zr]; simp
 rw [Bool.eq_iff_iff, decide_eq_true_eq, alikeL, List.all_eq_true];have key : (∀ k ∈ zca s 6, decide (t[k.toNat]? = u[k.toNat]?) = true) ↔ ∀ j, j < 6 → zfq t s 6 j = zfq u s 6 j := by
  constructor
  ·intro h j hj
   rcases bit_01 (s := s) (j := (j : Int)) with b | b
   ·rw [zfq, zfq, if_pos hj, if_pos hj, b, Int.mul_zero, Int.mul_zero]
   ·refine (hk j hj b).2 ?_;have := h (j : Int) (List.mem_map.2 ⟨j, List.mem_filter.2 ⟨List.mem_range.2 hj, by simpa using b⟩, rfl⟩);simpa using this
  ·intro h k hk';obtain ⟨j, hj, rfl⟩ := List.mem_map.1 hk';have h1 := List.mem_range.1 (List.mem_filter.1 hj).1;have h2 := (List.mem_filter.1 hj).2;simp only [decide_eq_true_eq] at h2;have := (hk j h1 h2).1 (h j h1);simpa using this
 rw [key];constructor
 ·intro h;simp only [zji, h 0 zr, h 1 zr, h 2 zr, h 3 zr, h 4 zr, h 5 zr]
 intro h j hj;simp only [zji, Six.mk.injEq] at h;obtain ⟨a0, a1, a2, a3, a4, a5⟩ := h
 match j, hj with
 | 0, _ => exact a0
 | 1, _ => exact a1
 | 2, _ => exact a2
 | 3, _ => exact a3
 | 4, _ => exact a4
 | 5, _ => exact a5
 | j + 6, hj => omega
def sixM (ts : List (List Int)) (s : Int) (i : Nat) (x : Six) : Option Bool := if ((ts.take i).any fun u => decide (zji u s 6 = x)) = true then some true else none
theorem sixM_succ {ts : List (List Int)} {s : Int} {i : Nat} {t : List Int} (ht : ts[i]? = some t) (x : Six) : sixM ts s (i + 1) x = if x = zji t s 6 then some true else sixM ts s i x := by
 rw [sixM, sixM, any_snoc ht]
 by_cases e : x = zji t s 6
 ·rw [if_pos e, e]; simp
 rw [if_neg e, decide_eq_false (fun q => e q.symm), Bool.or_false]
theorem tells_next {ts : List (List Int)} {s : Int} {i : Nat} {t : List Int} (hl : ∀ t ∈ ts, t.length ≤ 6) (he : ∀ t ∈ ts, ∀ u ∈ ts, t.length = u.length) (ht : ts[i]? = some t) (h : (sixM ts s i (zji t s 6)).getD false = false) : zjz ts (zca s 6) i = true := by
 simp only [zjz, ht, List.all_eq_true];intro u hu;have hm := List.mem_of_getElem? ht;rw [six_alike6 (hl t hm) (he t hm u (List.mem_of_mem_take hu))];rw [sixM] at h;split at h
 ·cases h
 rename_i q;simp only [Bool.not_eq_true, List.any_eq_false, decide_eq_true_eq] at q;simp only [Bool.not_eq_true', decide_eq_false_iff_not];exact fun e => q u hu e.symm
theorem tells_stop {ts : List (List Int)} {s : Int} {i : Nat} {t : List Int} (hl : ∀ t ∈ ts, t.length ≤ 6) (he : ∀ t ∈ ts, ∀ u ∈ ts, t.length = u.length) (ht : ts[i]? = some t) (h : (sixM ts s i (zji t s 6)).getD false = true) : zjy ts (zca s 6) = false := by
 refine tells_no (i := i) ?_;simp only [zjz, ht];rw [sixM] at h;split at h
 ·rename_i q;obtain ⟨u, hu, e⟩ := List.any_eq_true.1 q;have hm := List.mem_of_getElem? ht;refine List.all_eq_false.2 ⟨u, hu, ?_⟩;rw [six_alike6 (hl t hm) (he t hm u (List.mem_of_mem_take hu))];simp only [decide_eq_true_eq] at e;simp [e]
 cases h
theorem sixM_none {ts : List (List Int)} {s : Int} {i : Nat} {x : Six} (h : (sixM ts s i x).getD false = false) : sixM ts s i x = none := by
 rw [sixM] at h ⊢;split at h
 ·cases h
 rename_i q; rw [if_neg q]
theorem askC_six {ts : List (List Int)} {n : Nat} (hn : n ≤ 6) : ∀ k, k ≤ 2 ^ n → askC ts 6 k = askC ts n k := by
 intro k hk;rw [askC, askC];have e : ∀ s ∈ List.range k, zca (s : Int) 6 = zca (s : Int) n := by
  intro s hs;have := List.mem_range.1 hs;refine members_six zr ?_ hn;have h2 : (s : Int) < ((2 ^ n : Nat) : Int) := by omega
  exact_mod_cast h2
 rw [List.filter_congr (q := fun (s : Nat) => zjy ts (zca (s : Int) n)) fun s hs => by rw [e s hs]];exact List.map_congr_left fun s hs => e s (List.mem_filter.1 hs).1
theorem cnt_up {ts : List (List Int)} {i q : Nat} {t : List Int} {a : Int} (ht : ts[i]? = some t) (ha : t[q]? = some a) (h : Int) : ((zgX (ts.take (i + 1)) q h : Nat) : Int) = ((zgX (ts.take i) q h : Nat) : Int) + if a = h then 1 else 0 := by
 rw [cntH_snoc ht, ha]
 by_cases e : a = h <;> simp [e]
theorem next_pos {p : Poll} (h : 1 < (zac p).length) : 0 < p.questions.length := by
 refine Classical.byContradiction fun q => ?_;have e : p.questions = [] := List.eq_nil_of_length_eq_zero zr;have h2 : (zac p).length ≤ 1 := by
  rw [zac, zhY, e];exact List.length_filter_le _ _
 omega
theorem zgR {p : Poll} (hp : zcW p = true) {ls : List (List Int)} (hl : ∀ t ∈ ls, t ∈ zac p) {a : Int} (h0 : 0 ≤ a) (h1 : a < (p.questions.length : Int)) : ∀ t ∈ ls, ∃ x, t[a.toNat]? = some x ∧ 0 ≤ x ∧ x < 3 := by
 intro t ht;obtain ⟨q, hq⟩ : ∃ q, p.questions[a.toNat]? = some q := ⟨_, List.getElem?_eq_getElem zr⟩;obtain ⟨x, hx, h2, h3⟩ := truth_at (hl t ht) hq;have := (zez hp hq).2.2.1;exact ⟨x, hx, h2, by omega⟩
theorem truths_small {p : Poll} (hp : zcW p = true) {ls : List (List Int)} (hl : ∀ t ∈ ls, t ∈ zac p) : ∀ t ∈ ls, ∀ a ∈ t, 0 ≤ a ∧ a ≤ 1000 := by
 intro t ht a ha;obtain ⟨k, hk⟩ := List.mem_iff_getElem?.1 ha;have hlt := (List.getElem?_eq_some_iff.1 hk).1;rw [zeh (hl t ht)] at hlt;obtain ⟨x, hx, h2, h3⟩ := zgR hp hl (a := (k : Int)) zr zr t ht;rw [Int.toNat_natCast, hk] at hx;cases hx;omega
end Go.Pk

namespace Go.Pk
open Go Go.RowKit
def zjI (x : Lexicon) (q : Question) (hd : Head) : Decision := ⟨zge x.decisions + 1, 3, [], q.at_, hd, 0⟩
def decN (n : Int) (q : Question) (hd : Head) : Decision := ⟨n, 3, [], q.at_, hd, 0⟩
def decQ (p : Poll) (x : Lexicon) (q : Question) (h : Int) : Lexicon × Int :=
 if h < 0 then (x, 0) else if (zfK p.text x q.at_).to = (q.heads[h.toNat]?).getD zdG then (x, 0)
 else (zil p.text x (zjI x q ((q.heads[h.toNat]?).getD zdG)), zfV p.text x (zjI x q ((q.heads[h.toNat]?).getD zdG)))
def zep (p : Poll) (s : List Int) : Nat → Lexicon × Int
 | 0 => (p.lexicon, 0)
 | k + 1 => if (zep p s k).2 = 0 then (match p.questions[k]?, s[k]? with
  | some q, some h => decQ p (zep p s k).1 q h
  | _, _ => zep p s k) else zep p s k
def zec (p : Poll) : Int := if zcZ p true = 0 then (zep p (zdr (zac p)) (zdr (zac p)).length).2 else zcZ p true
def zaX (p : Poll) : Lexicon := if zcZ p true = 0 then (zep p (zdr (zac p)) (zdr (zac p)).length).1 else zfv
variable {p : Poll} {s : List Int} {k : Nat} {x : Lexicon} {q : Question} {h : Int} {hd : Head}
theorem dec_skip (a : zep p s k = (x, 0)) (hq : p.questions[k]? = some q) (hs : s[k]? = some h) (h0 : h < 0) : zep p s (k + 1) = (x, 0) := by
 simp only [zep, a, if_true, hq, hs, decQ, if_pos h0]
theorem dec_same (a : zep p s k = (x, 0)) (hq : p.questions[k]? = some q) (hs : s[k]? = some h) (h0 : ¬ h < 0) (hh : q.heads[h.toNat]? = some hd) (e : (zfK p.text x q.at_).to = hd) : zep p s (k + 1) = (x, 0) := by
 simp only [zep, a, if_true, hq, hs, decQ, if_neg h0, hh, Option.getD_some, if_pos e]
theorem dec_add (a : zep p s k = (x, 0)) (hq : p.questions[k]? = some q) (hs : s[k]? = some h) (h0 : ¬ h < 0) (hh : q.heads[h.toNat]? = some hd) (e : ¬ (zfK p.text x q.at_).to = hd) : zep p s (k + 1) = (zil p.text x (zjI x q hd), zfV p.text x (zjI x q hd)) := by
 simp only [zep, a, if_true, hq, hs, decQ, if_neg h0, hh, Option.getD_some, if_neg e]
theorem dec_stop (e : ¬ (zep p s k).2 = 0) : ∀ d, zep p s (k + d) = zep p s k
 | 0 => rfl
 | d + 1 => by rw [← Nat.add_assoc, zep, dec_stop e d, if_neg e]
theorem addN_bad {t : Text} {d : Decision} (e : ¬ zfV t x d = 0) : zil t x d = zfv := by rw [zil, if_neg e]
theorem dec_err (a : zep p s k = (x, 0)) (hq : p.questions[k]? = some q) (hs : s[k]? = some h) (h0 : ¬ h < 0) (hh : q.heads[h.toNat]? = some hd) (e : ¬ (zfK p.text x q.at_).to = hd) (e2 : ¬ zfV p.text x (zjI x q hd) = 0) : zep p s s.length = (zfv, zfV p.text x (zjI x q hd)) := by
 have h1 := dec_add a hq hs h0 hh e;have hk := (List.getElem?_eq_some_iff.1 hs).1;have := dec_stop (p := p) (s := s) (k := k + 1) (by rw [h1]; exact e2) (s.length - (k + 1));rw [show k + 1 + (s.length - (k + 1)) = s.length by omega] at this;rw [this, h1, addN_bad e2]
theorem dec_check (hx : zaG p.text p.lexicon = 0) : ∀ k, (zep p s k).2 = 0 → zaG p.text (zep p s k).1 = 0
 | 0, _ => hx
 | k + 1, e => by
  have ih := dec_check hx k;rw [zep] at e ⊢
  by_cases h0 : (zep p s k).2 = 0
  ·rw [if_pos h0] at e ⊢;split at e
   ·rename_i q h hq hs;unfold decQ at e ⊢;split at e
    ·rename_i c; rw [if_pos c]; exact ih h0
    ·rename_i c;rw [if_neg c];split at e
     ·rename_i c2; rw [if_pos c2]; exact ih h0
     ·rename_i c2; rw [if_neg c2]; exact addN_check e
   ·exact ih h0
  ·rw [if_neg h0] at e; exact absurd e h0
theorem dec_ok (hx : zaG p.text p.lexicon = 0) (a : zep p s k = (x, 0)) : zaG p.text x = 0 := by
 have := dec_check (s := s) hx k;rw [a] at this; exact this rfl
def nextN (l : List Decision) : Int := zge l + 1
theorem nextN_snoc {l : List Decision} {k : Nat} {d : Decision} (h : l[k]? = some d) : zht (nextN (l.take k)) (d.number + 1) = nextN (l.take (k + 1)) := by
 rw [nextN, nextN, mostN_snoc h, zht]; split <;> omega
theorem nextN_eq {l : List Decision} {k : Nat} (h : l.length ≤ k) : nextN (l.take k) = zge l + 1 := by rw [List.take_of_length_le h]; rfl
theorem mostN_le' (hx : OkD x) (k : Nat) : zge (x.decisions.take k) ≤ 999 := fold_max_le _ _ _ zr fun d hd => (hx.2 d (List.mem_of_mem_take hd)).2.1
theorem nextN_le (hx : OkD x) (k : Nat) : 1 ≤ nextN (x.decisions.take k) ∧ nextN (x.decisions.take k) ≤ 1000 := by
 have := mostN_le' hx k;have := mostN_pos (x.decisions.take k);rw [nextN]; omega
def mootB (p : Poll) (s : List Int) (k : Nat) (w : Str) : Bool := match p.questions[k]?, s[k]? with
 | some q, some h => decide (h < 0) && decide (zbd p.text q.at_ = w)
 | _, _ => false
def mootQ (p : Poll) (s : List Int) (n : Nat) (w : Str) : Bool := (List.range n).any fun k => mootB p s k w
theorem moot_succ (p : Poll) (s : List Int) (n : Nat) (w : Str) : mootQ p s (n + 1) w = (mootQ p s n w || mootB p s n w) := by simp [mootQ, List.range_succ, List.any_append]
theorem moot_at {p : Poll} {s : List Int} {n : Nat} {w : Str} {q : Question} {h : Int} (hq : p.questions[n]? = some q) (hs : s[n]? = some h) : mootQ p s (n + 1) w = (mootQ p s n w || (decide (h < 0) && decide (zbd p.text q.at_ = w))) := by
 rw [moot_succ, mootB, hq, hs]
def mootR (p : Poll) : List Str := if zcZ p true = 0 then (homR p.text p.lexicon).filter (mootQ p (zdr (zac p)) (zdr (zac p)).length) else []
def zho (ws : List Str) (p : Poll) (s : List Int) (n : Nat) (w : Str) : Option Bool := if w ∈ ws ∧ mootQ p s n w = false then some true else none
theorem still_skip {ws : List Str} {p : Poll} {s : List Int} {n : Nat} {q : Question} {h : Int} (hq : p.questions[n]? = some q) (hs : s[n]? = some h) (h0 : ¬ h < 0) {m : List (Str × Bool)} (hm : ∀ w, zbU m w = zho ws p s n w) : ∀ w, zbU m w = zho ws p s (n + 1) w := by
 intro w;rw [hm, zho, zho, moot_at hq hs, decide_eq_false h0]; simp
theorem still_del {ws : List Str} {p : Poll} {s : List Int} {n : Nat} {q : Question} {h : Int} (hq : p.questions[n]? = some q) (hs : s[n]? = some h) (h0 : h < 0) {m : List (Str × Bool)} (hm : ∀ w, zbU m w = zho ws p s n w) : ∀ w, zbU (delM m (zbd p.text q.at_)) w = zho ws p s (n + 1) w := by
 intro w;rw [look_delM, hm, zho, zho, moot_at hq hs, decide_eq_true h0, Bool.true_and]
 by_cases e : w = zbd p.text q.at_
 ·subst e; simp
 rw [if_neg e, decide_eq_false (fun q => e q.symm), Bool.or_false]
theorem still_put {ws : List Str} {k : Nat} {w0 : Str} (h : ws[k]? = some w0) {m : List (Str × Bool)} (hm : ∀ w, zbU m w = if w ∈ ws.take k then some true else none) : ∀ w, zbU (zgV m w0 true) w = if w ∈ ws.take (k + 1) then some true else none := by
 intro w;rw [zjl, zbg h, hm]
 by_cases e : w = w0
 ·subst e; simp
 simp [e]
theorem still_zero {ws : List Str} {k : Nat} (hk : ws.length ≤ k) {p : Poll} {s : List Int} {m : List (Str × Bool)} (hm : ∀ w, zbU m w = if w ∈ ws.take k then some true else none) : ∀ w, zbU m w = zho ws p s 0 w := by
 intro w;rw [hm, List.take_of_length_le hk, zho];simp [mootQ]
theorem still_filter {ws : List Str} {p : Poll} {s : List Int} {n : Nat} {m : List (Str × Bool)} (hm : ∀ w, zbU m w = zho ws p s n w) : ws.filter (fun w => !(zbU m w).getD false) = ws.filter (mootQ p s n) := by
 refine List.filter_congr fun w hw => ?_;rw [hm, zho];cases e : mootQ p s n w <;> simp [hw]
end Go.Pk

namespace Go.Pk
open Go Go.RowKit
def dPE : Decision := ⟨1, 3, [], ⟨1, 0, 2⟩, ⟨wSee, 2⟩, 0⟩
def zhL (more : List Decision) : Lexicon := ⟨[], dPE :: more⟩
def seaSee : List Head := [⟨zdH, 1⟩, ⟨wSee, 2⟩]
def questsE : List Question := [⟨⟨0, 0, 1⟩, seaSee⟩, ⟨⟨0, 0, 3⟩, [⟨wAge, 3⟩, ⟨ziw, 0⟩]⟩, ⟨⟨1, 0, 0⟩, seaSee⟩]
def votersE : List Voter := [⟨5, 0, [-1, 1, -1]⟩, ⟨2, 1, [0, 0, 0]⟩, ⟨8, 1, [0, -1, 1]⟩]
def zdt : Poll := ⟨zix, zhL [], questsE, votersE⟩
def zfb : Poll := ⟨zix, zhL [], questsE, votersE.drop 1⟩
theorem checkLP : zaG zix (zhL []) = 0 := by decide +kernel
theorem checkPE : zci zdt = 0 := by decide +kernel
theorem checkP2 : zci zfb = 0 := by decide +kernel
theorem truthsE : zac zdt = [[0, 1, 0]] := by decide +kernel
theorem zjx : zac zfb = [[0, 0, 0], [0, 0, 1], [0, 1, 0]] := by decide +kernel
theorem allEE : zcZ zdt true = 0 := by rw [zcZ, if_neg (by rw [checkPE]; decide), if_neg (by decide), truthsE]; rfl
theorem allE2 : zcZ zfb true = 0 := by rw [zcZ, if_neg (by rw [checkP2]; decide), if_neg (by decide), zjx]; rfl
theorem setE : zdr (zac zdt) = [0, 1, 0] := by rw [truthsE]; decide +kernel
theorem set2 : zdr (zac zfb) = [0, -1, -1] := by rw [zjx]; decide +kernel
def e1E : Decision := ⟨2, 3, [], ⟨0, 0, 1⟩, ⟨zdH, 1⟩, 0⟩
def e2E : Decision := ⟨3, 3, [], ⟨1, 0, 0⟩, ⟨zdH, 1⟩, 0⟩
theorem addP1 : zfV zix (zhL []) e1E = 0 := by decide +kernel
theorem addP2 : zfV zix (zhL [e1E]) e2E = 0 := by decide +kernel
theorem addXP1 : zik (zhL []) e1E = zhL [e1E] := addX_eq (ys := [dPE, e1E]) (List.Perm.refl _) (by decide +kernel) (by decide +kernel)
theorem addXP2 : zik (zhL [e1E]) e2E = zhL [e1E, e2E] := addX_eq (ys := [dPE, e1E, e2E]) (List.Perm.refl _) (by decide +kernel) (by decide +kernel)
theorem checkLP1 : zaG zix (zhL [e1E]) = 0 := by decide +kernel
theorem dec1 : zep zdt [0, 1, 0] 1 = (zhL [e1E], 0) := by
 rw [dec_add (p := zdt) (s := [0, 1, 0]) (k := 0) (x := zhL []) (hd := ⟨zdH, 1⟩) rfl rfl rfl (by decide) rfl (by show ¬ (zfK zix (zhL []) _).to = _; rw [askR_eq checkLP (by decide +kernel)]; decide +kernel)];rw [show zjI (zhL []) ⟨⟨0, 0, 1⟩, seaSee⟩ ⟨zdH, 1⟩ = e1E by decide +kernel];show (zil zix (zhL []) e1E, zfV zix (zhL []) e1E) = _;rw [zil, if_pos addP1, addXP1, addP1]
theorem dec2 : zep zdt [0, 1, 0] 2 = (zhL [e1E], 0) :=
 dec_same (p := zdt) (s := [0, 1, 0]) (k := 1) (hd := ⟨ziw, 0⟩) dec1 rfl rfl (by decide) rfl (by
  show (zfK zix (zhL [e1E]) _).to = _;rw [askR_eq checkLP1 (by decide +kernel)]; decide +kernel)
theorem dec3 : zep zdt [0, 1, 0] 3 = (zhL [e1E, e2E], 0) := by
 rw [dec_add (p := zdt) (s := [0, 1, 0]) (k := 2) (hd := ⟨zdH, 1⟩) dec2 rfl rfl (by decide) rfl (by
  show ¬ (zfK zix (zhL [e1E]) _).to = _;rw [askR_eq checkLP1 (by decide +kernel)]; decide +kernel)]
 rw [show zjI (zhL [e1E]) ⟨⟨1, 0, 0⟩, seaSee⟩ ⟨zdH, 1⟩ = e2E by decide +kernel];show (zil zix (zhL [e1E]) e2E, zfV zix (zhL [e1E]) e2E) = _;rw [zil, if_pos addP2, addXP2, addP2]
theorem decideEE : zec zdt = 0 ∧ zaX zdt = zhL [e1E, e2E] := by
 rw [zec, zaX, if_pos allEE, if_pos allEE, setE];exact ⟨congrArg Prod.snd dec3, congrArg Prod.fst dec3⟩
theorem homP : homR zix (zhL []) = [zdH] := by rw [homV_eq checkLP]; decide +kernel
theorem moot2 : mootR zfb = [zdH] := by
 rw [mootR, if_pos allE2, set2];show (homR zix (zhL [])).filter _ = _;rw [homP]; decide +kernel
theorem ex_01 : (if zci zfb = 0 then ((zac zfb).length : Int) else 0) = 3 := by rw [if_pos checkP2, zjx]; rfl
theorem ex_02 : ((zes zdt true)[0]?).getD [] = [0, 1, 0] := by rw [zes, if_pos allEE, truthsE]; rfl
theorem in_ok {p : Poll} {n m : Int} (h : zcZ p true = 0) (h1 : inB n 0 m = true) : zcZ p (inB n 0 m) = 0 := by rw [h1]; exact h
theorem ex_03 : zcZ zfb (inB 1 0 ((zfb.questions.length : Int) - 1)) = 0 := in_ok allE2 (by decide +kernel)
theorem ex_04 : openR zfb 1 = [0, 1] := by rw [openR, if_pos ex_03, zjx]; decide +kernel
theorem ex_05 : zcL zfb = [0, -1, -1] := by rw [zcL, if_pos allE2, set2]
theorem ex_06 : zcZ zdt (inB 1 0 ((zdt.voters.length : Int) - 1)) = 0 := in_ok allEE (by decide +kernel)
theorem ex_07 : zhD zdt 1 = ⟨1, 1⟩ := by rw [zhD, if_pos ex_06, truthsE]; decide +kernel
theorem ex_08 : ziZ zdt 0 = 0 := by rw [ziZ, if_neg (by rw [checkPE]; decide), if_pos (by decide +kernel)]
theorem ex_09 : tallyR zdt 0 = [2, 0] := by rw [tallyR, if_pos ex_08]; decide +kernel
theorem ex_10 : askR7 zfb = [1, 2] := by rw [askR7, if_pos allE2, zjx]; decide +kernel
theorem ex_11 : nextE zfb = 0 := by rw [nextE, if_neg (by rw [allE2]; decide), zjx]; rfl
theorem ex_12 : nextR zfb = 1 := by rw [nextR, if_pos ex_11, zjx]; decide +kernel
theorem ex_13 : ((zaX zdt).decisions.length : Int) = 3 := by rw [decideEE.2]; rfl
end Go.Pk

namespace Go.Pk
open Go Go.RowKit
def candX (l : List (List Int)) (n : Nat) : List (List Int) := l.flatMap fun x => (List.range n).map fun (h : Nat) => x ++ [(h : Int)]
def heads1 (x : List Int) (h : Nat) : List (List Int) := (List.range h).map fun (h : Nat) => x ++ [(h : Int)]
theorem allE_of {p x : Poll} (hc : zci x = zci p) (ht : zac x = zac p) (so : Bool) : zcZ x so = zcZ p so := by rw [zcZ, zcZ, hc, ht]
theorem setL_at {ts : List (List Int)} {a0 : List Int} (h0 : ts[0]? = some a0) {k : Nat} {h : Int} (e : (zdr ts)[k]? = some h) : ∃ a, a0[k]? = some a ∧ h = if (ts.all fun t => decide (t[k]? = some a)) = true then a else -1 := by
 rw [zdr, h0] at e;have hk : k < a0.length := by
  have := (List.getElem?_eq_some_iff.1 e).1;rwa [zgl] at this
 rw [setK_get hk] at e;refine ⟨_, List.getElem?_eq_getElem hk, ?_⟩;have e2 := Option.some.inj e;rw [← e2, setAt, List.getElem?_eq_getElem hk]
theorem set_pos {ts : List (List Int)} {k : Nat} {h : Int} (e : (zdr ts)[k]? = some h) (hp : 0 ≤ h) : ∀ t ∈ ts, t[k]? = some h := by
 cases h0 : ts[0]? with
 | none => rw [zdr, h0] at e; cases e
 | some a0 =>
  obtain ⟨a, ha, q⟩ := setL_at h0 e;split at q
  ·rename_i c;subst q;intro t ht;simpa using List.all_eq_true.1 c t ht
  ·omega
theorem set_len7 {p : Poll} (hn : zac p ≠ []) : (zdr (zac p)).length = p.questions.length := by
 cases e : zac p with
 | nil => exact absurd e hn
 | cons a0 ts =>
  show (setK (a0 :: ts) a0).length = _;rw [zgl]; exact zeh (by rw [e]; exact List.mem_cons_self)
def forN (vs : List Voter) (q : Nat) (h : Int) : Nat := (vs.filter fun v => decide (v.votes[q]? = some h)).length
theorem set_in {p : Poll} (hn : zac p ≠ []) {k : Nat} {q : Question} (hq : p.questions[k]? = some q) {h : Int} (hs : (zdr (zac p))[k]? = some h) (h0 : 0 ≤ h) : h < (q.heads.length : Int) := by
 obtain ⟨t, ht⟩ := List.exists_mem_of_ne_nil _ hn;obtain ⟨b, hb, _, h1⟩ := truth_at ht hq;rw [set_pos hs h0 t ht] at hb;cases hb; exact h1
theorem homR_len {t : Text} {x : Lexicon} (h : zaG t x = 0) : (homR t x).length ≤ 1000 := by
 rw [homR, if_pos h];have q := setL_len sLt_T (homsN (zbv t x) (zbv t x).length);have q2 := zir (zbv t x) (zbv t x).length;have q3 := ziV (zcY h) x;omega
theorem dec_bad {p : Poll} {s : List Int} : ∀ k, ¬ (zep p s k).2 = 0 → (zep p s k).1 = zfv
 | 0, h => absurd rfl h
 | k + 1, h => by
  have ih := dec_bad (p := p) (s := s) k;rw [zep] at h ⊢
  by_cases h0 : (zep p s k).2 = 0
  ·rw [if_pos h0] at h ⊢;split at h
   ·rename_i q c hq hs;unfold decQ at h ⊢;split at h
    ·exact absurd rfl h
    ·rename_i c1;rw [if_neg c1];split at h
     ·exact absurd rfl h
     ·rename_i c2; rw [if_neg c2]; exact addN_bad h
   ·exact absurd h0 h
  ·rw [if_neg h0] at h ⊢; exact ih h
theorem decide_ok (p : Poll) : zaG p.text (zaX p) = 0 ∨ zaX p = zfv := by
 rw [zaX]
 by_cases h : zcZ p true = 0
 ·rw [if_pos h];have hx := (zbM (zhB h).1).1
  by_cases h2 : (zep p (zdr (zac p)) (zdr (zac p)).length).2 = 0
  ·exact .inl (dec_check hx _ h2)
  ·exact .inr (dec_bad _ h2)
 rw [if_neg h]; exact .inr rfl
theorem zhO (p : Poll) : (zaX p).rules.length ≤ 281474976710656 := by
 rcases decide_ok p with h | h
 ·have := lexicon_12 h; omega
 rw [h]; decide
theorem zhN (p : Poll) : (zaX p).decisions.length ≤ 281474976710656 := by
 rcases decide_ok p with h | h
 ·have := zhv h; omega
 rw [h]; decide
end Go.Pk

namespace Go.Pk
open Go Go.RowKit
end Go.Pk

namespace Go.Pk
open Go Go.RowKit
theorem allE_or {p : Poll} (h : zci p = 0) : (zcZ p true = 0 ∧ zac p ≠ []) ∨ (zcZ p true = 8 ∧ zac p = []) := by
 rw [zcZ, if_neg (by simp [h]), if_neg (by simp)]
 by_cases e : zac p = []
 ·exact .inr ⟨by rw [if_pos e], e⟩
 exact .inl ⟨by rw [if_neg e], e⟩
def openN (p : Poll) (k : Nat) : List Int := if zcZ p true = 0 then ziQ (zac p) k (((p.questions[k]?).getD zio).heads.length) else []
theorem zjA {p : Poll} (h : zcZ p true = 0) : zcL p = zdr (zac p) := by rw [zcL, if_pos h]
def wrongsN (p : Poll) (k : Nat) : Span := zhD p (k : Int)
def moreP (p : Poll) (v : Voter) : Poll := ⟨p.text, p.lexicon, p.questions, p.voters ++ [v]⟩
theorem settledN_len {p : Poll} (h : zcZ p true = 0) : (zcL p).length = p.questions.length := by
 rw [zjA h, set_len7 (zhB h).2.2.1]
def rotP (p : Poll) (ys : List Voter) : Poll := ⟨p.text, p.lexicon, p.questions, ys⟩
def RotN (vs ys : List Voter) (k i : Nat) : Prop := ys.length = vs.length ∧ ∀ j, j < i → ys[j]? = vs[(j + k) % vs.length]?
theorem RotN.step {vs ys : List Voter} {k i : Nat} {v : Voter} (h : RotN vs ys k i) (hi : i < vs.length) (hv : vs[(i + k) % vs.length]? = some v) : RotN vs (ys.set i v) k (i + 1) := by
 refine ⟨by rw [List.length_set]; exact h.1, fun j hj => ?_⟩
 by_cases e : j = i
 ·subst e; rw [List.getElem?_set_self (by rw [h.1]; exact hi), hv]
 rw [List.getElem?_set_ne (Ne.symm e)]; exact h.2 j zr
theorem RotN.perm {vs ys : List Voter} {k i : Nat} (h : RotN vs ys k i) (hi : vs.length ≤ i) (hk : k < vs.length) : ys.Perm vs := by
 have e : ys = vs.drop k ++ vs.take k := by
  refine List.ext_getElem? fun j => ?_
  by_cases hj : j < vs.length
  ·rw [h.2 j zr]
   by_cases c : j + k < vs.length
   ·rw [Nat.mod_eq_of_lt c, List.getElem?_append_left (by rw [List.length_drop]; omega), List.getElem?_drop, Nat.add_comm]
   ·have e2 : (j + k) % vs.length = j + k - vs.length := by
     rw [Nat.mod_eq_sub_mod zr, Nat.mod_eq_of_lt zr]
    rw [e2, List.getElem?_append_right (by rw [List.length_drop]; omega), List.length_drop, List.getElem?_take, if_pos zr];congr 1; omega
  ·rw [List.getElem?_eq_none (by rw [h.1]; omega), List.getElem?_eq_none (by rw [List.length_append, List.length_drop, List.length_take]; omega)]
 rw [e];have := List.perm_append_comm (l₁ := vs.drop k) (l₂ := vs.take k);rwa [List.take_append_drop] at this
structure RotE (p x : Poll) : Prop where
 ck : zci x = zci p
 ts : zac x = zac p
 al : ∀ so, zcZ x so = zcZ p so
 se : zcL x = zcL p
 ak : askR7 x = askR7 p
 dr : zaX x = zaX p
 de : zec x = zec p
def wrongsV (p : Poll) (v : Voter) : Span := if zcZ p true = 0 then spanK v (zac p) else zSpan
def maxIdN (vs : List Voter) : Int := vs.foldl (fun a v => zht a v.id) 0
def expAt (hs qs : List Int) (k : Nat) : Int := if (k : Int) ∈ qs then (hs[k]?).getD 0 else -1
def expL (hs qs : List Int) (n : Nat) : List Int := (List.range n).map (expAt hs qs)
def expertV (p : Poll) (hs qs : List Int) : Voter := ⟨maxIdN p.voters + 1, 0, expL hs qs p.questions.length⟩
end Go.Pk

namespace Go.Pk
open Go Go.RowKit
def oddE : Poll := { zdt with voters := [⟨2, 0, [-1, 1, -1]⟩, ⟨2, 1, [0, 0, 0]⟩, ⟨8, 1, [0, -1, 1]⟩] }
def tornE : Poll := { zdt with lexicon := ⟨[], [⟨0, 3, [], ⟨1, 0, 2⟩, ⟨wSee, 2⟩, 0⟩]⟩ }
def noneE : Poll := { zdt with voters := [⟨5, 0, [-1, 1, -1]⟩, ⟨2, 0, [0, 0, 0]⟩, ⟨8, 1, [0, -1, 1]⟩] }
end Go.Pk

namespace Go.Pk
open Go Go.RowKit
section
variable {t : Text} {x : Lexicon} {d : Decision}
theorem conc_kind {e : Decision} {p : Place} {wd : Str} (h : zdy e p wd = true) : e.kind ≤ 3 := by
 unfold zdy at h;split at h
 ·omega
 split at h
 ·omega
 split at h
 ·omega
 cases h
theorem win_place (h : zfV t x d = 0) (hk : d.kind = 3) (hm : ∀ e ∈ x.decisions, e.number < d.number) (wd : Str) : zcn (zik x d) d.at_ wd = d := by
 obtain ⟨_, hy, _⟩ := addX_ok h;have hd : d ∈ (zik x d).decisions := mem_addX.2 (.inr rfl);have hle : ∀ e ∈ (zik x d).decisions, e.number ≤ d.number := by
  intro e he
  rcases mem_addX.1 he with q | rfl
  ·exact Int.le_of_lt (hm e q)
  ·exact Int.le_refl _
 have hs : d.number ∈ zhW (zik x d) := (zjh hy hd).2 (stands_free hy (hy.2 d hd).1 fun v hv hv4 => by
  have q1 := (hy.2 v hv).2.2 hv4;have q2 := hle v hv;omega)
 have hc : zdy d d.at_ wd = true := by simp [zdy, hk]
 obtain ⟨w1, w2, w3, w4, w5⟩ := wins_some hy hd hs hc
 by_cases e : d.number = (zcn (zik x d) d.at_ wd).number
 ·exact zjk hy.1 w1 hd e.symm
 have hl := w5 d hd hs hc e;have h1 := conc_kind w4;have h2 := hle _ w1;unfold lexD at hl;omega
theorem win_else (h : zfV t x d = 0) (hk : d.kind = 3) {p : Place} (hp : d.at_ ≠ p) (wd : Str) : zcn (zik x d) p wd = zcn x p wd := by
 obtain ⟨hx, hy, hd⟩ := addX_ok h;rw [ziJ hx, ziJ hy];refine winV_of rfl hx ((List.perm_ext_iff_of_nodup (countV_nodup hy _ _) (countV_nodup hx _ _)).2 fun e => ?_);have hs : ∀ e, zcS (zik x d) e = zcS x e := fun e => standsF_more zr 1000 e;rw [zfH, zfH, hs, mem_addX];constructor
 ·rintro ⟨h1 | rfl, h2, h3⟩
  ·exact ⟨h1, h2, h3⟩
  ·simp [zdy, hk, hp] at h3
 rintro ⟨h1, h2, h3⟩; exact ⟨.inl h1, h2, h3⟩
end
theorem before_trans {a b c : Place} (h1 : zdo a b = true) (h2 : zdo b c = true) : zdo a c = true := by
 rcases a with ⟨c1, l1, w1⟩; rcases b with ⟨c2, l2, w2⟩; rcases c with ⟨c3, l3, w3⟩
 simp only [zdo] at *
 by_cases q1 : c1 = c2 <;> by_cases q2 : c2 = c3 <;> by_cases q3 : l1 = l2 <;> by_cases q4 : l2 = l3 <;> by_cases q5 : c1 = c3 <;> by_cases q6 : l1 = l3 <;> simp_all <;> omega
theorem before_ne {a b : Place} (h : zdo a b = true) : a ≠ b := by
 rintro rfl;simp [zdo] at h
theorem quest_lt {p : Poll} (h : zcW p = true) {i : Nat} {a : Question} (ha : p.questions[i]? = some a) : ∀ (d : Nat) {b : Question}, p.questions[i + d + 1]? = some b → zdo a.at_ b.at_ = true := by
 have step : ∀ (k : Nat) {u v : Question}, p.questions[k]? = some u → p.questions[k + 1]? = some v → zdo u.at_ v.at_ = true := by
  intro k u v hu hv;simp only [zcW, Bool.and_eq_true, List.all_eq_true] at h;have h1 := h.1.2 (k + 1) (List.mem_range.2 (List.getElem?_eq_some_iff.1 hv).1);simp only [zeH, hv, Bool.and_eq_true, Nat.add_sub_cancel, hu, Option.getD_some] at h1;have h2 := h1.1.1.2;simpa using h2
 intro d
 induction d with
 | zero => intro b hb; exact step i ha hb
 | succ d ih =>
  intro b hb;have hlt : i + d + 1 < p.questions.length := by have := (List.getElem?_eq_some_iff.1 hb).1; omega
  exact before_trans (ih (List.getElem?_eq_getElem hlt)) (step _ (List.getElem?_eq_getElem hlt) hb)
theorem quest_ne {p : Poll} (h : zcW p = true) {i j : Nat} {a b : Question} (ha : p.questions[i]? = some a) (hb : p.questions[j]? = some b) (hij : i ≠ j) : a.at_ ≠ b.at_ := by
 rcases Nat.lt_or_gt_of_ne hij with q | q
 ·exact before_ne (quest_lt h ha (j - i - 1) (by rw [show i + (j - i - 1) + 1 = j by omega]; exact hb))
 exact (before_ne (quest_lt h hb (i - j - 1) (by rw [show j + (i - j - 1) + 1 = i by omega]; exact ha))).symm
def hdA (t : Text) (x : Lexicon) (q : Question) : Head := (zcn x q.at_ (zbd t q.at_)).to
def hdQ (q : Question) (h : Int) : Head := (q.heads[h.toNat]?).getD zdG
def chgB (p : Poll) (s : List Int) (j : Nat) : Bool := match p.questions[j]?, s[j]? with
 | some q, some h => decide (0 ≤ h) && decide (hdA p.text p.lexicon q ≠ hdQ q h)
 | _, _ => false
theorem chg_at {p : Poll} {s : List Int} {j : Nat} {q : Question} {h : Int} (hq : p.questions[j]? = some q) (hs : s[j]? = some h) : chgB p s j = (decide (0 ≤ h) && decide (hdA p.text p.lexicon q ≠ hdQ q h)) := by rw [chgB, hq, hs]
def chgN (p : Poll) (s : List Int) (k : Nat) : Nat := ((List.range k).filter (chgB p s)).length
theorem chgN_succ (p : Poll) (s : List Int) (k : Nat) : chgN p s (k + 1) = chgN p s k + if chgB p s k = true then 1 else 0 := by
 rw [chgN, List.range_succ, List.filter_append, List.length_append, List.filter_cons];split <;> simp [chgN]
structure DecI (p : Poll) (s : List Int) (k : Nat) (x : Lexicon) : Prop where
 ck : zaG p.text x = 0
 mono : zge p.lexicon.decisions ≤ zge x.decisions
 out : ∀ (pl : Place) (w : Str), (∀ (j : Nat) (q : Question) (h : Int), j < k → p.questions[j]? = some q → s[j]? = some h → 0 ≤ h → q.at_ ≠ pl) → zcn x pl w = zcn p.lexicon pl w
 ins : ∀ (j : Nat) (q : Question) (h : Int), j < k → p.questions[j]? = some q → s[j]? = some h → 0 ≤ h → hdA p.text x q = hdQ q h ∧ (hdA p.text p.lexicon q = hdQ q h → zcn x q.at_ (zbd p.text q.at_) = zcn p.lexicon q.at_ (zbd p.text q.at_)) ∧ (hdA p.text p.lexicon q ≠ hdQ q h → zge p.lexicon.decisions < (zcn x q.at_ (zbd p.text q.at_)).number)
 len : x.decisions.length = p.lexicon.decisions.length + chgN p s k
theorem askR_hdA {t : Text} {x : Lexicon} {q : Question} (hx : zaG t x = 0) (hp : zbu t q.at_ = true) : (zfK t x q.at_).to = hdA t x q := by rw [askR_win hx hp]; rfl
theorem mostN_addX {x : Lexicon} {d : Decision} : zge x.decisions ≤ zge (zik x d).decisions := by
 have key : ∀ (l : List Decision) (n : Int), (∀ e ∈ l, e.number ≤ n) → 0 ≤ n → zge l ≤ n := fun l n h1 h2 => fold_max_le l _ _ h2 h1;refine key _ _ (fun e he => mostN_ge (mem_addX.2 (.inl he))) (mostN_pos _)
theorem dec_inv {p : Poll} {s : List Int} (hp : zcW p = true) (hx : zaG p.text p.lexicon = 0) : ∀ (k : Nat) (x : Lexicon), k ≤ s.length → s.length ≤ p.questions.length → zep p s k = (x, 0) → DecI p s k x
 | 0, x, _, _, h => by
  have : p.lexicon = x := congrArg Prod.fst h;subst this;exact ⟨hx, Int.le_refl _, fun _ _ _ => rfl, fun j _ _ h => absurd h zr, by simp [chgN]⟩
 | k + 1, x, hk, hl, h => by
  obtain ⟨q, hq⟩ : ∃ q, p.questions[k]? = some q := ⟨_, List.getElem?_eq_getElem zr⟩;obtain ⟨c, hc⟩ : ∃ c, s[k]? = some c := ⟨_, List.getElem?_eq_getElem zr⟩;have hpl := (zez hp hq).1
  by_cases e0 : (zep p s k).2 = 0
  ·have I := dec_inv hp hx k (zep p s k).1 zr hl (Prod.ext rfl e0);obtain ⟨y, hy⟩ : ∃ y, y = (zep p s k).1 := ⟨_, rfl⟩;rw [← hy] at I;have hyk : zep p s k = (y, 0) := by rw [hy]; exact Prod.ext rfl e0
   have hself : zcn y q.at_ (zbd p.text q.at_) = zcn p.lexicon q.at_ (zbd p.text q.at_) := I.out _ _ fun j q' h' hj hq' _ _ => quest_ne hp hq' hq zr;have hA : hdA p.text y q = hdA p.text p.lexicon q := by rw [hdA, hself]; rfl
   have same : y = x → chgB p s k = false → (0 ≤ c → hdA p.text p.lexicon q = hdQ q c) → DecI p s (k + 1) x := by
    rintro rfl hn hh;refine ⟨I.ck, I.mono, fun pl w hpl => I.out pl w fun j q' h' hj => hpl j q' h' zr, fun j q' h' hj hq' hs' h0 => ?_, ?_⟩
    ·rcases Nat.lt_succ_iff_lt_or_eq.1 hj with q1 | rfl
     ·exact I.ins j q' h' q1 hq' hs' h0
     ·rw [hq] at hq'; rw [hc] at hs'; cases hq'; cases hs';exact ⟨hA.trans (hh h0), fun _ => hself, fun hne => absurd (hh h0) hne⟩
    ·rw [I.len, chgN_succ, hn]; simp
   by_cases h0 : c < 0
   ·rw [dec_skip hyk hq hc h0] at h;exact same (congrArg Prod.fst h) (by rw [chg_at hq hc, decide_eq_false zr]; rfl) (fun hh => absurd hh zr)
   ·have hto := askR_hdA I.ck hpl
    by_cases e1 : hdA p.text p.lexicon q = hdQ q c
    ·have h9 : zep p s (k + 1) = (y, 0) := by simp only [zep, hyk, if_true, hq, hc, decQ, if_neg h0]; rw [if_pos (by rw [hto, hA, e1]; rfl)]
     rw [h9] at h;exact same (congrArg Prod.fst h) (by rw [chg_at hq hc, decide_eq_false (p := hdA p.text p.lexicon q ≠ hdQ q c) (fun z => z e1), Bool.and_false]) (fun _ => e1)
    ·have h9 : zep p s (k + 1) = (zil p.text y (zjI y q (hdQ q c)), zfV p.text y (zjI y q (hdQ q c))) := by simp only [zep, hyk, if_true, hq, hc, decQ, if_neg h0]; rw [if_neg (by rw [hto, hA]; exact e1)]; rfl
     rw [h9] at h;have hz : zfV p.text y (zjI y q (hdQ q c)) = 0 := congrArg Prod.snd h;have hxx : zik y (zjI y q (hdQ q c)) = x := by have q_ := congrArg Prod.fst h; simp only [zil, if_pos hz] at q_; exact q_
     have hnew : ∀ e ∈ y.decisions, e.number < (zjI y q (hdQ q c)).number := fun e he => by have := mostN_ge he; show e.number < zge y.decisions + 1; omega
     have hw := win_place hz rfl hnew (zbd p.text q.at_);rw [hxx] at hw;have hel : ∀ (pl : Place) (w : Str), q.at_ ≠ pl → zcn x pl w = zcn y pl w := by
      intro pl w hne;have := win_else hz rfl (p := pl) hne w;rw [hxx] at this; exact this
     have hm2 : zge y.decisions ≤ zge x.decisions := by rw [← hxx]; exact mostN_addX
     have hck : zaG p.text x = 0 := by rw [← hxx]; exact addX_check (addE_zero hz).2.2
     refine ⟨hck, Int.le_trans I.mono hm2, fun pl w hpl => ?_, fun j q' h' hj hq' hs' h0' => ?_, ?_⟩
     ·rw [hel pl w (hpl k q c zr hq hc zr)];exact I.out pl w fun j q' h' hj => hpl j q' h' zr
     ·rcases Nat.lt_succ_iff_lt_or_eq.1 hj with q1 | rfl
      ·have hne : q.at_ ≠ q'.at_ := quest_ne hp hq hq' zr;obtain ⟨a1, a2, a3⟩ := I.ins j q' h' q1 hq' hs' h0';have e := hel q'.at_ (zbd p.text q'.at_) hne;refine ⟨by rw [hdA, e]; exact a1, fun z => e.trans (a2 z), fun z => by rw [e]; exact a3 z⟩
      ·rw [hq] at hq'; rw [hc] at hs'; cases hq'; cases hs';have hw' : zcn x q.at_ (zbd p.text q.at_) = zjI y q (hdQ q c) := hw;refine ⟨by rw [hdA, hw']; rfl, fun z => absurd z e1, fun _ => ?_⟩;rw [hw'];show zge p.lexicon.decisions < zge y.decisions + 1;have := I.mono;omega
     ·have hpm := (addX_perm y (zjI y q (hdQ q c))).length_eq;rw [hxx, List.length_append, I.len] at hpm;rw [hpm, chgN_succ, chg_at hq hc, decide_eq_true (show 0 ≤ c by omega), decide_eq_true e1]; simp; omega
  ·exfalso;have h1 := dec_stop (p := p) (s := s) (k := k) e0 1;rw [h1] at h;exact e0 (congrArg Prod.snd h)
end Go.Pk

namespace Go.Pk
open Go Go.RowKit
section
variable {p : Poll} {k : Nat} {q : Question} {ch : Int} {pl : Place}
theorem fol_ok (hk1 : zci p = 0) (he : zec p = 0) : zcZ p true = 0 ∧ (zcL p).length = p.questions.length ∧ DecI p (zcL p) p.questions.length (zaX p) := by
 have ha : zcZ p true = 0 := by
  refine Classical.byContradiction fun h => ?_;rw [zec, if_neg h] at he;exact h he
 have hl := settledN_len ha;have hc := zbM hk1;refine ⟨ha, hl, ?_⟩;rw [← hl];refine dec_inv hc.2 hc.1 _ _ (Nat.le_refl _) zr ?_;rw [zjA ha];rw [zec, if_pos ha] at he;rw [zaX, if_pos ha];exact Prod.ext rfl he
theorem fol_lt (hk1 : zci p = 0) (ha : zcZ p true = 0) (hq : p.questions[k]? = some q) (hs : (zcL p)[k]? = some ch) : ch < (q.heads.length : Int) := by
 by_cases h0 : 0 ≤ ch
 ·rw [zjA ha] at hs;exact set_in (zhB ha).2.2.1 hq hs h0
 omega
theorem fol_pos (I : DecI p (zcL p) p.questions.length (zaX p)) (hq : p.questions[k]? = some q) (hs : (zcL p)[k]? = some ch) (h0 : 0 ≤ ch) : hdA p.text (zaX p) q = hdQ q ch :=
 (I.ins k q ch (List.getElem?_eq_some_iff.1 hq).1 hq hs h0).1
def noSet (p : Poll) (pl : Place) (k : Nat) : Prop := ∀ (j : Nat) (q : Question) (h : Int), j < k → p.questions[j]? = some q → (zcL p)[j]? = some h → q.at_ = pl → h < 0
theorem win_most {t : Text} {x : Lexicon} (hx : zaG t x = 0) (pl : Place) (w : Str) : (zcn x pl w).number ≤ zge x.decisions := by
 have ho := zgh hx
 by_cases h : ∃ d ∈ x.decisions, d.number ∈ zhW x ∧ zdy d pl w = true
 ·obtain ⟨d, h1, h2, h3⟩ := h;exact mostN_ge (wins_some ho h1 h2 h3).1
 rw [wins_none ho fun d hd hc => h ⟨d, hd, hc⟩];exact mostN_pos _
theorem fol_num (hk1 : zci p = 0) (I : DecI p (zcL p) p.questions.length (zaX p)) (hq : p.questions[k]? = some q) (hs : (zcL p)[k]? = some ch) (h0 : 0 ≤ ch) :
  decide (hdA p.text p.lexicon q = hdQ q ch) = decide ((zcn (zaX p) q.at_ (zbd p.text q.at_)).number = (zcn p.lexicon q.at_ (zbd p.text q.at_)).number) := by
 obtain ⟨_, h1, h2⟩ := I.ins k q ch (List.getElem?_eq_some_iff.1 hq).1 hq hs h0
 by_cases e : hdA p.text p.lexicon q = hdQ q ch
 ·rw [decide_eq_true e, h1 e, decide_eq_true rfl]
 ·have := h2 e;have := win_most (zbM hk1).1 q.at_ (zbd p.text q.at_);rw [decide_eq_false e, decide_eq_false zr]
theorem fol_under (hk1 : zci p = 0) (I : DecI p (zcL p) p.questions.length (zaX p)) (hq : p.questions[k]? = some q) (hs : (zcL p)[k]? = some ch) (h0 : 0 ≤ ch) {hd : Head} (hh : q.heads[ch.toNat]? = some hd) :
  zfx p.text (zaX p) hd = 0 ∧ q.at_ ∈ zdw p.text (zaX p) hd ∧ hdQ q ch = hd := by
 have e : hdQ q ch = hd := by rw [hdQ, hh]; rfl
 have h1 : zfE p.text (zaX p) q.at_ = hd := (fol_pos I hq hs h0).trans e;have h2 : q.at_ ∈ zdS p.text := place_in (zez (zbM hk1).2 hq).1;refine ⟨(under_of I.ck (setL_mem.2 (List.mem_map.2 ⟨q.at_, h2, h1⟩))).1, under_mem.2 ⟨h2, h1⟩, e⟩
theorem again_K {s : List Int} {X : Lexicon} (hk1 : zci p = 0) (I : DecI p s p.questions.length X) : ∀ k, zep { p with lexicon := X } s k = (X, 0)
 | 0 => rfl
 | k + 1 => by
  have ih := again_K hk1 I k;rw [zep, ih];simp only [if_true];split
  ·rename_i q h hq hs;have hq' : p.questions[k]? = some q := hq;unfold decQ;split
   ·rfl
   ·rename_i h0;have h1 := (I.ins k q h (List.getElem?_eq_some_iff.1 hq').1 hq' hs zr).1;rw [← askR_hdA I.ck (zez (zbM hk1).2 hq').1] at h1;exact if_pos h1
  ·rfl
theorem again_ok (hk1 : zci p = 0) (he : zec p = 0) : zci { p with lexicon := zaX p } = 0 ∧ zec { p with lexicon := zaX p } = 0 ∧ zaX { p with lexicon := zaX p } = zaX p := by
 obtain ⟨ha, hl, I⟩ := fol_ok hk1 he;have hc : zci { p with lexicon := zaX p } = 0 := by
  have h1 : zcW { p with lexicon := zaX p } = zcW p := rfl;rw [zci, if_neg (by simp [I.ck]), h1, if_pos (zbM hk1).2]
 have ha2 : zcZ { p with lexicon := zaX p } true = 0 := by rw [allE_of (p := p) (hc.trans hk1.symm) rfl]; exact ha
 have ht : zac { p with lexicon := zaX p } = zac p := rfl;have hk := again_K hk1 I (zcL p).length;rw [zjA ha] at hk;refine ⟨hc, ?_, ?_⟩
 ·rw [zec, if_pos ha2, ht, hk]
 rw [zaX, if_pos ha2, ht, hk]
def plcN (t : Text) (n : Nat) : Place := ((zdS t)[n]?).getD zdN
def subN (n : Int) : Nat → Int
 | 0 => n
 | k + 1 => subN n k - 1
theorem lexB_ok {t : Text} {x : Lexicon} (h : zaG t x = 0) : zcu t x = true := by
 unfold zaG at h;cases e : zcu t x with
 | true => rfl
 | false => simp [e] at h; split at h <;> cases h
theorem any_mem {α : Type} [DecidableEq α] {l : List α} {a : α} (h : a ∈ l) {n : Nat} (hn : l.length ≤ n) : ((l.take n).any fun y => decide (y = a)) = true := by
 rw [List.take_of_length_le hn, List.any_eq_true];exact ⟨a, h, decide_eq_true rfl⟩
end
end Go.Pk
