/- A PART OF THE PROOF: contracts of functions, each walked once (much of it printed by a program of the author's own). -/
import Derived.Test.YtjdbapoodefncaaGreatDoorT3
import Derived.Test.YtjdbapoodefncaaGreatDoorT2
import Derived.Test.YtjdbapoodefncaaGreatDoorT1
set_option linter.unusedSimpArgs false
set_option linter.unusedVariables false
set_option maxRecDepth 4000
namespace Go.Pk
open Go Go.RowKit
def maxL : List Int → Int
 | [] => 0
 | a :: l => l.foldl zgY a
theorem maxL_take {l : List Int} {k : Nat} {x : Int} (h : l[k]? = some x) (hk : 1 ≤ k) : maxL (l.take (k + 1)) = zgY (maxL (l.take k)) x := by
 cases l with
 | nil => simp at h
 | cons a l =>
  obtain ⟨m, rfl⟩ : ∃ m, k = m + 1 := ⟨k - 1, by omega⟩;simp only [List.getElem?_cons_succ] at h;simp only [List.take_succ_cons, maxL];rw [zbg h, List.foldl_append]; rfl
theorem maxL_one {l : List Int} {x : Int} (h : l[0]? = some x) : maxL (l.take 1) = x := by
 cases l with
 | nil => simp at h
 | cons a l => simp at h; subst h; rfl
theorem worst3 (ts : List (List Int)) (q : Nat) {a b c : Int} (ha : a = (zgh ts q 0 : Nat)) (hb : b = (zgh ts q 1 : Nat)) (hc : c = (zgh ts q 2 : Nat)) : maxL [a, b, c] = zcj ts q := by
 subst ha hb hc;show zgY (zgY (zgh ts q 0 : Int) (zgh ts q 1 : Int)) (zgh ts q 2 : Int) = zgY (zgY (zgY 0 (zgh ts q 0 : Int)) (zgh ts q 1 : Int)) (zgh ts q 2 : Int);have e : zgY 0 (zgh ts q 0 : Int) = (zgh ts q 0 : Int) := by unfold zgY; split <;> omega
 rw [e]
theorem cmpL_lt : ∀ {a b : List Int}, a.length = b.length → decide (cmpL a b < 0) = ltL a b
 | [], [], _ => rfl
 | x :: a, y :: b, h => by
  have ih := cmpL_lt (a := a) (b := b) (by simpa using h);simp only [cmpL, ltL, zdh]
  by_cases e : x = y
  ·subst e; simp; rw [← ih]
  ·rw [if_neg e]
   by_cases h1 : x < y
   ·simp [h1]
   ·have h2 : y < x := by omega
    simp [h1, h2]
 | [], _ :: _, h => by simp at h
 | _ :: _, [], h => by simp at h
theorem before_eq (a b : List Int) : decide (orL [(a.length : Int) - (b.length : Int), cmpL a b] < 0) = zkh a b := by
 unfold zkh
 by_cases e : a.length = b.length
 ·rw [if_neg zq, ← cmpL_lt e];simp only [orL, show (a.length : Int) - (b.length : Int) = 0 by omega, ne_eq, not_true_eq_false, if_false]
  by_cases h : cmpL a b = 0 <;> simp [h]
 rw [if_pos e];simp only [orL, ne_eq, show ¬ (a.length : Int) - (b.length : Int) = 0 by omega, not_false_eq_true, if_true];rw [Bool.eq_iff_iff, decide_eq_true_eq, decide_eq_true_eq]; omega
theorem members_none {s : Int} {n k : Nat} (h0 : 0 ≤ s) (h1 : s < 2 ^ n) (hk : n ≤ k) : zjr s (k : Int) = 0 := by
 have h2 : (2 : Int) ^ n ≤ 2 ^ k := by
  have := Nat.pow_le_pow_right (n := 2) zq hk
  exact_mod_cast this
 rw [zjr, Int.toNat_natCast, Int.ediv_eq_zero_of_lt h0 zq]; rfl
theorem members_top {s : Int} {n : Nat} (h0 : 0 ≤ s) (h1 : s < 2 ^ n) : ∀ d, zbV s (n + d) = zbV s n
 | 0 => rfl
 | d + 1 => by
  rw [← Nat.add_assoc, zjQ, if_neg (by rw [members_none h0 h1 zq]; decide), List.append_nil];exact members_top h0 h1 d
theorem members_six {s : Int} {n : Nat} (h0 : 0 ≤ s) (h1 : s < 2 ^ n) (hn : n ≤ 6) : zbV s 6 = zbV s n := by
 have := members_top h0 h1 (6 - n);rwa [show n + (6 - n) = 6 by omega] at this
def zgy {α : Type} (lt : α → α → Bool) (l : List α) : Option α := l.foldl (fun o x => match o with | none => some x | some b => if lt x b = true then some x else some b) none
def zex {α : Type} (lt : α → α → Bool) (z : α) (l : List α) : α := (zgy lt l).getD z
theorem zfI {α : Type} (lt : α → α → Bool) (l : List α) (x : α) : zgy lt (l ++ [x]) = match zgy lt l with | none => some x | some b => if lt x b = true then some x else some b := by simp [zgy]
theorem zje {α : Type} {lt : α → α → Bool} : ∀ {l : List α}, (zgy lt l).isSome = !l.isEmpty := by
 intro l
 rcases List.eq_nil_or_concat l with rfl | ⟨l, x, rfl⟩
 ·rfl
 rw [List.concat_eq_append, zfI];cases zgy lt l with
 | none => simp
 | some b => simp only; split <;> simp
theorem first_one {α : Type} {lt : α → α → Bool} {z x : α} {l : List α} (h : (!l.isEmpty) = false) : zex lt z (l ++ [x]) = x := by
 have e := zje (lt := lt) (l := l);rw [h] at e;rw [zex, zfI];cases h2 : zgy lt l with
 | none => rfl
 | some b => rw [h2] at e; cases e
theorem first_new {α : Type} {lt : α → α → Bool} {z x : α} {l : List α} (h : (!l.isEmpty) = true) (hl : lt x (zex lt z l) = true) : zex lt z (l ++ [x]) = x := by
 have e := zje (lt := lt) (l := l);rw [h] at e;rw [zex] at hl ⊢;rw [zfI];cases h2 : zgy lt l with
 | none => rw [h2] at e; cases e
 | some b => rw [h2] at hl; simp only [Option.getD_some] at hl; simp [hl]
theorem first_old {α : Type} {lt : α → α → Bool} {z x : α} {l : List α} (h : (!l.isEmpty) = true) (hl : lt x (zex lt z l) = false) : zex lt z (l ++ [x]) = zex lt z l := by
 have e := zje (lt := lt) (l := l);rw [h] at e;rw [zex] at hl ⊢;rw [zex, zfI];cases h2 : zgy lt l with
 | none => rw [h2] at e; cases e
 | some b => rw [h2] at hl; simp only [Option.getD_some] at hl; simp [hl]
theorem firstO_mem {α : Type} {lt : α → α → Bool} : ∀ {l : List α} {o : Option α} {b : α}, l.foldl (fun o x => match o with | none => some x | some b => if lt x b = true then some x else some b) o = some b → b ∈ l ∨ o = some b
 | [], o, b, h => .inr h
 | x :: l, o, b, h => by
  rw [List.foldl_cons] at h
  rcases firstO_mem h with q | q
  ·exact .inl (List.mem_cons_of_mem _ q)
  ·cases o with
   | none => simp only [Option.some.injEq] at q; subst q; exact .inl List.mem_cons_self
   | some c =>
    simp only at q;split at q
    ·simp only [Option.some.injEq] at q; subst q; exact .inl List.mem_cons_self
    ·exact .inr q
theorem firstL_mem {α : Type} {lt : α → α → Bool} {z : α} {l : List α} (h : (!l.isEmpty) = true) : zex lt z l ∈ l := by
 have e := zje (lt := lt) (l := l);rw [h] at e;rw [zex];cases h2 : zgy lt l with
 | none => rw [h2] at e; cases e
 | some b =>
  rcases firstO_mem h2 with q | q
  ·exact q
  ·cases q
def askC (ts : List (List Int)) (n k : Nat) : List (List Int) := ((List.range k).filter fun (s : Nat) => zjM ts (zbV (s : Int) n)).map fun (s : Nat) => zbV (s : Int) n
theorem askC_succ (ts : List (List Int)) (n k : Nat) : askC ts n (k + 1) = askC ts n k ++ if zjM ts (zbV (k : Int) n) = true then [zbV (k : Int) n] else [] := by
 rw [askC, List.range_succ, List.filter_append, List.map_append, List.filter_cons, List.filter_nil, askC]
 by_cases h : zjM ts (zbV (k : Int) n) = true <;> simp [h]
theorem askK_first (ts : List (List Int)) (n : Nat) : ∀ k, zgy zkh (askC ts n k) = askK ts n k
 | 0 => rfl
 | k + 1 => by
  rw [askC_succ, askK, ← askK_first ts n k]
  by_cases h : zjM ts (zbV (k : Int) n) = true
  ·rw [if_pos h, zfI, h, Bool.and_true];cases zgy zkh (askC ts n k) with
   | none => rfl
   | some b => rfl
  ·rw [if_neg h, List.append_nil, Bool.not_eq_true] at *;rw [h, Bool.and_false]; rfl
def nextC (ts : List (List Int)) (k : Nat) : List Int := ((List.range k).filter fun (q : Nat) => decide (zcj ts q < (ts.length : Int))).map fun (q : Nat) => (q : Int)
theorem zjP (ts : List (List Int)) (k : Nat) : nextC ts (k + 1) = nextC ts k ++ if zcj ts k < (ts.length : Int) then [(k : Int)] else [] := by
 rw [nextC, List.range_succ, List.filter_append, List.map_append, List.filter_cons, List.filter_nil, nextC]
 by_cases h : zcj ts k < (ts.length : Int) <;> simp [h]
def worseB (ts : List (List Int)) (a b : Int) : Bool := decide (zcj ts a.toNat < zcj ts b.toNat)
theorem maxI_le {a b c : Int} (h1 : a ≤ c) (h2 : b ≤ c) : zgY a b ≤ c := by unfold zgY; split <;> omega
theorem worst_le (ts : List (List Int)) (q : Nat) : zcj ts q ≤ (ts.length : Int) := by
 have h : ∀ k, zhu ts q k ≤ (ts.length : Int) := by
  intro k
  induction k with
  | zero => simp [zhu]
  | succ k ih => exact maxI_le ih (by have := zfv ts q (k : Int); omega)
 exact h 3
theorem next_first (ts : List (List Int)) : ∀ k, zgy (worseB ts) (nextC ts (k + 1)) = if zcj ts (zes ts k) < (ts.length : Int) then some (zes ts k : Int) else none
 | 0 => by
  rw [zjP]
  by_cases h : zcj ts 0 < (ts.length : Int)
  ·simp [h, zes, nextC, zgy]
  ·simp [h, zes, nextC, zgy]
 | k + 1 => by
  rw [zjP, zes];have ih := next_first ts k;have h1 := worst_le ts (k + 1);have h2 := worst_le ts (zes ts k)
  by_cases a : zcj ts (k + 1) < zcj ts (zes ts k)
  ·rw [if_pos a, if_pos (show zcj ts (k + 1) < (ts.length : Int) by omega), zfI, ih]
   by_cases b : zcj ts (zes ts k) < (ts.length : Int)
   ·rw [if_pos b];rw [if_pos (show zcj ts (k + 1) < (ts.length : Int) by omega)];simp only [worseB, Int.toNat_natCast, decide_eq_true a, if_true]
   ·rw [if_neg b, if_pos (show zcj ts (k + 1) < (ts.length : Int) by omega)]
  ·rw [if_neg a]
   by_cases b : zcj ts (zes ts k) < (ts.length : Int)
   ·by_cases c : zcj ts (k + 1) < (ts.length : Int)
    ·rw [if_pos c, zfI, ih, if_pos b];simp only [worseB, Int.toNat_natCast, decide_eq_false a, Bool.false_eq_true, if_false]
    ·rw [if_neg c, List.append_nil, ih]
   ·rw [if_neg (show ¬ zcj ts (k + 1) < (ts.length : Int) by omega), List.append_nil, ih]
theorem candL_nodup : ∀ ns : List Nat, (zca ns).Nodup
 | [] => by simp [zca]
 | n :: ns => by
  rw [zca, List.Nodup, List.pairwise_flatMap];refine ⟨fun h _ => ?_, ?_⟩
  ·rw [List.pairwise_map];exact (candL_nodup ns).imp fun hne e => hne (by simpa using e)
  ·refine (List.nodup_range (n := n)).imp fun hne => ?_;intro x hx y hy e;obtain ⟨t, _, rfl⟩ := List.mem_map.1 hx;obtain ⟨u, _, rfl⟩ := List.mem_map.1 hy;simp only [List.cons.injEq] at e;exact hne zq
theorem truths_nodup (p : Poll) : (zF p).Nodup := (candL_nodup _).filter _
theorem cnt_all {ts : List (List Int)} {q : Nat} {h : Int} (e : zgh ts q h = ts.length) {t : List Int} (ht : t ∈ ts) : t[q]? = some h := by
 have := List.length_filter_eq_length_iff.1 e t ht;simpa using this
theorem worst_all {ts : List (List Int)} {q : Nat} (h : ¬ zcj ts q < (ts.length : Int)) (h0 : 0 < ts.length) : ∃ a : Int, ∀ t ∈ ts, t[q]? = some a := by
 have h1 := worst_le ts q;have h2 : zcj ts q = (ts.length : Int) := by omega
 have h3 : zcj ts q = zgY (zgY (zgY 0 (zgh ts q 0 : Int)) (zgh ts q 1 : Int)) (zgh ts q 2 : Int) := rfl;have a0 := zfv ts q 0;have a1 := zfv ts q 1;have a2 := zfv ts q 2;have : zgh ts q 0 = ts.length ∨ zgh ts q 1 = ts.length ∨ zgh ts q 2 = ts.length := by
  have h4 : ∀ a b c : Int, zgY a b = c → a = c ∨ b = c := by intro a b c e; unfold zgY at e; split at e <;> simp [e]
  rw [h3] at h2
  rcases h4 _ _ _ h2 with e | e
  ·rcases h4 _ _ _ e with e | e
   ·rcases h4 _ _ _ e with e | e
    ·omega
    ·left; omega
   ·right; left; omega
  ·right; right; omega
 rcases this with e | e | e
 ·exact ⟨0, fun t ht => cnt_all e ht⟩
 ·exact ⟨1, fun t ht => cnt_all e ht⟩
 exact ⟨2, fun t ht => cnt_all e ht⟩
theorem nextK_small {p : Poll} (hl : 1 < (zF p).length) : zcj (zF p) (zes (zF p) (p.questions.length - 1)) < ((zF p).length : Int) := by
 refine Classical.byContradiction fun hc => ?_
 -- all questions leave all
 have h1 : ∀ k q, q ≤ k → zcj (zF p) (zes (zF p) k) ≤ zcj (zF p) q := by
  intro k
  induction k with
  | zero =>
   intro q hq;obtain rfl : q = 0 := by omega
   exact Int.le_refl _
  | succ k ih =>
   intro q hq;rw [zes]
   by_cases a : zcj (zF p) (k + 1) < zcj (zF p) (zes (zF p) k)
   ·rw [if_pos a]
    by_cases e : q = k + 1
    ·subst e; exact Int.le_refl _
    ·exact Int.le_trans (Int.le_of_lt a) (ih q zq)
   ·rw [if_neg a]
    by_cases e : q = k + 1
    ·subst e; omega
    ·exact ih q zq
 obtain ⟨t0, h0⟩ : ∃ t, (zF p)[0]? = some t := ⟨_, List.getElem?_eq_getElem zq⟩;obtain ⟨t1, h2⟩ : ∃ t, (zF p)[1]? = some t := ⟨_, List.getElem?_eq_getElem zq⟩;have m0 := List.mem_of_getElem? h0;have m1 := List.mem_of_getElem? h2;have hne : t0 = t1 := by
  refine List.ext_getElem? fun q => ?_
  by_cases hq : q < p.questions.length
  ·obtain ⟨a, ha⟩ := worst_all (ts := zF p) (q := q) (by have := h1 (p.questions.length - 1) q zq; omega) zq;rw [ha t0 m0, ha t1 m1]
  ·rw [List.getElem?_eq_none (by rw [zdE m0]; omega), List.getElem?_eq_none (by rw [zdE m1]; omega)]
 have hn := truths_nodup p;subst hne;have e0 := (List.getElem?_eq_some_iff.1 h0).2;have e1 := (List.getElem?_eq_some_iff.1 h2).2;have := (List.nodup_iff_pairwise_ne.1 hn);rw [List.pairwise_iff_getElem] at this;exact this 0 1 zq zq zq (by rw [e0, e1])
theorem next_ok {p : Poll} (hl : 1 < (zF p).length) (hq : 0 < p.questions.length) : zex (worseB (zF p)) 0 (nextC (zF p) p.questions.length) = (zes (zF p) (p.questions.length - 1) : Int) := by
 have h := next_first (zF p) (p.questions.length - 1);rw [show p.questions.length - 1 + 1 = p.questions.length by omega, if_pos (nextK_small hl)] at h;rw [zex, h]; rfl
def zft (t : List Int) (s : Int) (k j : Nat) : Int := if j < k then (t[j]?).getD 0 * zjr s (j : Int) else 0
def zjw (t : List Int) (s : Int) (k : Nat) : Six := ⟨zft t s k 0, zft t s k 1, zft t s k 2, zft t s k 3, zft t s k 4, zft t s k 5⟩
theorem ziu {t : List Int} {s : Int} {k j : Nat} (h : ¬ j = k) : zft t s (k + 1) j = zft t s k j := by
 unfold zft
 by_cases e : j < k
 ·rw [if_pos e, if_pos zq]
 rw [if_neg e, if_neg zq]
theorem sixAt_new {t : List Int} {s x : Int} {k : Nat} (h : t[k]? = some x) : zft t s (k + 1) k = x * zjr s (k : Int) := by
 rw [zft, if_pos zq, h]; rfl
theorem bit_01 {s : Int} {j : Int} : zjr s j = 0 ∨ zjr s j = 1 := by rw [zjr]; omega
theorem zhz {t : List Int} {s x : Int} {k j : Nat} (hj : j = k) (h : t[k]? = some x) : zft t s (k + 1) j = x * zjr s (k : Int) := by subst hj; exact sixAt_new h
theorem sixK_len {t : List Int} {s : Int} (h : t.length ≤ 6) : zjw t s t.length = zjw t s 6 := by
 have e : ∀ j, j < 6 → zft t s t.length j = zft t s 6 j := by
  intro j hj;rw [zft, zft, if_pos hj]
  by_cases q : j < t.length
  ·rw [if_pos q]
  ·rw [if_neg q, List.getElem?_eq_none zq]; simp
 simp only [zjw, e 0 zq, e 1 zq, e 2 zq, e 3 zq, e 4 zq, e 5 zq]
theorem six_alike6 {t u : List Int} {s : Int} (ht : t.length ≤ 6) (hu : t.length = u.length) : alikeL t u (zbV s 6) = decide (zjw t s 6 = zjw u s 6) := by
 have hk : ∀ j : Nat, j < 6 → zjr s (j : Int) = 1 → (zft t s 6 j = zft u s 6 j ↔ t[j]? = u[j]?) := by
  intro j hj hb;rw [zft, zft, if_pos hj, if_pos hj, hb, Int.mul_one, Int.mul_one]
  by_cases q : j < t.length
  ·rw [List.getElem?_eq_getElem q, List.getElem?_eq_getElem zq]; simp
  ·rw [List.getElem?_eq_none zq, List.getElem?_eq_none zq]; simp
 rw [Bool.eq_iff_iff, decide_eq_true_eq, alikeL, List.all_eq_true];have key : (∀ k ∈ zbV s 6, decide (t[k.toNat]? = u[k.toNat]?) = true) ↔ ∀ j, j < 6 → zft t s 6 j = zft u s 6 j := by
  constructor
  ·intro h j hj
   rcases bit_01 (s := s) (j := (j : Int)) with b | b
   ·rw [zft, zft, if_pos hj, if_pos hj, b, Int.mul_zero, Int.mul_zero]
   ·refine (hk j hj b).2 ?_;have := h (j : Int) (List.mem_map.2 ⟨j, List.mem_filter.2 ⟨List.mem_range.2 hj, by simpa using b⟩, rfl⟩);simpa using this
  ·intro h k hk';obtain ⟨j, hj, rfl⟩ := List.mem_map.1 hk';have h1 := List.mem_range.1 (List.mem_filter.1 hj).1;have h2 := (List.mem_filter.1 hj).2;simp only [decide_eq_true_eq] at h2;have := (hk j h1 h2).1 (h j h1);simpa using this
 rw [key];constructor
 ·intro h;simp only [zjw, h 0 zq, h 1 zq, h 2 zq, h 3 zq, h 4 zq, h 5 zq]
 intro h j hj;simp only [zjw, Six.mk.injEq] at h;obtain ⟨a0, a1, a2, a3, a4, a5⟩ := h
 match j, hj with
 | 0, _ => exact a0
 | 1, _ => exact a1
 | 2, _ => exact a2
 | 3, _ => exact a3
 | 4, _ => exact a4
 | 5, _ => exact a5
 | j + 6, hj => omega
def sixM (ts : List (List Int)) (s : Int) (i : Nat) (x : Six) : Option Bool := if ((ts.take i).any fun u => decide (zjw u s 6 = x)) = true then some true else none
theorem sixM_succ {ts : List (List Int)} {s : Int} {i : Nat} {t : List Int} (ht : ts[i]? = some t) (x : Six) : sixM ts s (i + 1) x = if x = zjw t s 6 then some true else sixM ts s i x := by
 rw [sixM, sixM, any_snoc ht]
 by_cases e : x = zjw t s 6
 ·rw [if_pos e, e]; simp
 rw [if_neg e, decide_eq_false (fun q => e q.symm), Bool.or_false]
theorem tells_next {ts : List (List Int)} {s : Int} {i : Nat} {t : List Int} (hl : ∀ t ∈ ts, t.length ≤ 6) (he : ∀ t ∈ ts, ∀ u ∈ ts, t.length = u.length) (ht : ts[i]? = some t) (h : (sixM ts s i (zjw t s 6)).getD false = false) : zjN ts (zbV s 6) i = true := by
 simp only [zjN, ht, List.all_eq_true];intro u hu;have hm := List.mem_of_getElem? ht;rw [six_alike6 (hl t hm) (he t hm u (List.mem_of_mem_take hu))];rw [sixM] at h;split at h
 ·cases h
 rename_i q;simp only [Bool.not_eq_true, List.any_eq_false, decide_eq_true_eq] at q;simp only [Bool.not_eq_true', decide_eq_false_iff_not];exact fun e => q u hu e.symm
theorem tells_stop {ts : List (List Int)} {s : Int} {i : Nat} {t : List Int} (hl : ∀ t ∈ ts, t.length ≤ 6) (he : ∀ t ∈ ts, ∀ u ∈ ts, t.length = u.length) (ht : ts[i]? = some t) (h : (sixM ts s i (zjw t s 6)).getD false = true) : zjM ts (zbV s 6) = false := by
 refine tells_no (i := i) ?_;simp only [zjN, ht];rw [sixM] at h;split at h
 ·rename_i q;obtain ⟨u, hu, e⟩ := List.any_eq_true.1 q;have hm := List.mem_of_getElem? ht;refine List.all_eq_false.2 ⟨u, hu, ?_⟩;rw [six_alike6 (hl t hm) (he t hm u (List.mem_of_mem_take hu))];simp only [decide_eq_true_eq] at e;simp [e]
 cases h
theorem sixM_none {ts : List (List Int)} {s : Int} {i : Nat} {x : Six} (h : (sixM ts s i x).getD false = false) : sixM ts s i x = none := by
 rw [sixM] at h ⊢;split at h
 ·cases h
 rename_i q; rw [if_neg q]
theorem askC_six {ts : List (List Int)} {n : Nat} (hn : n ≤ 6) : ∀ k, k ≤ 2 ^ n → askC ts 6 k = askC ts n k := by
 intro k hk;rw [askC, askC];have e : ∀ s ∈ List.range k, zbV (s : Int) 6 = zbV (s : Int) n := by
  intro s hs;have := List.mem_range.1 hs;refine members_six zq ?_ hn;have h2 : (s : Int) < ((2 ^ n : Nat) : Int) := by omega
  exact_mod_cast h2
 rw [List.filter_congr (q := fun (s : Nat) => zjM ts (zbV (s : Int) n)) fun s hs => by rw [e s hs]];exact List.map_congr_left fun s hs => e s (List.mem_filter.1 hs).1
theorem cnt_up {ts : List (List Int)} {i q : Nat} {t : List Int} {a : Int} (ht : ts[i]? = some t) (ha : t[q]? = some a) (h : Int) : ((zgh (ts.take (i + 1)) q h : Nat) : Int) = ((zgh (ts.take i) q h : Nat) : Int) + if a = h then 1 else 0 := by
 rw [cntH_snoc ht, ha]
 by_cases e : a = h <;> simp [e]
theorem next_pos {p : Poll} (h : 1 < (zF p).length) : 0 < p.questions.length := by
 refine Classical.byContradiction fun q => ?_;have e : p.questions = [] := List.eq_nil_of_length_eq_zero zq;have h2 : (zF p).length ≤ 1 := by
  rw [zF, zbs, e];exact List.length_filter_le _ _
 omega
theorem zhc {p : Poll} (hp : zcT p = true) {ls : List (List Int)} (hl : ∀ t ∈ ls, t ∈ zF p) {a : Int} (h0 : 0 ≤ a) (h1 : a < (p.questions.length : Int)) : ∀ t ∈ ls, ∃ x, t[a.toNat]? = some x ∧ 0 ≤ x ∧ x < 3 := by
 intro t ht;obtain ⟨q, hq⟩ : ∃ q, p.questions[a.toNat]? = some q := ⟨_, List.getElem?_eq_getElem zq⟩;obtain ⟨x, hx, h2, h3⟩ := truth_at (hl t ht) hq;have := (zeW hp hq).2.2.1;exact ⟨x, hx, h2, by omega⟩
theorem truths_small {p : Poll} (hp : zcT p = true) {ls : List (List Int)} (hl : ∀ t ∈ ls, t ∈ zF p) : ∀ t ∈ ls, ∀ a ∈ t, 0 ≤ a ∧ a ≤ 1000 := by
 intro t ht a ha;obtain ⟨k, hk⟩ := List.mem_iff_getElem?.1 ha;have hlt := (List.getElem?_eq_some_iff.1 hk).1;rw [zdE (hl t ht)] at hlt;obtain ⟨x, hx, h2, h3⟩ := zhc hp hl (a := (k : Int)) zq zq t ht;rw [Int.toNat_natCast, hk] at hx;cases hx;omega
end Go.Pk

namespace Go.Pk
open Go Go.RowKit
def decD (x : Lexicon) (q : Question) (hd : Head) : Decision := ⟨mostN x.decisions + 1, 3, [], q.at_, hd, 0⟩
def decN (n : Int) (q : Question) (hd : Head) : Decision := ⟨n, 3, [], q.at_, hd, 0⟩
def decQ (p : Poll) (x : Lexicon) (q : Question) (h : Int) : Lexicon × Int :=
 if h < 0 then (x, 0) else if (zgC p.text x q.at_).to = (q.heads[h.toNat]?).getD zdv then (x, 0)
 else (ziR p.text x (decD x q ((q.heads[h.toNat]?).getD zdv)), zho p.text x (decD x q ((q.heads[h.toNat]?).getD zdv)))
def zfK (p : Poll) (s : List Int) : Nat → Lexicon × Int
 | 0 => (p.lexicon, 0)
 | k + 1 => if (zfK p s k).2 = 0 then (match p.questions[k]?, s[k]? with
  | some q, some h => decQ p (zfK p s k).1 q h
  | _, _ => zfK p s k) else zfK p s k
def zeE (p : Poll) : Int := if zco p true = 0 then (zfK p (zbT (zF p)) (zbT (zF p)).length).2 else zco p true
def zdK (p : Poll) : Lexicon := if zco p true = 0 then (zfK p (zbT (zF p)) (zbT (zF p)).length).1 else zfz
variable {p : Poll} {s : List Int} {k : Nat} {x : Lexicon} {q : Question} {h : Int} {hd : Head}
theorem dec_skip (a : zfK p s k = (x, 0)) (hq : p.questions[k]? = some q) (hs : s[k]? = some h) (h0 : h < 0) : zfK p s (k + 1) = (x, 0) := by
 simp only [zfK, a, if_true, hq, hs, decQ, if_pos h0]
theorem dec_same (a : zfK p s k = (x, 0)) (hq : p.questions[k]? = some q) (hs : s[k]? = some h) (h0 : ¬ h < 0) (hh : q.heads[h.toNat]? = some hd) (e : (zgC p.text x q.at_).to = hd) : zfK p s (k + 1) = (x, 0) := by
 simp only [zfK, a, if_true, hq, hs, decQ, if_neg h0, hh, Option.getD_some, if_pos e]
theorem dec_add (a : zfK p s k = (x, 0)) (hq : p.questions[k]? = some q) (hs : s[k]? = some h) (h0 : ¬ h < 0) (hh : q.heads[h.toNat]? = some hd) (e : ¬ (zgC p.text x q.at_).to = hd) : zfK p s (k + 1) = (ziR p.text x (decD x q hd), zho p.text x (decD x q hd)) := by
 simp only [zfK, a, if_true, hq, hs, decQ, if_neg h0, hh, Option.getD_some, if_neg e]
theorem dec_stop (e : ¬ (zfK p s k).2 = 0) : ∀ d, zfK p s (k + d) = zfK p s k
 | 0 => rfl
 | d + 1 => by rw [← Nat.add_assoc, zfK, dec_stop e d, if_neg e]
theorem addN_bad {t : Text} {d : Decision} (e : ¬ zho t x d = 0) : ziR t x d = zfz := by rw [ziR, if_neg e]
theorem dec_err (a : zfK p s k = (x, 0)) (hq : p.questions[k]? = some q) (hs : s[k]? = some h) (h0 : ¬ h < 0) (hh : q.heads[h.toNat]? = some hd) (e : ¬ (zgC p.text x q.at_).to = hd) (e2 : ¬ zho p.text x (decD x q hd) = 0) : zfK p s s.length = (zfz, zho p.text x (decD x q hd)) := by
 have h1 := dec_add a hq hs h0 hh e;have hk := (List.getElem?_eq_some_iff.1 hs).1;have := dec_stop (p := p) (s := s) (k := k + 1) (by rw [h1]; exact e2) (s.length - (k + 1));rw [show k + 1 + (s.length - (k + 1)) = s.length by omega] at this;rw [this, h1, addN_bad e2]
theorem dec_check (hx : zaL p.text p.lexicon = 0) : ∀ k, (zfK p s k).2 = 0 → zaL p.text (zfK p s k).1 = 0
 | 0, _ => hx
 | k + 1, e => by
  have ih := dec_check hx k;rw [zfK] at e ⊢
  by_cases h0 : (zfK p s k).2 = 0
  ·rw [if_pos h0] at e ⊢;split at e
   ·rename_i q h hq hs;unfold decQ at e ⊢;split at e
    ·rename_i c; rw [if_pos c]; exact ih h0
    ·rename_i c;rw [if_neg c];split at e
     ·rename_i c2; rw [if_pos c2]; exact ih h0
     ·rename_i c2; rw [if_neg c2]; exact addN_check e
   ·exact ih h0
  ·rw [if_neg h0] at e; exact absurd e h0
theorem dec_ok (hx : zaL p.text p.lexicon = 0) (a : zfK p s k = (x, 0)) : zaL p.text x = 0 := by
 have := dec_check (s := s) hx k;rw [a] at this; exact this rfl
def nextN (l : List Decision) : Int := mostN l + 1
theorem nextN_snoc {l : List Decision} {k : Nat} {d : Decision} (h : l[k]? = some d) : zgY (nextN (l.take k)) (d.number + 1) = nextN (l.take (k + 1)) := by
 rw [nextN, nextN, mostN_snoc h, zgY]; split <;> omega
theorem nextN_eq {l : List Decision} {k : Nat} (h : l.length ≤ k) : nextN (l.take k) = mostN l + 1 := by rw [List.take_of_length_le h]; rfl
theorem mostN_le' (hx : OkD x) (k : Nat) : mostN (x.decisions.take k) ≤ 999 := fold_max_le _ _ _ zq fun d hd => (hx.2 d (List.mem_of_mem_take hd)).2.1
theorem nextN_le (hx : OkD x) (k : Nat) : 1 ≤ nextN (x.decisions.take k) ∧ nextN (x.decisions.take k) ≤ 1000 := by
 have := mostN_le' hx k;have := mostN_pos (x.decisions.take k);rw [nextN]; omega
def mootB (p : Poll) (s : List Int) (k : Nat) (w : Str) : Bool := match p.questions[k]?, s[k]? with
 | some q, some h => decide (h < 0) && decide (zct p.text q.at_ = w)
 | _, _ => false
def zgn (p : Poll) (s : List Int) (n : Nat) (w : Str) : Bool := (List.range n).any fun k => mootB p s k w
theorem moot_succ (p : Poll) (s : List Int) (n : Nat) (w : Str) : zgn p s (n + 1) w = (zgn p s n w || mootB p s n w) := by simp [zgn, List.range_succ, List.any_append]
theorem moot_at {p : Poll} {s : List Int} {n : Nat} {w : Str} {q : Question} {h : Int} (hq : p.questions[n]? = some q) (hs : s[n]? = some h) : zgn p s (n + 1) w = (zgn p s n w || (decide (h < 0) && decide (zct p.text q.at_ = w))) := by
 rw [moot_succ, mootB, hq, hs]
def mootR (p : Poll) : List Str := if zco p true = 0 then (zfh p.text p.lexicon).filter (zgn p (zbT (zF p)) (zbT (zF p)).length) else []
def zhw (ws : List Str) (p : Poll) (s : List Int) (n : Nat) (w : Str) : Option Bool := if w ∈ ws ∧ zgn p s n w = false then some true else none
theorem still_skip {ws : List Str} {p : Poll} {s : List Int} {n : Nat} {q : Question} {h : Int} (hq : p.questions[n]? = some q) (hs : s[n]? = some h) (h0 : ¬ h < 0) {m : List (Str × Bool)} (hm : ∀ w, zbN m w = zhw ws p s n w) : ∀ w, zbN m w = zhw ws p s (n + 1) w := by
 intro w;rw [hm, zhw, zhw, moot_at hq hs, decide_eq_false h0]; simp
theorem still_del {ws : List Str} {p : Poll} {s : List Int} {n : Nat} {q : Question} {h : Int} (hq : p.questions[n]? = some q) (hs : s[n]? = some h) (h0 : h < 0) {m : List (Str × Bool)} (hm : ∀ w, zbN m w = zhw ws p s n w) : ∀ w, zbN (delM m (zct p.text q.at_)) w = zhw ws p s (n + 1) w := by
 intro w;rw [look_delM, hm, zhw, zhw, moot_at hq hs, decide_eq_true h0, Bool.true_and]
 by_cases e : w = zct p.text q.at_
 ·subst e; simp
 rw [if_neg e, decide_eq_false (fun q => e q.symm), Bool.or_false]
theorem still_put {ws : List Str} {k : Nat} {w0 : Str} (h : ws[k]? = some w0) {m : List (Str × Bool)} (hm : ∀ w, zbN m w = if w ∈ ws.take k then some true else none) : ∀ w, zbN (zgX m w0 true) w = if w ∈ ws.take (k + 1) then some true else none := by
 intro w;rw [zjA, zbg h, hm]
 by_cases e : w = w0
 ·subst e; simp
 simp [e]
theorem still_zero {ws : List Str} {k : Nat} (hk : ws.length ≤ k) {p : Poll} {s : List Int} {m : List (Str × Bool)} (hm : ∀ w, zbN m w = if w ∈ ws.take k then some true else none) : ∀ w, zbN m w = zhw ws p s 0 w := by
 intro w;rw [hm, List.take_of_length_le hk, zhw];simp [zgn]
theorem still_filter {ws : List Str} {p : Poll} {s : List Int} {n : Nat} {m : List (Str × Bool)} (hm : ∀ w, zbN m w = zhw ws p s n w) : ws.filter (fun w => !(zbN m w).getD false) = ws.filter (zgn p s n) := by
 refine List.filter_congr fun w hw => ?_;rw [hm, zhw];cases e : zgn p s n w <;> simp [hw]
end Go.Pk

namespace Go.Pk
open Go Go.RowKit
def dPE : Decision := ⟨1, 3, [], ⟨1, 0, 2⟩, ⟨zic, 2⟩, 0⟩
def zfS (more : List Decision) : Lexicon := ⟨[], dPE :: more⟩
def seaSee : List Head := [⟨zbF, 1⟩, ⟨zic, 2⟩]
def questsE : List Question := [⟨⟨0, 0, 1⟩, seaSee⟩, ⟨⟨0, 0, 3⟩, [⟨wAge, 3⟩, ⟨zeF, 0⟩]⟩, ⟨⟨1, 0, 0⟩, seaSee⟩]
def zhG : List Voter := [⟨5, 0, [-1, 1, -1]⟩, ⟨2, 1, [0, 0, 0]⟩, ⟨8, 1, [0, -1, 1]⟩]
def zaX : Poll := ⟨zix, zfS [], questsE, zhG⟩
def zfg : Poll := ⟨zix, zfS [], questsE, zhG.drop 1⟩
theorem checkLP : zaL zix (zfS []) = 0 := by decide +kernel
theorem zjV : zbL zaX = 0 := by decide +kernel
theorem checkP2 : zbL zfg = 0 := by decide +kernel
theorem zik : zF zaX = [[0, 1, 0]] := by decide +kernel
theorem zjL : zF zfg = [[0, 0, 0], [0, 0, 1], [0, 1, 0]] := by decide +kernel
theorem allEE : zco zaX true = 0 := by rw [zco, if_neg (by rw [zjV]; decide), if_neg (by decide), zik]; rfl
theorem allE2 : zco zfg true = 0 := by rw [zco, if_neg (by rw [checkP2]; decide), if_neg (by decide), zjL]; rfl
theorem setE : zbT (zF zaX) = [0, 1, 0] := by rw [zik]; decide +kernel
theorem set2 : zbT (zF zfg) = [0, -1, -1] := by rw [zjL]; decide +kernel
def e1E : Decision := ⟨2, 3, [], ⟨0, 0, 1⟩, ⟨zbF, 1⟩, 0⟩
def e2E : Decision := ⟨3, 3, [], ⟨1, 0, 0⟩, ⟨zbF, 1⟩, 0⟩
theorem addP1 : zho zix (zfS []) e1E = 0 := by decide +kernel
theorem addP2 : zho zix (zfS [e1E]) e2E = 0 := by decide +kernel
theorem addXP1 : addX (zfS []) e1E = zfS [e1E] := addX_eq (ys := [dPE, e1E]) (List.Perm.refl _) (by decide +kernel) (by decide +kernel)
theorem addXP2 : addX (zfS [e1E]) e2E = zfS [e1E, e2E] := addX_eq (ys := [dPE, e1E, e2E]) (List.Perm.refl _) (by decide +kernel) (by decide +kernel)
theorem checkLP1 : zaL zix (zfS [e1E]) = 0 := by decide +kernel
theorem dec1 : zfK zaX [0, 1, 0] 1 = (zfS [e1E], 0) := by
 rw [dec_add (p := zaX) (s := [0, 1, 0]) (k := 0) (x := zfS []) (hd := ⟨zbF, 1⟩) rfl rfl rfl (by decide) rfl (by show ¬ (zgC zix (zfS []) _).to = _; rw [askR_eq checkLP (by decide +kernel)]; decide +kernel)];rw [show decD (zfS []) ⟨⟨0, 0, 1⟩, seaSee⟩ ⟨zbF, 1⟩ = e1E by decide +kernel];show (ziR zix (zfS []) e1E, zho zix (zfS []) e1E) = _;rw [ziR, if_pos addP1, addXP1, addP1]
theorem dec2 : zfK zaX [0, 1, 0] 2 = (zfS [e1E], 0) :=
 dec_same (p := zaX) (s := [0, 1, 0]) (k := 1) (hd := ⟨zeF, 0⟩) dec1 rfl rfl (by decide) rfl (by
  show (zgC zix (zfS [e1E]) _).to = _;rw [askR_eq checkLP1 (by decide +kernel)]; decide +kernel)
theorem dec3 : zfK zaX [0, 1, 0] 3 = (zfS [e1E, e2E], 0) := by
 rw [dec_add (p := zaX) (s := [0, 1, 0]) (k := 2) (hd := ⟨zbF, 1⟩) dec2 rfl rfl (by decide) rfl (by
  show ¬ (zgC zix (zfS [e1E]) _).to = _;rw [askR_eq checkLP1 (by decide +kernel)]; decide +kernel)]
 rw [show decD (zfS [e1E]) ⟨⟨1, 0, 0⟩, seaSee⟩ ⟨zbF, 1⟩ = e2E by decide +kernel];show (ziR zix (zfS [e1E]) e2E, zho zix (zfS [e1E]) e2E) = _;rw [ziR, if_pos addP2, addXP2, addP2]
theorem decideEE : zeE zaX = 0 ∧ zdK zaX = zfS [e1E, e2E] := by
 rw [zeE, zdK, if_pos allEE, if_pos allEE, setE];exact ⟨congrArg Prod.snd dec3, congrArg Prod.fst dec3⟩
theorem homP : zfh zix (zfS []) = [zbF] := by rw [homV_eq checkLP]; decide +kernel
theorem moot2 : mootR zfg = [zbF] := by
 rw [mootR, if_pos allE2, set2];show (zfh zix (zfS [])).filter _ = _;rw [homP]; decide +kernel
theorem ex_01 : (if zbL zfg = 0 then ((zF zfg).length : Int) else 0) = 3 := by rw [if_pos checkP2, zjL]; rfl
theorem ex_02 : ((zem zaX true)[0]?).getD [] = [0, 1, 0] := by rw [zem, if_pos allEE, zik]; rfl
theorem in_ok {p : Poll} {n m : Int} (h : zco p true = 0) (h1 : inB n 0 m = true) : zco p (inB n 0 m) = 0 := by rw [h1]; exact h
theorem ex_03 : zco zfg (inB 1 0 ((zfg.questions.length : Int) - 1)) = 0 := in_ok allE2 (by decide +kernel)
theorem ex_04 : openR zfg 1 = [0, 1] := by rw [openR, if_pos ex_03, zjL]; decide +kernel
theorem ex_05 : zdM zfg = [0, -1, -1] := by rw [zdM, if_pos allE2, set2]
theorem ex_06 : zco zaX (inB 1 0 ((zaX.voters.length : Int) - 1)) = 0 := in_ok allEE (by decide +kernel)
theorem ex_07 : zfq zaX 1 = ⟨1, 1⟩ := by rw [zfq, if_pos ex_06, zik]; decide +kernel
theorem ex_08 : zge zaX 0 = 0 := by rw [zge, if_neg (by rw [zjV]; decide), if_pos (by decide +kernel)]
theorem ex_09 : ziy zaX 0 = [2, 0] := by rw [ziy, if_pos ex_08]; decide +kernel
theorem ex_10 : askR7 zfg = [1, 2] := by rw [askR7, if_pos allE2, zjL]; decide +kernel
theorem ex_11 : nextE zfg = 0 := by rw [nextE, if_neg (by rw [allE2]; decide), zjL]; rfl
theorem ex_12 : zja zfg = 1 := by rw [zja, if_pos ex_11, zjL]; decide +kernel
theorem ex_13 : ((zdK zaX).decisions.length : Int) = 3 := by rw [decideEE.2]; rfl
end Go.Pk

namespace Go.Pk
open Go Go.RowKit
def zgO (l : List (List Int)) (n : Nat) : List (List Int) := l.flatMap fun x => (List.range n).map fun (h : Nat) => x ++ [(h : Int)]
theorem flat_flat {α β γ : Type} (f : α → List β) (g : β → List γ) : ∀ l : List α, (l.flatMap f).flatMap g = l.flatMap fun a => (f a).flatMap g
 | [] => rfl
 | a :: l => by rw [List.flatMap_cons, List.flatMap_cons, List.flatMap_append, flat_flat f g l]
theorem flat_map {α β γ : Type} (f : α → β) (g : β → List γ) : ∀ l : List α, (l.map f).flatMap g = l.flatMap fun a => g (f a)
 | [] => rfl
 | a :: l => by rw [List.map_cons, List.flatMap_cons, List.flatMap_cons, flat_map f g l]
theorem candL_snoc : ∀ (ns : List Nat) (n : Nat), zca (ns ++ [n]) = zgO (zca ns) n
 | [], n => by
  simp only [List.nil_append, zca, zgO, List.map_cons, List.map_nil, List.flatMap_cons, List.flatMap_nil, List.append_nil]
  induction List.range n with
  | nil => rfl
  | cons a l ih => simp [List.flatMap_cons, ih]
 | m :: ns, n => by
  rw [List.cons_append, zca, candL_snoc ns n, zca]
  conv => rhs; rw [zgO, flat_flat]
  refine zjS fun h _ => ?_;rw [zgO, map_flat, flat_map];refine zjS fun x _ => ?_;rw [List.map_map];refine List.map_congr_left fun k _ => ?_;simp
theorem cand_take {p : Poll} {k : Nat} {q : Question} (hq : p.questions[k]? = some q) : zca ((zbs p).take (k + 1)) = zgO (zca ((zbs p).take k)) q.heads.length := by
 rw [zbg (sizes_at hq), candL_snoc]
theorem candX_snoc {l : List (List Int)} {i n : Nat} {x : List Int} (hx : l[i]? = some x) : zgO (l.take (i + 1)) n = zgO (l.take i) n ++ (List.range n).map fun (h : Nat) => x ++ [(h : Int)] := by
 rw [zgO, zbg hx, List.flatMap_append]; simp [zgO]
def heads1 (x : List Int) (h : Nat) : List (List Int) := (List.range h).map fun (h : Nat) => x ++ [(h : Int)]
theorem heads1_succ (x : List Int) (h : Nat) : heads1 x (h + 1) = heads1 x h ++ [x ++ [(h : Int)]] := by simp [heads1, List.range_succ]
theorem candX_len (l : List (List Int)) (n : Nat) : (zgO l n).length = l.length * n := by
 induction l with
 | nil => simp [zgO]
 | cons a l ih =>
  have e : zgO (a :: l) n = ((List.range n).map fun (h : Nat) => a ++ [(h : Int)]) ++ zgO l n := by simp [zgO]
  rw [e, List.length_append, ih];simp [Nat.succ_mul]; omega
theorem setL_at {ts : List (List Int)} {a0 : List Int} (h0 : ts[0]? = some a0) {k : Nat} {h : Int} (e : (zbT ts)[k]? = some h) : ∃ a, a0[k]? = some a ∧ h = if (ts.all fun t => decide (t[k]? = some a)) = true then a else -1 := by
 rw [zbT, h0] at e;have hk : k < a0.length := by
  have := (List.getElem?_eq_some_iff.1 e).1;rwa [zgl] at this
 rw [setK_get hk] at e;refine ⟨_, List.getElem?_eq_getElem hk, ?_⟩;have e2 := Option.some.inj e;rw [← e2, setAt, List.getElem?_eq_getElem hk]
theorem set_pos {ts : List (List Int)} {k : Nat} {h : Int} (e : (zbT ts)[k]? = some h) (hp : 0 ≤ h) : ∀ t ∈ ts, t[k]? = some h := by
 cases h0 : ts[0]? with
 | none => rw [zbT, h0] at e; cases e
 | some a0 =>
  obtain ⟨a, ha, q⟩ := setL_at h0 e;split at q
  ·rename_i c;subst q;intro t ht;simpa using List.all_eq_true.1 c t ht
  ·omega
theorem set_len7 {p : Poll} (hn : zF p ≠ []) : (zbT (zF p)).length = p.questions.length := by
 cases e : zF p with
 | nil => exact absurd e hn
 | cons a0 ts =>
  show (setK (a0 :: ts) a0).length = _;rw [zgl]; exact zdE (by rw [e]; exact List.mem_cons_self)
def forN (vs : List Voter) (q : Nat) (h : Int) : Nat := (vs.filter fun v => decide (v.votes[q]? = some h)).length
theorem set_in {p : Poll} (hn : zF p ≠ []) {k : Nat} {q : Question} (hq : p.questions[k]? = some q) {h : Int} (hs : (zbT (zF p))[k]? = some h) (h0 : 0 ≤ h) : h < (q.heads.length : Int) := by
 obtain ⟨t, ht⟩ := List.exists_mem_of_ne_nil _ hn;obtain ⟨b, hb, _, h1⟩ := truth_at ht hq;rw [set_pos hs h0 t ht] at hb;cases hb; exact h1
theorem homR_len {t : Text} {x : Lexicon} (h : zaL t x = 0) : (zfh t x).length ≤ 1000 := by
 rw [zfh, if_pos h];have q := setL_len sLt_T (ziF (zaN t x) (zaN t x).length);have q2 := zeH (zaN t x) (zaN t x).length;have q3 := entries_len (zdF h) x;omega
theorem dec_bad {p : Poll} {s : List Int} : ∀ k, ¬ (zfK p s k).2 = 0 → (zfK p s k).1 = zfz
 | 0, h => absurd rfl h
 | k + 1, h => by
  have ih := dec_bad (p := p) (s := s) k;rw [zfK] at h ⊢
  by_cases h0 : (zfK p s k).2 = 0
  ·rw [if_pos h0] at h ⊢;split at h
   ·rename_i q c hq hs;unfold decQ at h ⊢;split at h
    ·exact absurd rfl h
    ·rename_i c1;rw [if_neg c1];split at h
     ·exact absurd rfl h
     ·rename_i c2; rw [if_neg c2]; exact addN_bad h
   ·exact absurd h0 h
  ·rw [if_neg h0] at h ⊢; exact ih h
theorem decide_ok (p : Poll) : zaL p.text (zdK p) = 0 ∨ zdK p = zfz := by
 rw [zdK]
 by_cases h : zco p true = 0
 ·rw [if_pos h];have hx := (zcd (zie h).1).1
  by_cases h2 : (zfK p (zbT (zF p)) (zbT (zF p)).length).2 = 0
  ·exact .inl (dec_check hx _ h2)
  ·exact .inr (dec_bad _ h2)
 rw [if_neg h]; exact .inr rfl
theorem zeQ (p : Poll) : (zdK p).rules.length ≤ 281474976710656 := by
 rcases decide_ok p with h | h
 ·have := lexicon_12 h; omega
 rw [h]; decide
theorem zeP (p : Poll) : (zdK p).decisions.length ≤ 281474976710656 := by
 rcases decide_ok p with h | h
 ·have := ziD h; omega
 rw [h]; decide
end Go.Pk

namespace Go.Pk
open Go Go.RowKit
theorem nextK_min (ts : List (List Int)) : ∀ k j, j ≤ k → zcj ts (zes ts k) ≤ zcj ts j ∧ (zcj ts (zes ts k) < zcj ts j ∨ zes ts k ≤ j)
 | 0, j, h => by
  obtain rfl : j = 0 := by omega
  exact ⟨Int.le_refl _, .inr (Nat.le_refl _)⟩
 | k + 1, j, h => by
  rw [zes];have hk := nextK_le ts k
  by_cases c : zcj ts (k + 1) < zcj ts (zes ts k)
  ·rw [if_pos c]
   by_cases e : j = k + 1
   ·subst e; exact ⟨Int.le_refl _, .inr (Nat.le_refl _)⟩
   ·have := nextK_min ts k j zq;omega
  ·rw [if_neg c]
   by_cases e : j = k + 1
   ·subst e; omega
   ·exact nextK_min ts k j zq
theorem cnt_none {p : Poll} {k : Nat} {q : Question} (hq : p.questions[k]? = some q) {h : Nat} (hh : q.heads.length ≤ h) : zgh (zF p) k (h : Int) = 0 := by
 rw [zgh, List.length_eq_zero_iff, List.filter_eq_nil_iff];intro t ht;obtain ⟨a, ha, _, h1⟩ := truth_at ht hq;rw [ha];simp; omega
theorem worstK_pos (ts : List (List Int)) (q : Nat) : ∀ k, 0 ≤ zhu ts q k
 | 0 => Int.le_refl _
 | k + 1 => by
  have := worstK_pos ts q k;rw [zhu, zgY]; split <;> omega
theorem left_worst {p : Poll} (hp : zcT p = true) {k : Nat} {q : Question} (hq : p.questions[k]? = some q) : zhu (zF p) k q.heads.length = zcj (zF p) k := by
 have h2 := (zeW hp hq).2;rw [zcj];have hc : q.heads.length = 2 ∨ q.heads.length = 3 := by omega
 rcases hc with e | e
 ·rw [e];show _ = zgY (zhu (zF p) k 2) (zgh (zF p) k ((2 : Nat) : Int) : Int);rw [cnt_none hq (h := 2) zq, zgY];have := worstK_pos (zF p) k 2;split <;> omega
 rw [e]
end Go.Pk

namespace Go.Pk
open Go Go.RowKit
theorem allE_or {p : Poll} (h : zbL p = 0) : (zco p true = 0 ∧ zF p ≠ []) ∨ (zco p true = 8 ∧ zF p = []) := by
 rw [zco, if_neg (by simp [h]), if_neg (by simp)]
 by_cases e : zF p = []
 ·exact .inr ⟨by rw [if_pos e], e⟩
 exact .inl ⟨by rw [if_neg e], e⟩
def openN (p : Poll) (k : Nat) : List Int := if zco p true = 0 then ziY (zF p) k (((p.questions[k]?).getD zfm).heads.length) else []
theorem settled_ok {p : Poll} (h : zco p true = 0) : zdM p = zbT (zF p) := by rw [zdM, if_pos h]
theorem zdk {p : Poll} (hp : zcT p = true) (i : Nat) : (zca ((zbs p).take i)).length ≤ 729 := by
 rw [candL_len];have h1 := prod_pow (ns := (zbs p).take i) (fun n hn => (sizes_ok hp n (List.mem_of_mem_take hn)).2);have h2 : ((zbs p).take i).length ≤ 6 := by
  rw [List.length_take, sizes_len];have := (zcL hp).1; omega
 have h3 := Nat.pow_le_pow_right (n := 3) zq h2;have h4 : (3 : Nat) ^ 6 = 729 := by decide
 omega
theorem cand_xs {p : Poll} (hp : zcT p = true) {i k : Nat} {x : List Int} (hx : (zca ((zbs p).take i))[k]? = some x) : x.length ≤ 6 := by
 have h1 := (candL_mem.1 (List.mem_of_getElem? hx)).1;rw [List.length_take, sizes_len] at h1;have := (zcL hp).1; omega
theorem zfi {p : Poll} (hp : zcT p = true) {i k n : Nat} (hn : n ≤ 3) : (zgO ((zca ((zbs p).take i)).take k) n).length ≤ 2187 := by
 rw [candX_len, List.length_take];have h1 := zdk hp i;have h2 : min k (zca ((zbs p).take i)).length * n ≤ 729 * 3 := Nat.mul_le_mul zq hn;omega
theorem zfG (x : List Int) (h : Nat) : (heads1 x h).length = h := by simp [heads1]
theorem candX_heads {l : List (List Int)} {k n : Nat} {x : List Int} (hx : l[k]? = some x) : zgO (l.take k) n ++ heads1 x n = zgO (l.take (k + 1)) n := (candX_snoc hx).symm
theorem candX_all {p : Poll} {i k : Nat} {q : Question} (hq : p.questions[i]? = some q) (hk : (zca ((zbs p).take i)).length ≤ k) : zgO ((zca ((zbs p).take i)).take k) q.heads.length = zca ((zbs p).take (i + 1)) := by
 rw [cand_take hq, List.take_of_length_le hk]
theorem truths_take {p : Poll} {i k : Nat} (hi : p.questions.length ≤ i) (hk : (zca ((zbs p).take i)).length ≤ k) : ((zca ((zbs p).take i)).take k).filter (zdy p) = zF p := by
 rw [List.take_of_length_le hk, List.take_of_length_le (by rw [sizes_len]; exact hi)]; rfl
def wrongsN (p : Poll) (k : Nat) : Span := zfq p (k : Int)
def moreP (p : Poll) (v : Voter) : Poll := ⟨p.text, p.lexicon, p.questions, p.voters ++ [v]⟩
theorem allE_some {p : Poll} (h : zbL p = 0) (hn : zF p ≠ []) : zco p true = 0 := by
 rcases allE_or h with q | q
 ·exact q.1
 exact absurd q.2 hn
theorem allE_none {p : Poll} (h : zbL p = 0) (hn : zF p = []) : zco p true = 8 := by
 rcases allE_or h with q | q
 ·exact absurd hn q.2
 exact q.1
theorem settledN_len {p : Poll} (h : zco p true = 0) : (zdM p).length = p.questions.length := by
 rw [settled_ok h, set_len7 (zie h).2.2.1]
def rotP (p : Poll) (ys : List Voter) : Poll := ⟨p.text, p.lexicon, p.questions, ys⟩
def RotN (vs ys : List Voter) (k i : Nat) : Prop := ys.length = vs.length ∧ ∀ j, j < i → ys[j]? = vs[(j + k) % vs.length]?
theorem RotN.step {vs ys : List Voter} {k i : Nat} {v : Voter} (h : RotN vs ys k i) (hi : i < vs.length) (hv : vs[(i + k) % vs.length]? = some v) : RotN vs (ys.set i v) k (i + 1) := by
 refine ⟨by rw [List.length_set]; exact h.1, fun j hj => ?_⟩
 by_cases e : j = i
 ·subst e; rw [List.getElem?_set_self (by rw [h.1]; exact hi), hv]
 rw [List.getElem?_set_ne (Ne.symm e)]; exact h.2 j zq
theorem RotN.perm {vs ys : List Voter} {k i : Nat} (h : RotN vs ys k i) (hi : vs.length ≤ i) (hk : k < vs.length) : ys.Perm vs := by
 have e : ys = vs.drop k ++ vs.take k := by
  refine List.ext_getElem? fun j => ?_
  by_cases hj : j < vs.length
  ·rw [h.2 j zq]
   by_cases c : j + k < vs.length
   ·rw [Nat.mod_eq_of_lt c, List.getElem?_append_left (by rw [List.length_drop]; omega), List.getElem?_drop, Nat.add_comm]
   ·have e2 : (j + k) % vs.length = j + k - vs.length := by
     rw [Nat.mod_eq_sub_mod zq, Nat.mod_eq_of_lt zq]
    rw [e2, List.getElem?_append_right (by rw [List.length_drop]; omega), List.length_drop, List.getElem?_take, if_pos zq];congr 1; omega
  ·rw [List.getElem?_eq_none (by rw [h.1]; omega), List.getElem?_eq_none (by rw [List.length_append, List.length_drop, List.length_take]; omega)]
 rw [e];have := List.perm_append_comm (l₁ := vs.drop k) (l₂ := vs.take k);rwa [List.take_append_drop] at this
structure RotE (p x : Poll) : Prop where
 ck : zbL x = zbL p
 ts : zF x = zF p
 al : ∀ so, zco x so = zco p so
 se : zdM x = zdM p
 ak : askR7 x = askR7 p
 dr : zdK x = zdK p
 de : zeE x = zeE p
def wrongsV (p : Poll) (v : Voter) : Span := if zco p true = 0 then spanK v (zF p) else zSpan
theorem next_small0 {p : Poll} (h : zbL p = 0) (h0 : (zF p).length = 0) : nextE p = 8 := by
 have := allE_none h (List.eq_nil_of_length_eq_zero h0);rw [nextE, if_pos (by rw [this]; decide), this]
theorem ziZ {p : Poll} (h : zbL p = 0) (h1 : (zF p).length = 1) : nextE p = 6 := by
 have := allE_some h (fun e => by rw [e] at h1; cases h1);rw [nextE, if_neg (by rw [this]; decide), if_pos h1]
theorem next_big {p : Poll} (h : zbL p = 0) (h2 : 2 ≤ (zF p).length) : nextE p = 0 ∧ zja p = (zes (zF p) (p.questions.length - 1) : Int) := by
 have := allE_some h (fun e => by rw [e] at h2; simp at h2);have e : nextE p = 0 := by rw [nextE, if_neg (by rw [this]; decide), if_neg zq]
 exact ⟨e, by rw [zja, if_pos e]⟩
theorem leftP_at {p : Poll} (hp : zcT p = true) {k : Nat} {q : Question} {x : Int} (hq : p.questions[k]? = some q) (hx : x = (k : Int)) : zhu (zF p) x.toNat (((p.questions[x.toNat]?).getD zfm).heads.length) = zcj (zF p) k := by
 subst hx;rw [Int.toNat_natCast, hq];exact left_worst hp hq
def maxIdN (vs : List Voter) : Int := vs.foldl (fun a v => zgY a v.id) 0
def expAt (hs qs : List Int) (k : Nat) : Int := if (k : Int) ∈ qs then (hs[k]?).getD 0 else -1
def expL (hs qs : List Int) (n : Nat) : List Int := (List.range n).map (expAt hs qs)
def expertV (p : Poll) (hs qs : List Int) : Voter := ⟨maxIdN p.voters + 1, 0, expL hs qs p.questions.length⟩
end Go.Pk

namespace Go.Pk
open Go Go.RowKit
def oddE : Poll := { zaX with voters := [⟨2, 0, [-1, 1, -1]⟩, ⟨2, 1, [0, 0, 0]⟩, ⟨8, 1, [0, -1, 1]⟩] }
def zjv : Poll := { zaX with lexicon := ⟨[], [⟨0, 3, [], ⟨1, 0, 2⟩, ⟨zic, 2⟩, 0⟩]⟩ }
def zdB : Poll := { zaX with voters := [⟨5, 0, [-1, 1, -1]⟩, ⟨2, 0, [0, 0, 0]⟩, ⟨8, 1, [0, -1, 1]⟩] }
theorem checkOdd : zbL oddE = 70 := by decide +kernel
theorem checkTorn : zbL zjv = 40 := by decide +kernel
theorem zjE : zbL zdB = 0 := by decide +kernel
theorem truthsNone : zF zdB = [] := by decide +kernel
theorem ez_01 : (if zbL zaX = 0 then ((zF zaX).length : Int) else 0) = 1 := by rw [if_pos zjV, zik]; rfl
theorem ez_02 : zco zaX (inB 2 0 ((zaX.questions.length : Int) - 1)) = 0 := in_ok allEE (by decide +kernel)
theorem ez_03 : openR zaX 2 = [0] := by rw [openR, if_pos ez_02, zik]; decide +kernel
theorem ez_04 : zdM zaX = [0, 1, 0] := by rw [zdM, if_pos allEE, setE]
theorem ez_05 : zco zaX (inB 2 0 ((zaX.voters.length : Int) - 1)) = 0 := in_ok allEE (by decide +kernel)
theorem ez_06 : zfq zaX 2 = ⟨1, 1⟩ := by rw [zfq, if_pos ez_05, zik]; decide +kernel
theorem ez_07 : zge zaX 2 = 0 := by rw [zge, if_neg (by rw [zjV]; decide), if_pos (by decide +kernel)]
theorem ez_08 : ziy zaX 2 = [1, 1] := by rw [ziy, if_pos ez_07]; decide +kernel
theorem ez_09 : ((askR7 zaX).length : Int) = 0 := by rw [askR7, if_pos allEE, zik]; decide +kernel
theorem ez_10 : nextE zaX = 6 := ziZ zjV (by rw [zik]; rfl)
theorem allE_bad {p : Poll} {so : Bool} (h : zbL p ≠ 0) : zco p so = zbL p := by rw [zco, if_pos h]
theorem allE_arg {p : Poll} {n m : Int} (h : zbL p = 0) (h1 : inB n 0 m = false) : zco p (inB n 0 m) = 2 := by rw [zco, if_neg (by simp [h]), h1]; rfl
theorem ez_11 : zco zaX (inB 3 0 ((zaX.questions.length : Int) - 1)) = 2 := allE_arg zjV (by decide +kernel)
theorem ez_12 : zco zdB (inB 3 0 ((zdB.voters.length : Int) - 1)) = 2 := allE_arg zjE (by decide +kernel)
theorem ez_13 : zco zdB true = 8 := allE_none zjE truthsNone
theorem ez_14 : zco zdB (inB 0 0 ((zdB.voters.length : Int) - 1)) = 8 := by rw [show inB 0 0 ((zdB.voters.length : Int) - 1) = true by decide +kernel]; exact ez_13
theorem ez_15 : zge zdB (-1) = 2 := by rw [zge, if_neg (by rw [zjE]; decide), if_neg (by decide +kernel)]
theorem ez_16 : zeE oddE = 70 := by
 have h : zco oddE true = 70 := by rw [allE_bad (by rw [checkOdd]; decide), checkOdd]
 rw [zeE, if_neg (by rw [h]; decide), h]
theorem ez_17 : zco zjv true = 40 := by rw [allE_bad (by rw [checkTorn]; decide), checkTorn]
theorem ez_18 : (if zbL zdB = 0 then ((zF zdB).length : Int) else 0) = 0 := by rw [if_pos zjE, truthsNone]; rfl
end Go.Pk

namespace Go.Pk
open Go Go.RowKit
section
variable {t : Text} {x : Lexicon} {d : Decision}
end
def hdA (t : Text) (x : Lexicon) (q : Question) : Head := (zei x q.at_ (zct t q.at_)).to
def hdQ (q : Question) (h : Int) : Head := (q.heads[h.toNat]?).getD zdv
def chgB (p : Poll) (s : List Int) (j : Nat) : Bool := match p.questions[j]?, s[j]? with
 | some q, some h => decide (0 ≤ h) && decide (hdA p.text p.lexicon q ≠ hdQ q h)
 | _, _ => false
def chgN (p : Poll) (s : List Int) (k : Nat) : Nat := ((List.range k).filter (chgB p s)).length
structure DecI (p : Poll) (s : List Int) (k : Nat) (x : Lexicon) : Prop where
 ck : zaL p.text x = 0
 mono : mostN p.lexicon.decisions ≤ mostN x.decisions
 out : ∀ (pl : Place) (w : Str), (∀ (j : Nat) (q : Question) (h : Int), j < k → p.questions[j]? = some q → s[j]? = some h → 0 ≤ h → q.at_ ≠ pl) → zei x pl w = zei p.lexicon pl w
 ins : ∀ (j : Nat) (q : Question) (h : Int), j < k → p.questions[j]? = some q → s[j]? = some h → 0 ≤ h → hdA p.text x q = hdQ q h ∧ (hdA p.text p.lexicon q = hdQ q h → zei x q.at_ (zct p.text q.at_) = zei p.lexicon q.at_ (zct p.text q.at_)) ∧ (hdA p.text p.lexicon q ≠ hdQ q h → mostN p.lexicon.decisions < (zei x q.at_ (zct p.text q.at_)).number)
 len : x.decisions.length = p.lexicon.decisions.length + chgN p s k
end Go.Pk
