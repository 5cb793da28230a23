/- A PART OF THE PROOF: contracts of functions, each walked once (much of it printed by a program of the author's own). -/
import Derived.Test.YtjdbapoodefncaaGreatDoorT3
import Derived.Test.YtjdbapoodefncaaGreatDoorT2
import Derived.Test.YtjdbapoodefncaaGreatDoorT1
set_option linter.unusedSimpArgs false
set_option linter.unusedVariables false
set_option maxRecDepth 4000
namespace Go.Pk
open Go Go.RowKit
def maxL : List Int → Int
 | [] => 0
 | a :: l => l.foldl zhj a
theorem maxL_take {l : List Int} {k : Nat} {x : Int} (h : l[k]? = some x) (hk : 1 ≤ k) : maxL (l.take (k + 1)) = zhj (maxL (l.take k)) x := by
 cases l with
 | nil => simp at h
 | cons a l =>
  obtain ⟨m, rfl⟩ : ∃ m, k = m + 1 := ⟨k - 1, by omega⟩;simp only [List.getElem?_cons_succ] at h;simp only [List.take_succ_cons, maxL];rw [zbh h, List.foldl_append]; rfl
theorem maxL_one {l : List Int} {x : Int} (h : l[0]? = some x) : maxL (l.take 1) = x := by
 cases l with
 | nil => simp at h
 | cons a l => simp at h; subst h; rfl
theorem worst3 (ts : List (List Int)) (q : Nat) {a b c : Int} (ha : a = (zgM ts q 0 : Nat)) (hb : b = (zgM ts q 1 : Nat)) (hc : c = (zgM ts q 2 : Nat)) : maxL [a, b, c] = zdf ts q := by
 subst ha hb hc;show zhj (zhj (zgM ts q 0 : Int) (zgM ts q 1 : Int)) (zgM ts q 2 : Int) = zhj (zhj (zhj 0 (zgM ts q 0 : Int)) (zgM ts q 1 : Int)) (zgM ts q 2 : Int);have e : zhj 0 (zgM ts q 0 : Int) = (zgM ts q 0 : Int) := by unfold zhj; split <;> omega
 rw [e]
theorem cmpL_lt : ∀ {a b : List Int}, a.length = b.length → decide (cmpL a b < 0) = ltL a b
 | [], [], _ => rfl
 | x :: a, y :: b, h => by
  have ih := cmpL_lt (a := a) (b := b) (by simpa using h);simp only [cmpL, ltL, zcU]
  by_cases e : x = y
  ·subst e; simp; rw [← ih]
  ·rw [if_neg e]
   by_cases h1 : x < y
   ·simp [h1]
   ·have h2 : y < x := by omega
    simp [h1, h2]
 | [], _ :: _, h => by simp at h
 | _ :: _, [], h => by simp at h
theorem before_eq (a b : List Int) : decide (orL [(a.length : Int) - (b.length : Int), cmpL a b] < 0) = zjH a b := by
 unfold zjH
 by_cases e : a.length = b.length
 ·rw [if_neg zr, ← cmpL_lt e];simp only [orL, show (a.length : Int) - (b.length : Int) = 0 by omega, ne_eq, not_true_eq_false, if_false]
  by_cases h : cmpL a b = 0 <;> simp [h]
 rw [if_pos e];simp only [orL, ne_eq, show ¬ (a.length : Int) - (b.length : Int) = 0 by omega, not_false_eq_true, if_true];rw [Bool.eq_iff_iff, decide_eq_true_eq, decide_eq_true_eq]; omega
theorem members_none {s : Int} {n k : Nat} (h0 : 0 ≤ s) (h1 : s < 2 ^ n) (hk : n ≤ k) : ziX s (k : Int) = 0 := by
 have h2 : (2 : Int) ^ n ≤ 2 ^ k := by
  have := Nat.pow_le_pow_right (n := 2) zr hk
  exact_mod_cast this
 rw [ziX, Int.toNat_natCast, Int.ediv_eq_zero_of_lt h0 zr]; rfl
theorem members_top {s : Int} {n : Nat} (h0 : 0 ≤ s) (h1 : s < 2 ^ n) : ∀ d, zbO s (n + d) = zbO s n
 | 0 => rfl
 | d + 1 => by
  rw [← Nat.add_assoc, zjx, if_neg (by rw [members_none h0 h1 zr]; decide), List.append_nil];exact members_top h0 h1 d
theorem members_six {s : Int} {n : Nat} (h0 : 0 ≤ s) (h1 : s < 2 ^ n) (hn : n ≤ 6) : zbO s 6 = zbO s n := by
 have := members_top h0 h1 (6 - n);rwa [show n + (6 - n) = 6 by omega] at this
def zgi {α : Type} (lt : α → α → Bool) (l : List α) : Option α := l.foldl (fun o x => match o with | none => some x | some b => if lt x b = true then some x else some b) none
def zes {α : Type} (lt : α → α → Bool) (z : α) (l : List α) : α := (zgi lt l).getD z
theorem zfv {α : Type} (lt : α → α → Bool) (l : List α) (x : α) : zgi lt (l ++ [x]) = match zgi lt l with | none => some x | some b => if lt x b = true then some x else some b := by simp [zgi]
theorem ziJ {α : Type} {lt : α → α → Bool} : ∀ {l : List α}, (zgi lt l).isSome = !l.isEmpty := by
 intro l
 rcases List.eq_nil_or_concat l with rfl | ⟨l, x, rfl⟩
 ·rfl
 rw [List.concat_eq_append, zfv];cases zgi lt l with
 | none => simp
 | some b => simp only; split <;> simp
theorem first_one {α : Type} {lt : α → α → Bool} {z x : α} {l : List α} (h : (!l.isEmpty) = false) : zes lt z (l ++ [x]) = x := by
 have e := ziJ (lt := lt) (l := l);rw [h] at e;rw [zes, zfv];cases h2 : zgi lt l with
 | none => rfl
 | some b => rw [h2] at e; cases e
theorem first_new {α : Type} {lt : α → α → Bool} {z x : α} {l : List α} (h : (!l.isEmpty) = true) (hl : lt x (zes lt z l) = true) : zes lt z (l ++ [x]) = x := by
 have e := ziJ (lt := lt) (l := l);rw [h] at e;rw [zes] at hl ⊢;rw [zfv];cases h2 : zgi lt l with
 | none => rw [h2] at e; cases e
 | some b => rw [h2] at hl; simp only [Option.getD_some] at hl; simp [hl]
theorem first_old {α : Type} {lt : α → α → Bool} {z x : α} {l : List α} (h : (!l.isEmpty) = true) (hl : lt x (zes lt z l) = false) : zes lt z (l ++ [x]) = zes lt z l := by
 have e := ziJ (lt := lt) (l := l);rw [h] at e;rw [zes] at hl ⊢;rw [zes, zfv];cases h2 : zgi lt l with
 | none => rw [h2] at e; cases e
 | some b => rw [h2] at hl; simp only [Option.getD_some] at hl; simp [hl]
theorem firstO_mem {α : Type} {lt : α → α → Bool} : ∀ {l : List α} {o : Option α} {b : α}, l.foldl (fun o x => match o with | none => some x | some b => if lt x b = true then some x else some b) o = some b → b ∈ l ∨ o = some b
 | [], o, b, h => .inr h
 | x :: l, o, b, h => by
  rw [List.foldl_cons] at h
  rcases firstO_mem h with q | q
  ·exact .inl (List.mem_cons_of_mem _ q)
  ·cases o with
   | none => simp only [Option.some.injEq] at q; subst q; exact .inl List.mem_cons_self
   | some c =>
    simp only at q;split at q
    ·simp only [Option.some.injEq] at q; subst q; exact .inl List.mem_cons_self
    ·exact .inr q
theorem firstL_mem {α : Type} {lt : α → α → Bool} {z : α} {l : List α} (h : (!l.isEmpty) = true) : zes lt z l ∈ l := by
 have e := ziJ (lt := lt) (l := l);rw [h] at e;rw [zes];cases h2 : zgi lt l with
 | none => rw [h2] at e; cases e
 | some b =>
  rcases firstO_mem h2 with q | q
  ·exact q
  ·cases q
def askC (ts : List (List Int)) (n k : Nat) : List (List Int) := ((List.range k).filter fun (s : Nat) => zjs ts (zbO (s : Int) n)).map fun (s : Nat) => zbO (s : Int) n
theorem askC_succ (ts : List (List Int)) (n k : Nat) : askC ts n (k + 1) = askC ts n k ++ if zjs ts (zbO (k : Int) n) = true then [zbO (k : Int) n] else [] := by
 rw [askC, List.range_succ, List.filter_append, List.map_append, List.filter_cons, List.filter_nil, askC]
 by_cases h : zjs ts (zbO (k : Int) n) = true <;> simp [h]
theorem askK_first (ts : List (List Int)) (n : Nat) : ∀ k, zgi zjH (askC ts n k) = askK ts n k
 | 0 => rfl
 | k + 1 => by
  rw [askC_succ, askK, ← askK_first ts n k]
  by_cases h : zjs ts (zbO (k : Int) n) = true
  ·rw [if_pos h, zfv, h, Bool.and_true];cases zgi zjH (askC ts n k) with
   | none => rfl
   | some b => rfl
  ·rw [if_neg h, List.append_nil, Bool.not_eq_true] at *;rw [h, Bool.and_false]; rfl
def nextC (ts : List (List Int)) (k : Nat) : List Int := ((List.range k).filter fun (q : Nat) => decide (zdf ts q < (ts.length : Int))).map fun (q : Nat) => (q : Int)
theorem zjw (ts : List (List Int)) (k : Nat) : nextC ts (k + 1) = nextC ts k ++ if zdf ts k < (ts.length : Int) then [(k : Int)] else [] := by
 rw [nextC, List.range_succ, List.filter_append, List.map_append, List.filter_cons, List.filter_nil, nextC]
 by_cases h : zdf ts k < (ts.length : Int) <;> simp [h]
def worseB (ts : List (List Int)) (a b : Int) : Bool := decide (zdf ts a.toNat < zdf ts b.toNat)
theorem maxI_le {a b c : Int} (h1 : a ≤ c) (h2 : b ≤ c) : zhj a b ≤ c := by unfold zhj; split <;> omega
theorem worst_le (ts : List (List Int)) (q : Nat) : zdf ts q ≤ (ts.length : Int) := by
 have h : ∀ k, worstK ts q k ≤ (ts.length : Int) := by
  intro k
  induction k with
  | zero => simp [worstK]
  | succ k ih => exact maxI_le ih (by have := zfE ts q (k : Int); omega)
 exact h 3
theorem next_first (ts : List (List Int)) : ∀ k, zgi (worseB ts) (nextC ts (k + 1)) = if zdf ts (zhz ts k) < (ts.length : Int) then some (zhz ts k : Int) else none
 | 0 => by
  rw [zjw]
  by_cases h : zdf ts 0 < (ts.length : Int)
  ·simp [h, zhz, nextC, zgi]
  ·simp [h, zhz, nextC, zgi]
 | k + 1 => by
  rw [zjw, zhz];have ih := next_first ts k;have h1 := worst_le ts (k + 1);have h2 := worst_le ts (zhz ts k)
  by_cases a : zdf ts (k + 1) < zdf ts (zhz ts k)
  ·rw [if_pos a, if_pos (show zdf ts (k + 1) < (ts.length : Int) by omega), zfv, ih]
   by_cases b : zdf ts (zhz ts k) < (ts.length : Int)
   ·rw [if_pos b];rw [if_pos (show zdf ts (k + 1) < (ts.length : Int) by omega)];simp only [worseB, Int.toNat_natCast, decide_eq_true a, if_true]
   ·rw [if_neg b, if_pos (show zdf ts (k + 1) < (ts.length : Int) by omega)]
  ·rw [if_neg a]
   by_cases b : zdf ts (zhz ts k) < (ts.length : Int)
   ·by_cases c : zdf ts (k + 1) < (ts.length : Int)
    ·rw [if_pos c, zfv, ih, if_pos b];simp only [worseB, Int.toNat_natCast, decide_eq_false a, Bool.false_eq_true, if_false]
    ·rw [if_neg c, List.append_nil, ih]
   ·rw [if_neg (show ¬ zdf ts (k + 1) < (ts.length : Int) by omega), List.append_nil, ih]
theorem candL_nodup : ∀ ns : List Nat, (candL ns).Nodup
 | [] => by simp [candL]
 | n :: ns => by
  rw [candL, List.Nodup, List.pairwise_flatMap];refine ⟨fun h _ => ?_, ?_⟩
  ·rw [List.pairwise_map];exact (candL_nodup ns).imp fun hne e => hne (by simpa using e)
  ·refine (List.nodup_range (n := n)).imp fun hne => ?_;intro x hx y hy e;obtain ⟨t, _, rfl⟩ := List.mem_map.1 hx;obtain ⟨u, _, rfl⟩ := List.mem_map.1 hy;simp only [List.cons.injEq] at e;exact hne zr
theorem truths_nodup (p : Poll) : (zab p).Nodup := (candL_nodup _).filter _
theorem cnt_all {ts : List (List Int)} {q : Nat} {h : Int} (e : zgM ts q h = ts.length) {t : List Int} (ht : t ∈ ts) : t[q]? = some h := by
 have := List.length_filter_eq_length_iff.1 e t ht;simpa using this
theorem worst_all {ts : List (List Int)} {q : Nat} (h : ¬ zdf ts q < (ts.length : Int)) (h0 : 0 < ts.length) : ∃ a : Int, ∀ t ∈ ts, t[q]? = some a := by
 have h1 := worst_le ts q;have h2 : zdf ts q = (ts.length : Int) := by omega
 have h3 : zdf ts q = zhj (zhj (zhj 0 (zgM ts q 0 : Int)) (zgM ts q 1 : Int)) (zgM ts q 2 : Int) := rfl;have a0 := zfE ts q 0;have a1 := zfE ts q 1;have a2 := zfE ts q 2;have : zgM ts q 0 = ts.length ∨ zgM ts q 1 = ts.length ∨ zgM ts q 2 = ts.length := by
  have h4 : ∀ a b c : Int, zhj a b = c → a = c ∨ b = c := by intro a b c e; unfold zhj at e; split at e <;> simp [e]
  rw [h3] at h2
  rcases h4 _ _ _ h2 with e | e
  ·rcases h4 _ _ _ e with e | e
   ·rcases h4 _ _ _ e with e | e
    ·omega
    ·left; omega
   ·right; left; omega
  ·right; right; omega
 rcases this with e | e | e
 ·exact ⟨0, fun t ht => cnt_all e ht⟩
 ·exact ⟨1, fun t ht => cnt_all e ht⟩
 exact ⟨2, fun t ht => cnt_all e ht⟩
theorem nextK_small {p : Poll} (hl : 1 < (zab p).length) : zdf (zab p) (zhz (zab p) (p.questions.length - 1)) < ((zab p).length : Int) := by
 refine Classical.byContradiction fun hc => ?_
 -- all questions leave all
 have h1 : ∀ k q, q ≤ k → zdf (zab p) (zhz (zab p) k) ≤ zdf (zab p) q := by
  intro k
  induction k with
  | zero =>
   intro q hq;obtain rfl : q = 0 := by omega
   exact Int.le_refl _
  | succ k ih =>
   intro q hq;rw [zhz]
   by_cases a : zdf (zab p) (k + 1) < zdf (zab p) (zhz (zab p) k)
   ·rw [if_pos a]
    by_cases e : q = k + 1
    ·subst e; exact Int.le_refl _
    ·exact Int.le_trans (Int.le_of_lt a) (ih q zr)
   ·rw [if_neg a]
    by_cases e : q = k + 1
    ·subst e; omega
    ·exact ih q zr
 obtain ⟨t0, h0⟩ : ∃ t, (zab p)[0]? = some t := ⟨_, List.getElem?_eq_getElem zr⟩;obtain ⟨t1, h2⟩ : ∃ t, (zab p)[1]? = some t := ⟨_, List.getElem?_eq_getElem zr⟩;have m0 := List.mem_of_getElem? h0;have m1 := List.mem_of_getElem? h2;have hne : t0 = t1 := by
  refine List.ext_getElem? fun q => ?_
  by_cases hq : q < p.questions.length
  ·obtain ⟨a, ha⟩ := worst_all (ts := zab p) (q := q) (by have := h1 (p.questions.length - 1) q zr; omega) zr;rw [ha t0 m0, ha t1 m1]
  ·rw [List.getElem?_eq_none (by rw [zdZ m0]; omega), List.getElem?_eq_none (by rw [zdZ m1]; omega)]
 have hn := truths_nodup p;subst hne;have e0 := (List.getElem?_eq_some_iff.1 h0).2;have e1 := (List.getElem?_eq_some_iff.1 h2).2;have := (List.nodup_iff_pairwise_ne.1 hn);rw [List.pairwise_iff_getElem] at this;exact this 0 1 zr zr zr (by rw [e0, e1])
theorem next_ok {p : Poll} (hl : 1 < (zab p).length) (hq : 0 < p.questions.length) : zes (worseB (zab p)) 0 (nextC (zab p) p.questions.length) = (zhz (zab p) (p.questions.length - 1) : Int) := by
 have h := next_first (zab p) (p.questions.length - 1);rw [show p.questions.length - 1 + 1 = p.questions.length by omega, if_pos (nextK_small hl)] at h;rw [zes, h]; rfl
def zfg (t : List Int) (s : Int) (k j : Nat) : Int := if j < k then (t[j]?).getD 0 * ziX s (j : Int) else 0
def zja (t : List Int) (s : Int) (k : Nat) : Six := ⟨zfg t s k 0, zfg t s k 1, zfg t s k 2, zfg t s k 3, zfg t s k 4, zfg t s k 5⟩
theorem zia {t : List Int} {s : Int} {k j : Nat} (h : ¬ j = k) : zfg t s (k + 1) j = zfg t s k j := by
 unfold zfg
 by_cases e : j < k
 ·rw [if_pos e, if_pos zr]
 rw [if_neg e, if_neg zr]
theorem sixAt_new {t : List Int} {s x : Int} {k : Nat} (h : t[k]? = some x) : zfg t s (k + 1) k = x * ziX s (k : Int) := by
 rw [zfg, if_pos zr, h]; rfl
theorem bit_01 {s : Int} {j : Int} : ziX s j = 0 ∨ ziX s j = 1 := by rw [ziX]; omega
theorem zhf {t : List Int} {s x : Int} {k j : Nat} (hj : j = k) (h : t[k]? = some x) : zfg t s (k + 1) j = x * ziX s (k : Int) := by subst hj; exact sixAt_new h
theorem sixK_len {t : List Int} {s : Int} (h : t.length ≤ 6) : zja t s t.length = zja t s 6 := by
 have e : ∀ j, j < 6 → zfg t s t.length j = zfg t s 6 j := by
  intro j hj;rw [zfg, zfg, if_pos hj]
  by_cases q : j < t.length
  ·rw [if_pos q]
  ·rw [if_neg q, List.getElem?_eq_none zr]; simp
 simp only [zja, e 0 zr, e 1 zr, e 2 zr, e 3 zr, e 4 zr, e 5 zr]
theorem six_alike6 {t u : List Int} {s : Int} (ht : t.length ≤ 6) (hu : t.length = u.length) : alikeL t u (zbO s 6) = decide (zja t s 6 = zja u s 6) := by
 have hk : ∀ j : Nat, j < 6 → ziX s (j : Int) = 1 → (zfg t s 6 j = zfg u s 6 j ↔ t[j]? = u[j]?) := by
  intro j hj hb;rw [zfg, zfg, if_pos hj, if_pos hj, hb, Int.mul_one, Int.mul_one]
  by_cases q : j < t.length
  ·rw [List.getElem?_eq_getElem q, List.getElem?_eq_getElem zr]; simp
  ·rw [List.getElem?_eq_none zr, List.getElem?_eq_none zr]; simp
 rw [Bool.eq_iff_iff, decide_eq_true_eq, alikeL, List.all_eq_true];have key : (∀ k ∈ zbO s 6, decide (t[k.toNat]? = u[k.toNat]?) = true) ↔ ∀ j, j < 6 → zfg t s 6 j = zfg u s 6 j := by
  constructor
  ·intro h j hj
   rcases bit_01 (s := s) (j := (j : Int)) with b | b
   ·rw [zfg, zfg, if_pos hj, if_pos hj, b, Int.mul_zero, Int.mul_zero]
   ·refine (hk j hj b).2 ?_;have := h (j : Int) (List.mem_map.2 ⟨j, List.mem_filter.2 ⟨List.mem_range.2 hj, by simpa using b⟩, rfl⟩);simpa using this
  ·intro h k hk';obtain ⟨j, hj, rfl⟩ := List.mem_map.1 hk';have h1 := List.mem_range.1 (List.mem_filter.1 hj).1;have h2 := (List.mem_filter.1 hj).2;simp only [decide_eq_true_eq] at h2;have := (hk j h1 h2).1 (h j h1);simpa using this
 rw [key];constructor
 ·intro h;simp only [zja, h 0 zr, h 1 zr, h 2 zr, h 3 zr, h 4 zr, h 5 zr]
 intro h j hj;simp only [zja, Six.mk.injEq] at h;obtain ⟨a0, a1, a2, a3, a4, a5⟩ := h
 match j, hj with
 | 0, _ => exact a0
 | 1, _ => exact a1
 | 2, _ => exact a2
 | 3, _ => exact a3
 | 4, _ => exact a4
 | 5, _ => exact a5
 | j + 6, hj => omega
def sixM (ts : List (List Int)) (s : Int) (i : Nat) (x : Six) : Option Bool := if ((ts.take i).any fun u => decide (zja u s 6 = x)) = true then some true else none
theorem sixM_succ {ts : List (List Int)} {s : Int} {i : Nat} {t : List Int} (ht : ts[i]? = some t) (x : Six) : sixM ts s (i + 1) x = if x = zja t s 6 then some true else sixM ts s i x := by
 rw [sixM, sixM, any_snoc ht]
 by_cases e : x = zja t s 6
 ·rw [if_pos e, e]; simp
 rw [if_neg e, decide_eq_false (fun q => e q.symm), Bool.or_false]
theorem tells_next {ts : List (List Int)} {s : Int} {i : Nat} {t : List Int} (hl : ∀ t ∈ ts, t.length ≤ 6) (he : ∀ t ∈ ts, ∀ u ∈ ts, t.length = u.length) (ht : ts[i]? = some t) (h : (sixM ts s i (zja t s 6)).getD false = false) : zjt ts (zbO s 6) i = true := by
 simp only [zjt, ht, List.all_eq_true];intro u hu;have hm := List.mem_of_getElem? ht;rw [six_alike6 (hl t hm) (he t hm u (List.mem_of_mem_take hu))];rw [sixM] at h;split at h
 ·cases h
 rename_i q;simp only [Bool.not_eq_true, List.any_eq_false, decide_eq_true_eq] at q;simp only [Bool.not_eq_true', decide_eq_false_iff_not];exact fun e => q u hu e.symm
theorem tells_stop {ts : List (List Int)} {s : Int} {i : Nat} {t : List Int} (hl : ∀ t ∈ ts, t.length ≤ 6) (he : ∀ t ∈ ts, ∀ u ∈ ts, t.length = u.length) (ht : ts[i]? = some t) (h : (sixM ts s i (zja t s 6)).getD false = true) : zjs ts (zbO s 6) = false := by
 refine tells_no (i := i) ?_;simp only [zjt, ht];rw [sixM] at h;split at h
 ·rename_i q;obtain ⟨u, hu, e⟩ := List.any_eq_true.1 q;have hm := List.mem_of_getElem? ht;refine List.all_eq_false.2 ⟨u, hu, ?_⟩;rw [six_alike6 (hl t hm) (he t hm u (List.mem_of_mem_take hu))];simp only [decide_eq_true_eq] at e;simp [e]
 cases h
theorem sixM_none {ts : List (List Int)} {s : Int} {i : Nat} {x : Six} (h : (sixM ts s i x).getD false = false) : sixM ts s i x = none := by
 rw [sixM] at h ⊢;split at h
 ·cases h
 rename_i q; rw [if_neg q]
theorem askC_six {ts : List (List Int)} {n : Nat} (hn : n ≤ 6) : ∀ k, k ≤ 2 ^ n → askC ts 6 k = askC ts n k := by
 intro k hk;rw [askC, askC];have e : ∀ s ∈ List.range k, zbO (s : Int) 6 = zbO (s : Int) n := by
  intro s hs;have := List.mem_range.1 hs;refine members_six zr ?_ hn;have h2 : (s : Int) < ((2 ^ n : Nat) : Int) := by omega
  exact_mod_cast h2
 rw [List.filter_congr (q := fun (s : Nat) => zjs ts (zbO (s : Int) n)) fun s hs => by rw [e s hs]];exact List.map_congr_left fun s hs => e s (List.mem_filter.1 hs).1
theorem cnt_up {ts : List (List Int)} {i q : Nat} {t : List Int} {a : Int} (ht : ts[i]? = some t) (ha : t[q]? = some a) (h : Int) : ((zgM (ts.take (i + 1)) q h : Nat) : Int) = ((zgM (ts.take i) q h : Nat) : Int) + if a = h then 1 else 0 := by
 rw [cntH_snoc ht, ha]
 by_cases e : a = h <;> simp [e]
theorem next_pos {p : Poll} (h : 1 < (zab p).length) : 0 < p.questions.length := by
 refine Classical.byContradiction fun q => ?_;have e : p.questions = [] := List.eq_nil_of_length_eq_zero zr;have h2 : (zab p).length ≤ 1 := by
  rw [zab, zhJ, e];exact List.length_filter_le _ _
 omega
theorem zgE {p : Poll} (hp : zcZ p = true) {ls : List (List Int)} (hl : ∀ t ∈ ls, t ∈ zab p) {a : Int} (h0 : 0 ≤ a) (h1 : a < (p.questions.length : Int)) : ∀ t ∈ ls, ∃ x, t[a.toNat]? = some x ∧ 0 ≤ x ∧ x < 3 := by
 intro t ht;obtain ⟨q, hq⟩ : ∃ q, p.questions[a.toNat]? = some q := ⟨_, List.getElem?_eq_getElem zr⟩;obtain ⟨x, hx, h2, h3⟩ := truth_at (hl t ht) hq;have := (zgh hp hq).2.2.1;exact ⟨x, hx, h2, by omega⟩
theorem truths_small {p : Poll} (hp : zcZ p = true) {ls : List (List Int)} (hl : ∀ t ∈ ls, t ∈ zab p) : ∀ t ∈ ls, ∀ a ∈ t, 0 ≤ a ∧ a ≤ 1000 := by
 intro t ht a ha;obtain ⟨k, hk⟩ := List.mem_iff_getElem?.1 ha;have hlt := (List.getElem?_eq_some_iff.1 hk).1;rw [zdZ (hl t ht)] at hlt;obtain ⟨x, hx, h2, h3⟩ := zgE hp hl (a := (k : Int)) zr zr t ht;rw [Int.toNat_natCast, hk] at hx;cases hx;omega
end Go.Pk

namespace Go.Pk
open Go Go.RowKit
def zjA (x : Lexicon) (q : Question) (hd : Head) : Decision := ⟨zfZ x.decisions + 1, 3, [], q.at_, hd, 0⟩
def decN (n : Int) (q : Question) (hd : Head) : Decision := ⟨n, 3, [], q.at_, hd, 0⟩
def decQ (p : Poll) (x : Lexicon) (q : Question) (h : Int) : Lexicon × Int :=
 if h < 0 then (x, 0) else if (zfI p.text x q.at_).to = (q.heads[h.toNat]?).getD zdy then (x, 0)
 else (zhW p.text x (zjA x q ((q.heads[h.toNat]?).getD zdy)), zeS p.text x (zjA x q ((q.heads[h.toNat]?).getD zdy)))
def zdW (p : Poll) (s : List Int) : Nat → Lexicon × Int
 | 0 => (p.lexicon, 0)
 | k + 1 => if (zdW p s k).2 = 0 then (match p.questions[k]?, s[k]? with
  | some q, some h => decQ p (zdW p s k).1 q h
  | _, _ => zdW p s k) else zdW p s k
def zdx (p : Poll) : Int := if zcW p true = 0 then (zdW p (zdk (zab p)) (zdk (zab p)).length).2 else zcW p true
def zbp (p : Poll) : Lexicon := if zcW p true = 0 then (zdW p (zdk (zab p)) (zdk (zab p)).length).1 else zfn
variable {p : Poll} {s : List Int} {k : Nat} {x : Lexicon} {q : Question} {h : Int} {hd : Head}
theorem dec_skip (a : zdW p s k = (x, 0)) (hq : p.questions[k]? = some q) (hs : s[k]? = some h) (h0 : h < 0) : zdW p s (k + 1) = (x, 0) := by
 simp only [zdW, a, if_true, hq, hs, decQ, if_pos h0]
theorem dec_same (a : zdW p s k = (x, 0)) (hq : p.questions[k]? = some q) (hs : s[k]? = some h) (h0 : ¬ h < 0) (hh : q.heads[h.toNat]? = some hd) (e : (zfI p.text x q.at_).to = hd) : zdW p s (k + 1) = (x, 0) := by
 simp only [zdW, a, if_true, hq, hs, decQ, if_neg h0, hh, Option.getD_some, if_pos e]
theorem dec_add (a : zdW p s k = (x, 0)) (hq : p.questions[k]? = some q) (hs : s[k]? = some h) (h0 : ¬ h < 0) (hh : q.heads[h.toNat]? = some hd) (e : ¬ (zfI p.text x q.at_).to = hd) : zdW p s (k + 1) = (zhW p.text x (zjA x q hd), zeS p.text x (zjA x q hd)) := by
 simp only [zdW, a, if_true, hq, hs, decQ, if_neg h0, hh, Option.getD_some, if_neg e]
theorem dec_stop (e : ¬ (zdW p s k).2 = 0) : ∀ d, zdW p s (k + d) = zdW p s k
 | 0 => rfl
 | d + 1 => by rw [← Nat.add_assoc, zdW, dec_stop e d, if_neg e]
theorem addN_bad {t : Text} {d : Decision} (e : ¬ zeS t x d = 0) : zhW t x d = zfn := by rw [zhW, if_neg e]
theorem dec_err (a : zdW p s k = (x, 0)) (hq : p.questions[k]? = some q) (hs : s[k]? = some h) (h0 : ¬ h < 0) (hh : q.heads[h.toNat]? = some hd) (e : ¬ (zfI p.text x q.at_).to = hd) (e2 : ¬ zeS p.text x (zjA x q hd) = 0) : zdW p s s.length = (zfn, zeS p.text x (zjA x q hd)) := by
 have h1 := dec_add a hq hs h0 hh e;have hk := (List.getElem?_eq_some_iff.1 hs).1;have := dec_stop (p := p) (s := s) (k := k + 1) (by rw [h1]; exact e2) (s.length - (k + 1));rw [show k + 1 + (s.length - (k + 1)) = s.length by omega] at this;rw [this, h1, addN_bad e2]
theorem dec_check (hx : zaE p.text p.lexicon = 0) : ∀ k, (zdW p s k).2 = 0 → zaE p.text (zdW p s k).1 = 0
 | 0, _ => hx
 | k + 1, e => by
  have ih := dec_check hx k;rw [zdW] at e ⊢
  by_cases h0 : (zdW p s k).2 = 0
  ·rw [if_pos h0] at e ⊢;split at e
   ·rename_i q h hq hs;unfold decQ at e ⊢;split at e
    ·rename_i c; rw [if_pos c]; exact ih h0
    ·rename_i c;rw [if_neg c];split at e
     ·rename_i c2; rw [if_pos c2]; exact ih h0
     ·rename_i c2; rw [if_neg c2]; exact addN_check e
   ·exact ih h0
  ·rw [if_neg h0] at e; exact absurd e h0
theorem dec_ok (hx : zaE p.text p.lexicon = 0) (a : zdW p s k = (x, 0)) : zaE p.text x = 0 := by
 have := dec_check (s := s) hx k;rw [a] at this; exact this rfl
def nextN (l : List Decision) : Int := zfZ l + 1
theorem nextN_snoc {l : List Decision} {k : Nat} {d : Decision} (h : l[k]? = some d) : zhj (nextN (l.take k)) (d.number + 1) = nextN (l.take (k + 1)) := by
 rw [nextN, nextN, mostN_snoc h, zhj]; split <;> omega
theorem nextN_eq {l : List Decision} {k : Nat} (h : l.length ≤ k) : nextN (l.take k) = zfZ l + 1 := by rw [List.take_of_length_le h]; rfl
theorem mostN_le' (hx : OkD x) (k : Nat) : zfZ (x.decisions.take k) ≤ 999 := fold_max_le _ _ _ zr fun d hd => (hx.2 d (List.mem_of_mem_take hd)).2.1
theorem nextN_le (hx : OkD x) (k : Nat) : 1 ≤ nextN (x.decisions.take k) ∧ nextN (x.decisions.take k) ≤ 1000 := by
 have := mostN_le' hx k;have := mostN_pos (x.decisions.take k);rw [nextN]; omega
def mootB (p : Poll) (s : List Int) (k : Nat) (w : Str) : Bool := match p.questions[k]?, s[k]? with
 | some q, some h => decide (h < 0) && decide (zbx p.text q.at_ = w)
 | _, _ => false
def mootQ (p : Poll) (s : List Int) (n : Nat) (w : Str) : Bool := (List.range n).any fun k => mootB p s k w
theorem moot_succ (p : Poll) (s : List Int) (n : Nat) (w : Str) : mootQ p s (n + 1) w = (mootQ p s n w || mootB p s n w) := by simp [mootQ, List.range_succ, List.any_append]
theorem moot_at {p : Poll} {s : List Int} {n : Nat} {w : Str} {q : Question} {h : Int} (hq : p.questions[n]? = some q) (hs : s[n]? = some h) : mootQ p s (n + 1) w = (mootQ p s n w || (decide (h < 0) && decide (zbx p.text q.at_ = w))) := by
 rw [moot_succ, mootB, hq, hs]
def mootR (p : Poll) : List Str := if zcW p true = 0 then (homR p.text p.lexicon).filter (mootQ p (zdk (zab p)) (zdk (zab p)).length) else []
def zhb (ws : List Str) (p : Poll) (s : List Int) (n : Nat) (w : Str) : Option Bool := if w ∈ ws ∧ mootQ p s n w = false then some true else none
theorem still_skip {ws : List Str} {p : Poll} {s : List Int} {n : Nat} {q : Question} {h : Int} (hq : p.questions[n]? = some q) (hs : s[n]? = some h) (h0 : ¬ h < 0) {m : List (Str × Bool)} (hm : ∀ w, zbH m w = zhb ws p s n w) : ∀ w, zbH m w = zhb ws p s (n + 1) w := by
 intro w;rw [hm, zhb, zhb, moot_at hq hs, decide_eq_false h0]; simp
theorem still_del {ws : List Str} {p : Poll} {s : List Int} {n : Nat} {q : Question} {h : Int} (hq : p.questions[n]? = some q) (hs : s[n]? = some h) (h0 : h < 0) {m : List (Str × Bool)} (hm : ∀ w, zbH m w = zhb ws p s n w) : ∀ w, zbH (delM m (zbx p.text q.at_)) w = zhb ws p s (n + 1) w := by
 intro w;rw [look_delM, hm, zhb, zhb, moot_at hq hs, decide_eq_true h0, Bool.true_and]
 by_cases e : w = zbx p.text q.at_
 ·subst e; simp
 rw [if_neg e, decide_eq_false (fun q => e q.symm), Bool.or_false]
theorem still_put {ws : List Str} {k : Nat} {w0 : Str} (h : ws[k]? = some w0) {m : List (Str × Bool)} (hm : ∀ w, zbH m w = if w ∈ ws.take k then some true else none) : ∀ w, zbH (zgJ m w0 true) w = if w ∈ ws.take (k + 1) then some true else none := by
 intro w;rw [zje, zbh h, hm]
 by_cases e : w = w0
 ·subst e; simp
 simp [e]
theorem still_zero {ws : List Str} {k : Nat} (hk : ws.length ≤ k) {p : Poll} {s : List Int} {m : List (Str × Bool)} (hm : ∀ w, zbH m w = if w ∈ ws.take k then some true else none) : ∀ w, zbH m w = zhb ws p s 0 w := by
 intro w;rw [hm, List.take_of_length_le hk, zhb];simp [mootQ]
theorem still_filter {ws : List Str} {p : Poll} {s : List Int} {n : Nat} {m : List (Str × Bool)} (hm : ∀ w, zbH m w = zhb ws p s n w) : ws.filter (fun w => !(zbH m w).getD false) = ws.filter (mootQ p s n) := by
 refine List.filter_congr fun w hw => ?_;rw [hm, zhb];cases e : mootQ p s n w <;> simp [hw]
end Go.Pk

namespace Go.Pk
open Go Go.RowKit
def dPE : Decision := ⟨1, 3, [], ⟨1, 0, 2⟩, ⟨wSee, 2⟩, 0⟩
def zhB (more : List Decision) : Lexicon := ⟨[], dPE :: more⟩
def seaSee : List Head := [⟨zdz, 1⟩, ⟨wSee, 2⟩]
def questsE : List Question := [⟨⟨0, 0, 1⟩, seaSee⟩, ⟨⟨0, 0, 3⟩, [⟨wAge, 3⟩, ⟨zif, 0⟩]⟩, ⟨⟨1, 0, 0⟩, seaSee⟩]
def votersE : List Voter := [⟨5, 0, [-1, 1, -1]⟩, ⟨2, 1, [0, 0, 0]⟩, ⟨8, 1, [0, -1, 1]⟩]
def zdn : Poll := ⟨zih, zhB [], questsE, votersE⟩
def zeQ : Poll := ⟨zih, zhB [], questsE, votersE.drop 1⟩
theorem checkLP : zaE zih (zhB []) = 0 := by decide +kernel
theorem checkPE : zcz zdn = 0 := by decide +kernel
theorem checkP2 : zcz zeQ = 0 := by decide +kernel
theorem truthsE : zab zdn = [[0, 1, 0]] := by decide +kernel
theorem zjr : zab zeQ = [[0, 0, 0], [0, 0, 1], [0, 1, 0]] := by decide +kernel
theorem allEE : zcW zdn true = 0 := by rw [zcW, if_neg (by rw [checkPE]; decide), if_neg (by decide), truthsE]; rfl
theorem allE2 : zcW zeQ true = 0 := by rw [zcW, if_neg (by rw [checkP2]; decide), if_neg (by decide), zjr]; rfl
theorem setE : zdk (zab zdn) = [0, 1, 0] := by rw [truthsE]; decide +kernel
theorem set2 : zdk (zab zeQ) = [0, -1, -1] := by rw [zjr]; decide +kernel
def e1E : Decision := ⟨2, 3, [], ⟨0, 0, 1⟩, ⟨zdz, 1⟩, 0⟩
def e2E : Decision := ⟨3, 3, [], ⟨1, 0, 0⟩, ⟨zdz, 1⟩, 0⟩
theorem addP1 : zeS zih (zhB []) e1E = 0 := by decide +kernel
theorem addP2 : zeS zih (zhB [e1E]) e2E = 0 := by decide +kernel
theorem addXP1 : zhV (zhB []) e1E = zhB [e1E] := addX_eq (ys := [dPE, e1E]) (List.Perm.refl _) (by decide +kernel) (by decide +kernel)
theorem addXP2 : zhV (zhB [e1E]) e2E = zhB [e1E, e2E] := addX_eq (ys := [dPE, e1E, e2E]) (List.Perm.refl _) (by decide +kernel) (by decide +kernel)
theorem checkLP1 : zaE zih (zhB [e1E]) = 0 := by decide +kernel
theorem dec1 : zdW zdn [0, 1, 0] 1 = (zhB [e1E], 0) := by
 rw [dec_add (p := zdn) (s := [0, 1, 0]) (k := 0) (x := zhB []) (hd := ⟨zdz, 1⟩) rfl rfl rfl (by decide) rfl (by show ¬ (zfI zih (zhB []) _).to = _; rw [askR_eq checkLP (by decide +kernel)]; decide +kernel)];rw [show zjA (zhB []) ⟨⟨0, 0, 1⟩, seaSee⟩ ⟨zdz, 1⟩ = e1E by decide +kernel];show (zhW zih (zhB []) e1E, zeS zih (zhB []) e1E) = _;rw [zhW, if_pos addP1, addXP1, addP1]
theorem dec2 : zdW zdn [0, 1, 0] 2 = (zhB [e1E], 0) :=
 dec_same (p := zdn) (s := [0, 1, 0]) (k := 1) (hd := ⟨zif, 0⟩) dec1 rfl rfl (by decide) rfl (by
  show (zfI zih (zhB [e1E]) _).to = _;rw [askR_eq checkLP1 (by decide +kernel)]; decide +kernel)
theorem dec3 : zdW zdn [0, 1, 0] 3 = (zhB [e1E, e2E], 0) := by
 rw [dec_add (p := zdn) (s := [0, 1, 0]) (k := 2) (hd := ⟨zdz, 1⟩) dec2 rfl rfl (by decide) rfl (by
  show ¬ (zfI zih (zhB [e1E]) _).to = _;rw [askR_eq checkLP1 (by decide +kernel)]; decide +kernel)]
 rw [show zjA (zhB [e1E]) ⟨⟨1, 0, 0⟩, seaSee⟩ ⟨zdz, 1⟩ = e2E by decide +kernel];show (zhW zih (zhB [e1E]) e2E, zeS zih (zhB [e1E]) e2E) = _;rw [zhW, if_pos addP2, addXP2, addP2]
theorem decideEE : zdx zdn = 0 ∧ zbp zdn = zhB [e1E, e2E] := by
 rw [zdx, zbp, if_pos allEE, if_pos allEE, setE];exact ⟨congrArg Prod.snd dec3, congrArg Prod.fst dec3⟩
theorem homP : homR zih (zhB []) = [zdz] := by rw [homV_eq checkLP]; decide +kernel
theorem moot2 : mootR zeQ = [zdz] := by
 rw [mootR, if_pos allE2, set2];show (homR zih (zhB [])).filter _ = _;rw [homP]; decide +kernel
theorem ex_01 : (if zcz zeQ = 0 then ((zab zeQ).length : Int) else 0) = 3 := by rw [if_pos checkP2, zjr]; rfl
theorem ex_02 : ((zeh zdn true)[0]?).getD [] = [0, 1, 0] := by rw [zeh, if_pos allEE, truthsE]; rfl
theorem in_ok {p : Poll} {n m : Int} (h : zcW p true = 0) (h1 : inB n 0 m = true) : zcW p (inB n 0 m) = 0 := by rw [h1]; exact h
theorem ex_03 : zcW zeQ (inB 1 0 ((zeQ.questions.length : Int) - 1)) = 0 := in_ok allE2 (by decide +kernel)
theorem ex_04 : openR zeQ 1 = [0, 1] := by rw [openR, if_pos ex_03, zjr]; decide +kernel
theorem ex_05 : zbk zeQ = [0, -1, -1] := by rw [zbk, if_pos allE2, set2]
theorem ex_06 : zcW zdn (inB 1 0 ((zdn.voters.length : Int) - 1)) = 0 := in_ok allEE (by decide +kernel)
theorem ex_07 : zhs zdn 1 = ⟨1, 1⟩ := by rw [zhs, if_pos ex_06, truthsE]; decide +kernel
theorem ex_08 : ziO zdn 0 = 0 := by rw [ziO, if_neg (by rw [checkPE]; decide), if_pos (by decide +kernel)]
theorem ex_09 : tallyR zdn 0 = [2, 0] := by rw [tallyR, if_pos ex_08]; decide +kernel
theorem ex_10 : askR7 zeQ = [1, 2] := by rw [askR7, if_pos allE2, zjr]; decide +kernel
theorem ex_11 : nextE zeQ = 0 := by rw [nextE, if_neg (by rw [allE2]; decide), zjr]; rfl
theorem ex_12 : nextR zeQ = 1 := by rw [nextR, if_pos ex_11, zjr]; decide +kernel
theorem ex_13 : ((zbp zdn).decisions.length : Int) = 3 := by rw [decideEE.2]; rfl
end Go.Pk

namespace Go.Pk
open Go Go.RowKit
def candX (l : List (List Int)) (n : Nat) : List (List Int) := l.flatMap fun x => (List.range n).map fun (h : Nat) => x ++ [(h : Int)]
def heads1 (x : List Int) (h : Nat) : List (List Int) := (List.range h).map fun (h : Nat) => x ++ [(h : Int)]
theorem setL_at {ts : List (List Int)} {a0 : List Int} (h0 : ts[0]? = some a0) {k : Nat} {h : Int} (e : (zdk ts)[k]? = some h) : ∃ a, a0[k]? = some a ∧ h = if (ts.all fun t => decide (t[k]? = some a)) = true then a else -1 := by
 rw [zdk, h0] at e;have hk : k < a0.length := by
  have := (List.getElem?_eq_some_iff.1 e).1;rwa [zfX] at this
 rw [setK_get hk] at e;refine ⟨_, List.getElem?_eq_getElem hk, ?_⟩;have e2 := Option.some.inj e;rw [← e2, setAt, List.getElem?_eq_getElem hk]
theorem set_pos {ts : List (List Int)} {k : Nat} {h : Int} (e : (zdk ts)[k]? = some h) (hp : 0 ≤ h) : ∀ t ∈ ts, t[k]? = some h := by
 cases h0 : ts[0]? with
 | none => rw [zdk, h0] at e; cases e
 | some a0 =>
  obtain ⟨a, ha, q⟩ := setL_at h0 e;split at q
  ·rename_i c;subst q;intro t ht;simpa using List.all_eq_true.1 c t ht
  ·omega
theorem set_len7 {p : Poll} (hn : zab p ≠ []) : (zdk (zab p)).length = p.questions.length := by
 cases e : zab p with
 | nil => exact absurd e hn
 | cons a0 ts =>
  show (setK (a0 :: ts) a0).length = _;rw [zfX]; exact zdZ (by rw [e]; exact List.mem_cons_self)
def forN (vs : List Voter) (q : Nat) (h : Int) : Nat := (vs.filter fun v => decide (v.votes[q]? = some h)).length
theorem set_in {p : Poll} (hn : zab p ≠ []) {k : Nat} {q : Question} (hq : p.questions[k]? = some q) {h : Int} (hs : (zdk (zab p))[k]? = some h) (h0 : 0 ≤ h) : h < (q.heads.length : Int) := by
 obtain ⟨t, ht⟩ := List.exists_mem_of_ne_nil _ hn;obtain ⟨b, hb, _, h1⟩ := truth_at ht hq;rw [set_pos hs h0 t ht] at hb;cases hb; exact h1
theorem homR_len {t : Text} {x : Lexicon} (h : zaE t x = 0) : (homR t x).length ≤ 1000 := by
 rw [homR, if_pos h];have q := setL_len sLt_T (homsN (zbA t x) (zbA t x).length);have q2 := zic (zbA t x) (zbA t x).length;have q3 := entries_len (zdQ h) x;omega
theorem dec_bad {p : Poll} {s : List Int} : ∀ k, ¬ (zdW p s k).2 = 0 → (zdW p s k).1 = zfn
 | 0, h => absurd rfl h
 | k + 1, h => by
  have ih := dec_bad (p := p) (s := s) k;rw [zdW] at h ⊢
  by_cases h0 : (zdW p s k).2 = 0
  ·rw [if_pos h0] at h ⊢;split at h
   ·rename_i q c hq hs;unfold decQ at h ⊢;split at h
    ·exact absurd rfl h
    ·rename_i c1;rw [if_neg c1];split at h
     ·exact absurd rfl h
     ·rename_i c2; rw [if_neg c2]; exact addN_bad h
   ·exact absurd h0 h
  ·rw [if_neg h0] at h ⊢; exact ih h
theorem decide_ok (p : Poll) : zaE p.text (zbp p) = 0 ∨ zbp p = zfn := by
 rw [zbp]
 by_cases h : zcW p true = 0
 ·rw [if_pos h];have hx := (zbJ (zhq h).1).1
  by_cases h2 : (zdW p (zdk (zab p)) (zdk (zab p)).length).2 = 0
  ·exact .inl (dec_check hx _ h2)
  ·exact .inr (dec_bad _ h2)
 rw [if_neg h]; exact .inr rfl
theorem decide_len1 (p : Poll) : (zbp p).rules.length ≤ 281474976710656 := by
 rcases decide_ok p with h | h
 ·have := lexicon_12 h; omega
 rw [h]; decide
theorem decide_len2 (p : Poll) : (zbp p).decisions.length ≤ 281474976710656 := by
 rcases decide_ok p with h | h
 ·have := zhk h; omega
 rw [h]; decide
end Go.Pk

namespace Go.Pk
open Go Go.RowKit
end Go.Pk

namespace Go.Pk
open Go Go.RowKit
theorem allE_or {p : Poll} (h : zcz p = 0) : (zcW p true = 0 ∧ zab p ≠ []) ∨ (zcW p true = 8 ∧ zab p = []) := by
 rw [zcW, if_neg (by simp [h]), if_neg (by simp)]
 by_cases e : zab p = []
 ·exact .inr ⟨by rw [if_pos e], e⟩
 exact .inl ⟨by rw [if_neg e], e⟩
def openN (p : Poll) (k : Nat) : List Int := if zcW p true = 0 then ziF (zab p) k (((p.questions[k]?).getD zhZ).heads.length) else []
theorem settled_ok {p : Poll} (h : zcW p true = 0) : zbk p = zdk (zab p) := by rw [zbk, if_pos h]
def wrongsN (p : Poll) (k : Nat) : Span := zhs p (k : Int)
def moreP (p : Poll) (v : Voter) : Poll := ⟨p.text, p.lexicon, p.questions, p.voters ++ [v]⟩
theorem settledN_len {p : Poll} (h : zcW p true = 0) : (zbk p).length = p.questions.length := by
 rw [settled_ok h, set_len7 (zhq h).2.2.1]
def rotP (p : Poll) (ys : List Voter) : Poll := ⟨p.text, p.lexicon, p.questions, ys⟩
def RotN (vs ys : List Voter) (k i : Nat) : Prop := ys.length = vs.length ∧ ∀ j, j < i → ys[j]? = vs[(j + k) % vs.length]?
theorem RotN.step {vs ys : List Voter} {k i : Nat} {v : Voter} (h : RotN vs ys k i) (hi : i < vs.length) (hv : vs[(i + k) % vs.length]? = some v) : RotN vs (ys.set i v) k (i + 1) := by
 refine ⟨by rw [List.length_set]; exact h.1, fun j hj => ?_⟩
 by_cases e : j = i
 ·subst e; rw [List.getElem?_set_self (by rw [h.1]; exact hi), hv]
 rw [List.getElem?_set_ne (Ne.symm e)]; exact h.2 j zr
theorem RotN.perm {vs ys : List Voter} {k i : Nat} (h : RotN vs ys k i) (hi : vs.length ≤ i) (hk : k < vs.length) : ys.Perm vs := by
 have e : ys = vs.drop k ++ vs.take k := by
  refine List.ext_getElem? fun j => ?_
  by_cases hj : j < vs.length
  ·rw [h.2 j zr]
   by_cases c : j + k < vs.length
   ·rw [Nat.mod_eq_of_lt c, List.getElem?_append_left (by rw [List.length_drop]; omega), List.getElem?_drop, Nat.add_comm]
   ·have e2 : (j + k) % vs.length = j + k - vs.length := by
     rw [Nat.mod_eq_sub_mod zr, Nat.mod_eq_of_lt zr]
    rw [e2, List.getElem?_append_right (by rw [List.length_drop]; omega), List.length_drop, List.getElem?_take, if_pos zr];congr 1; omega
  ·rw [List.getElem?_eq_none (by rw [h.1]; omega), List.getElem?_eq_none (by rw [List.length_append, List.length_drop, List.length_take]; omega)]
 rw [e];have := List.perm_append_comm (l₁ := vs.drop k) (l₂ := vs.take k);rwa [List.take_append_drop] at this
structure RotE (p x : Poll) : Prop where
 ck : zcz x = zcz p
 ts : zab x = zab p
 al : ∀ so, zcW x so = zcW p so
 se : zbk x = zbk p
 ak : askR7 x = askR7 p
 dr : zbp x = zbp p
 de : zdx x = zdx p
def wrongsV (p : Poll) (v : Voter) : Span := if zcW p true = 0 then spanK v (zab p) else zSpan
def maxIdN (vs : List Voter) : Int := vs.foldl (fun a v => zhj a v.id) 0
def expAt (hs qs : List Int) (k : Nat) : Int := if (k : Int) ∈ qs then (hs[k]?).getD 0 else -1
def expL (hs qs : List Int) (n : Nat) : List Int := (List.range n).map (expAt hs qs)
def expertV (p : Poll) (hs qs : List Int) : Voter := ⟨maxIdN p.voters + 1, 0, expL hs qs p.questions.length⟩
end Go.Pk

namespace Go.Pk
open Go Go.RowKit
def oddE : Poll := { zdn with voters := [⟨2, 0, [-1, 1, -1]⟩, ⟨2, 1, [0, 0, 0]⟩, ⟨8, 1, [0, -1, 1]⟩] }
def tornE : Poll := { zdn with lexicon := ⟨[], [⟨0, 3, [], ⟨1, 0, 2⟩, ⟨wSee, 2⟩, 0⟩]⟩ }
def noneE : Poll := { zdn with voters := [⟨5, 0, [-1, 1, -1]⟩, ⟨2, 0, [0, 0, 0]⟩, ⟨8, 1, [0, -1, 1]⟩] }
end Go.Pk

namespace Go.Pk
open Go Go.RowKit
section
variable {t : Text} {x : Lexicon} {d : Decision}
theorem conc_kind {e : Decision} {p : Place} {wd : Str} (h : zdC e p wd = true) : e.kind ≤ 3 := by
 unfold zdC at h;split at h
 ·omega
 split at h
 ·omega
 split at h
 ·omega
 cases h
theorem win_place (h : zeS t x d = 0) (hk : d.kind = 3) (hm : ∀ e ∈ x.decisions, e.number < d.number) (wd : Str) : zcY (zhV x d) d.at_ wd = d := by
 obtain ⟨_, hy, _⟩ := addX_ok h;have hd : d ∈ (zhV x d).decisions := mem_addX.2 (.inr rfl);have hle : ∀ e ∈ (zhV x d).decisions, e.number ≤ d.number := by
  intro e he
  rcases mem_addX.1 he with q | rfl
  ·exact Int.le_of_lt (hm e q)
  ·exact Int.le_refl _
 have hs : d.number ∈ ziP (zhV x d) := (standS_at hy hd).2 (stands_free hy (hy.2 d hd).1 fun v hv hv4 => by
  have q1 := (hy.2 v hv).2.2 hv4;have q2 := hle v hv;omega)
 have hc : zdC d d.at_ wd = true := by simp [zdC, hk]
 obtain ⟨w1, w2, w3, w4, w5⟩ := wins_some hy hd hs hc
 by_cases e : d.number = (zcY (zhV x d) d.at_ wd).number
 ·exact zjd hy.1 w1 hd e.symm
 have hl := w5 d hd hs hc e;have h1 := conc_kind w4;have h2 := hle _ w1;unfold lexD at hl;omega
theorem win_else (h : zeS t x d = 0) (hk : d.kind = 3) {p : Place} (hp : d.at_ ≠ p) (wd : Str) : zcY (zhV x d) p wd = zcY x p wd := by
 obtain ⟨hx, hy, hd⟩ := addX_ok h;rw [winV_eq hx, winV_eq hy];refine winV_of rfl hx ((List.perm_ext_iff_of_nodup (countV_nodup hy _ _) (countV_nodup hx _ _)).2 fun e => ?_);have hs : ∀ e, zcH (zhV x d) e = zcH x e := fun e => standsF_more zr 1000 e;rw [zhn, zhn, hs, mem_addX];constructor
 ·rintro ⟨h1 | rfl, h2, h3⟩
  ·exact ⟨h1, h2, h3⟩
  ·simp [zdC, hk, hp] at h3
 rintro ⟨h1, h2, h3⟩; exact ⟨.inl h1, h2, h3⟩
end
theorem before_trans {a b c : Place} (h1 : zdi a b = true) (h2 : zdi b c = true) : zdi a c = true := by
 rcases a with ⟨c1, l1, w1⟩; rcases b with ⟨c2, l2, w2⟩; rcases c with ⟨c3, l3, w3⟩
 simp only [zdi] at *
 by_cases q1 : c1 = c2 <;> by_cases q2 : c2 = c3 <;> by_cases q3 : l1 = l2 <;> by_cases q4 : l2 = l3 <;> by_cases q5 : c1 = c3 <;> by_cases q6 : l1 = l3 <;> simp_all <;> omega
theorem before_ne {a b : Place} (h : zdi a b = true) : a ≠ b := by
 rintro rfl;simp [zdi] at h
theorem quest_lt {p : Poll} (h : zcZ p = true) {i : Nat} {a : Question} (ha : p.questions[i]? = some a) : ∀ (d : Nat) {b : Question}, p.questions[i + d + 1]? = some b → zdi a.at_ b.at_ = true := by
 have step : ∀ (k : Nat) {u v : Question}, p.questions[k]? = some u → p.questions[k + 1]? = some v → zdi u.at_ v.at_ = true := by
  intro k u v hu hv;simp only [zcZ, Bool.and_eq_true, List.all_eq_true] at h;have h1 := h.1.2 (k + 1) (List.mem_range.2 (List.getElem?_eq_some_iff.1 hv).1);simp only [zex, hv, Bool.and_eq_true, Nat.add_sub_cancel, hu, Option.getD_some] at h1;have h2 := h1.1.1.2;simpa using h2
 intro d
 induction d with
 | zero => intro b hb; exact step i ha hb
 | succ d ih =>
  intro b hb;have hlt : i + d + 1 < p.questions.length := by have := (List.getElem?_eq_some_iff.1 hb).1; omega
  exact before_trans (ih (List.getElem?_eq_getElem hlt)) (step _ (List.getElem?_eq_getElem hlt) hb)
theorem quest_ne {p : Poll} (h : zcZ p = true) {i j : Nat} {a b : Question} (ha : p.questions[i]? = some a) (hb : p.questions[j]? = some b) (hij : i ≠ j) : a.at_ ≠ b.at_ := by
 rcases Nat.lt_or_gt_of_ne hij with q | q
 ·exact before_ne (quest_lt h ha (j - i - 1) (by rw [show i + (j - i - 1) + 1 = j by omega]; exact hb))
 exact (before_ne (quest_lt h hb (i - j - 1) (by rw [show j + (i - j - 1) + 1 = i by omega]; exact ha))).symm
def hdA (t : Text) (x : Lexicon) (q : Question) : Head := (zcY x q.at_ (zbx t q.at_)).to
def hdQ (q : Question) (h : Int) : Head := (q.heads[h.toNat]?).getD zdy
def chgB (p : Poll) (s : List Int) (j : Nat) : Bool := match p.questions[j]?, s[j]? with
 | some q, some h => decide (0 ≤ h) && decide (hdA p.text p.lexicon q ≠ hdQ q h)
 | _, _ => false
theorem chg_at {p : Poll} {s : List Int} {j : Nat} {q : Question} {h : Int} (hq : p.questions[j]? = some q) (hs : s[j]? = some h) : chgB p s j = (decide (0 ≤ h) && decide (hdA p.text p.lexicon q ≠ hdQ q h)) := by rw [chgB, hq, hs]
def chgN (p : Poll) (s : List Int) (k : Nat) : Nat := ((List.range k).filter (chgB p s)).length
theorem zeY (p : Poll) (s : List Int) (k : Nat) : chgN p s (k + 1) = chgN p s k + if chgB p s k = true then 1 else 0 := by
 rw [chgN, List.range_succ, List.filter_append, List.length_append, List.filter_cons];split <;> simp [chgN]
structure DecI (p : Poll) (s : List Int) (k : Nat) (x : Lexicon) : Prop where
 ck : zaE p.text x = 0
 mono : zfZ p.lexicon.decisions ≤ zfZ x.decisions
 out : ∀ (pl : Place) (w : Str), (∀ (j : Nat) (q : Question) (h : Int), j < k → p.questions[j]? = some q → s[j]? = some h → 0 ≤ h → q.at_ ≠ pl) → zcY x pl w = zcY p.lexicon pl w
 ins : ∀ (j : Nat) (q : Question) (h : Int), j < k → p.questions[j]? = some q → s[j]? = some h → 0 ≤ h → hdA p.text x q = hdQ q h ∧ (hdA p.text p.lexicon q = hdQ q h → zcY x q.at_ (zbx p.text q.at_) = zcY p.lexicon q.at_ (zbx p.text q.at_)) ∧ (hdA p.text p.lexicon q ≠ hdQ q h → zfZ p.lexicon.decisions < (zcY x q.at_ (zbx p.text q.at_)).number)
 len : x.decisions.length = p.lexicon.decisions.length + chgN p s k
theorem askR_hdA {t : Text} {x : Lexicon} {q : Question} (hx : zaE t x = 0) (hp : zbm t q.at_ = true) : (zfI t x q.at_).to = hdA t x q := by rw [askR_win hx hp]; rfl
theorem mostN_addX {x : Lexicon} {d : Decision} : zfZ x.decisions ≤ zfZ (zhV x d).decisions := by
 have key : ∀ (l : List Decision) (n : Int), (∀ e ∈ l, e.number ≤ n) → 0 ≤ n → zfZ l ≤ n := fun l n h1 h2 => fold_max_le l _ _ h2 h1;refine key _ _ (fun e he => mostN_ge (mem_addX.2 (.inl he))) (mostN_pos _)
theorem dec_inv {p : Poll} {s : List Int} (hp : zcZ p = true) (hx : zaE p.text p.lexicon = 0) : ∀ (k : Nat) (x : Lexicon), k ≤ s.length → s.length ≤ p.questions.length → zdW p s k = (x, 0) → DecI p s k x
 | 0, x, _, _, h => by
  have : p.lexicon = x := congrArg Prod.fst h;subst this;exact ⟨hx, Int.le_refl _, fun _ _ _ => rfl, fun j _ _ h => absurd h zr, by simp [chgN]⟩
 | k + 1, x, hk, hl, h => by
  obtain ⟨q, hq⟩ : ∃ q, p.questions[k]? = some q := ⟨_, List.getElem?_eq_getElem zr⟩;obtain ⟨c, hc⟩ : ∃ c, s[k]? = some c := ⟨_, List.getElem?_eq_getElem zr⟩;have hpl := (zgh hp hq).1
  by_cases e0 : (zdW p s k).2 = 0
  ·have I := dec_inv hp hx k (zdW p s k).1 zr hl (Prod.ext rfl e0);obtain ⟨y, hy⟩ : ∃ y, y = (zdW p s k).1 := ⟨_, rfl⟩;rw [← hy] at I;have hyk : zdW p s k = (y, 0) := by rw [hy]; exact Prod.ext rfl e0
   have hself : zcY y q.at_ (zbx p.text q.at_) = zcY p.lexicon q.at_ (zbx p.text q.at_) := I.out _ _ fun j q' h' hj hq' _ _ => quest_ne hp hq' hq zr;have hA : hdA p.text y q = hdA p.text p.lexicon q := by rw [hdA, hself]; rfl
   have same : y = x → chgB p s k = false → (0 ≤ c → hdA p.text p.lexicon q = hdQ q c) → DecI p s (k + 1) x := by
    rintro rfl hn hh;refine ⟨I.ck, I.mono, fun pl w hpl => I.out pl w fun j q' h' hj => hpl j q' h' zr, fun j q' h' hj hq' hs' h0 => ?_, ?_⟩
    ·rcases Nat.lt_succ_iff_lt_or_eq.1 hj with q1 | rfl
     ·exact I.ins j q' h' q1 hq' hs' h0
     ·rw [hq] at hq'; rw [hc] at hs'; cases hq'; cases hs';exact ⟨hA.trans (hh h0), fun _ => hself, fun hne => absurd (hh h0) hne⟩
    ·rw [I.len, zeY, hn]; simp
   by_cases h0 : c < 0
   ·rw [dec_skip hyk hq hc h0] at h;exact same (congrArg Prod.fst h) (by rw [chg_at hq hc, decide_eq_false zr]; rfl) (fun hh => absurd hh zr)
   ·have hto := askR_hdA I.ck hpl
    by_cases e1 : hdA p.text p.lexicon q = hdQ q c
    ·have h9 : zdW p s (k + 1) = (y, 0) := by simp only [zdW, hyk, if_true, hq, hc, decQ, if_neg h0]; rw [if_pos (by rw [hto, hA, e1]; rfl)]
     rw [h9] at h;exact same (congrArg Prod.fst h) (by rw [chg_at hq hc, decide_eq_false (p := hdA p.text p.lexicon q ≠ hdQ q c) (fun z => z e1), Bool.and_false]) (fun _ => e1)
    ·have h9 : zdW p s (k + 1) = (zhW p.text y (zjA y q (hdQ q c)), zeS p.text y (zjA y q (hdQ q c))) := by simp only [zdW, hyk, if_true, hq, hc, decQ, if_neg h0]; rw [if_neg (by rw [hto, hA]; exact e1)]; rfl
     rw [h9] at h;have hz : zeS p.text y (zjA y q (hdQ q c)) = 0 := congrArg Prod.snd h;have hxx : zhV y (zjA y q (hdQ q c)) = x := by have q_ := congrArg Prod.fst h; simp only [zhW, if_pos hz] at q_; exact q_
     have hnew : ∀ e ∈ y.decisions, e.number < (zjA y q (hdQ q c)).number := fun e he => by have := mostN_ge he; show e.number < zfZ y.decisions + 1; omega
     have hw := win_place hz rfl hnew (zbx p.text q.at_);rw [hxx] at hw;have hel : ∀ (pl : Place) (w : Str), q.at_ ≠ pl → zcY x pl w = zcY y pl w := by
      intro pl w hne;have := win_else hz rfl (p := pl) hne w;rw [hxx] at this; exact this
     have hm2 : zfZ y.decisions ≤ zfZ x.decisions := by rw [← hxx]; exact mostN_addX
     have hck : zaE p.text x = 0 := by rw [← hxx]; exact addX_check (addE_zero hz).2.2
     refine ⟨hck, Int.le_trans I.mono hm2, fun pl w hpl => ?_, fun j q' h' hj hq' hs' h0' => ?_, ?_⟩
     ·rw [hel pl w (hpl k q c zr hq hc zr)];exact I.out pl w fun j q' h' hj => hpl j q' h' zr
     ·rcases Nat.lt_succ_iff_lt_or_eq.1 hj with q1 | rfl
      ·have hne : q.at_ ≠ q'.at_ := quest_ne hp hq hq' zr;obtain ⟨a1, a2, a3⟩ := I.ins j q' h' q1 hq' hs' h0';have e := hel q'.at_ (zbx p.text q'.at_) hne;refine ⟨by rw [hdA, e]; exact a1, fun z => e.trans (a2 z), fun z => by rw [e]; exact a3 z⟩
      ·rw [hq] at hq'; rw [hc] at hs'; cases hq'; cases hs';have hw' : zcY x q.at_ (zbx p.text q.at_) = zjA y q (hdQ q c) := hw;refine ⟨by rw [hdA, hw']; rfl, fun z => absurd z e1, fun _ => ?_⟩;rw [hw'];show zfZ p.lexicon.decisions < zfZ y.decisions + 1;have := I.mono;omega
     ·have hpm := (addX_perm y (zjA y q (hdQ q c))).length_eq;rw [hxx, List.length_append, I.len] at hpm;rw [hpm, zeY, chg_at hq hc, decide_eq_true (show 0 ≤ c by omega), decide_eq_true e1]; simp; omega
  ·exfalso;have h1 := dec_stop (p := p) (s := s) (k := k) e0 1;rw [h1] at h;exact e0 (congrArg Prod.snd h)
end Go.Pk

namespace Go.Pk
open Go Go.RowKit
section
variable {p : Poll} {k : Nat} {q : Question} {ch : Int} {pl : Place}
theorem fol_ok (hk1 : zcz p = 0) (he : zdx p = 0) : zcW p true = 0 ∧ (zbk p).length = p.questions.length ∧ DecI p (zbk p) p.questions.length (zbp p) := by
 have ha : zcW p true = 0 := by
  refine Classical.byContradiction fun h => ?_;rw [zdx, if_neg h] at he;exact h he
 have hl := settledN_len ha;have hc := zbJ hk1;refine ⟨ha, hl, ?_⟩;rw [← hl];refine dec_inv hc.2 hc.1 _ _ (Nat.le_refl _) zr ?_;rw [settled_ok ha];rw [zdx, if_pos ha] at he;rw [zbp, if_pos ha];exact Prod.ext rfl he
theorem chgN_le (p : Poll) (s : List Int) (k : Nat) : chgN p s k ≤ k := by
 have := List.length_filter_le (chgB p s) (List.range k);rw [List.length_range] at this;exact this
theorem addE_kind {t : Text} {x : Lexicon} {d : Decision} (h : zaE t x = 0) : zeS t x d = 0 ∨ zeS t x d = 9 ∨ zeS t x d = 41 := by
 rw [zeS, if_neg (by simp [h])];split
 ·exact .inr (.inl rfl)
 split
 ·exact .inr (.inr rfl)
 exact .inl rfl
theorem decK_kind (hx : zaE p.text p.lexicon = 0) (s : List Int) : ∀ k, (zdW p s k).2 = 0 ∨ (zdW p s k).2 = 9 ∨ (zdW p s k).2 = 41
 | 0 => .inl rfl
 | k + 1 => by
  have ih := decK_kind hx s k;rw [zdW]
  by_cases h0 : (zdW p s k).2 = 0
  ·rw [if_pos h0];split
   ·unfold decQ;split
    ·exact .inl rfl
    ·split
     ·exact .inl rfl
     ·exact addE_kind (dec_check hx k h0)
   ·exact ih
  ·rw [if_neg h0]; exact ih
theorem fol_err (hk1 : zcz p = 0) (he : ¬ zdx p = 0) : (zcW p true = 8 ∧ zdx p = 8) ∨ (zcW p true = 0 ∧ (zdx p = 9 ∨ zdx p = 41)) := by
 rcases allE_or hk1 with ⟨h, _⟩ | ⟨h, _⟩
 ·refine .inr ⟨h, ?_⟩;rw [zdx, if_pos h] at he ⊢;exact (decK_kind (zbJ hk1).1 _ _).resolve_left he
 exact .inl ⟨h, by rw [zdx, if_neg zr, h]⟩
theorem fol_lt (hk1 : zcz p = 0) (ha : zcW p true = 0) (hq : p.questions[k]? = some q) (hs : (zbk p)[k]? = some ch) : ch < (q.heads.length : Int) := by
 by_cases h0 : 0 ≤ ch
 ·rw [settled_ok ha] at hs;exact set_in (zhq ha).2.2.1 hq hs h0
 omega
theorem fol_neg (hk1 : zcz p = 0) (I : DecI p (zbk p) p.questions.length (zbp p)) (hq : p.questions[k]? = some q) (hs : (zbk p)[k]? = some ch) (h0 : ch < 0) : zcY (zbp p) q.at_ (zbx p.text q.at_) = zcY p.lexicon q.at_ (zbx p.text q.at_) :=
 I.out _ _ fun j q' h' _ hq' hs' h0' => quest_ne (zbJ hk1).2 hq' hq (by rintro rfl; rw [hs] at hs'; cases hs'; omega)
theorem fol_pos (I : DecI p (zbk p) p.questions.length (zbp p)) (hq : p.questions[k]? = some q) (hs : (zbk p)[k]? = some ch) (h0 : 0 ≤ ch) : hdA p.text (zbp p) q = hdQ q ch :=
 (I.ins k q ch (List.getElem?_eq_some_iff.1 hq).1 hq hs h0).1
theorem ziI (hk1 : zcz p = 0) (I : DecI p (zbk p) p.questions.length (zbp p)) (hq : p.questions[k]? = some q) (hs : (zbk p)[k]? = some ch) : chgB p (zbk p) k = decide (hdA p.text p.lexicon q ≠ hdA p.text (zbp p) q) := by
 rw [chg_at hq hs]
 by_cases h0 : 0 ≤ ch
 ·rw [fol_pos I hq hs h0, decide_eq_true h0, Bool.true_and]
 rw [decide_eq_false h0, Bool.false_and];refine (decide_eq_false fun h => h ?_).symm;rw [hdA, hdA, fol_neg hk1 I hq hs zr]
theorem fol_out (I : DecI p (zbk p) p.questions.length (zbp p)) (hno : ∀ (j : Nat) (q : Question) (h : Int), j < p.questions.length → p.questions[j]? = some q → (zbk p)[j]? = some h → q.at_ = pl → h < 0) (w : Str) : zcY (zbp p) pl w = zcY p.lexicon pl w :=
 I.out _ _ fun j q' h' hj hq' hs' h0' e => by have := hno j q' h' hj hq' hs' e; omega
def noSet (p : Poll) (pl : Place) (k : Nat) : Prop := ∀ (j : Nat) (q : Question) (h : Int), j < k → p.questions[j]? = some q → (zbk p)[j]? = some h → q.at_ = pl → h < 0
theorem noSet_zero : noSet p pl 0 := fun _ _ _ h => absurd h zr
theorem noSet_a (h : noSet p pl k) (hq : p.questions[k]? = some q) (hne : ¬ q.at_ = pl) : noSet p pl (k + 1) := by
 intro j q' h' hj hq' hs' e
 rcases Nat.lt_succ_iff_lt_or_eq.1 hj with q1 | rfl
 ·exact h j q' h' q1 hq' hs' e
 rw [hq] at hq'; cases hq'; exact absurd e hne
theorem noSet_b (h : noSet p pl k) (hs : (zbk p)[k]? = some ch) (h0 : ¬ 0 ≤ ch) : noSet p pl (k + 1) := by
 intro j q' h' hj hq' hs' e
 rcases Nat.lt_succ_iff_lt_or_eq.1 hj with q1 | rfl
 ·exact h j q' h' q1 hq' hs' e
 rw [hs] at hs'; cases hs'; omega
def plcN (t : Text) (n : Nat) : Place := ((zbI t)[n]?).getD zdE
def subN (n : Int) : Nat → Int
 | 0 => n
 | k + 1 => subN n k - 1
theorem subN_eq (n : Int) : ∀ k : Nat, subN n k = n - (k : Int)
 | 0 => by simp [subN]
 | k + 1 => by rw [subN, subN_eq n k]; omega
theorem plcN_at {t : Text} {n : Nat} {pl : Place} (h : (zbI t)[n]? = some pl) : plcN t n = pl := by rw [plcN, h]; rfl
theorem lexB_ok {t : Text} {x : Lexicon} (h : zaE t x = 0) : zcl t x = true := by
 unfold zaE at h;cases e : zcl t x with
 | true => rfl
 | false => simp [e] at h; split at h <;> cases h
end
end Go.Pk
