/- A PART OF THE PROOF: contracts of functions, each walked once (much of it printed by a program of the author's own). -/
import Derived.Test.YtjdbapoodefncaaGreatDoorT3
import Derived.Test.YtjdbapoodefncaaGreatDoorT2
import Derived.Test.YtjdbapoodefncaaGreatDoorT1
set_option linter.unusedSimpArgs false
set_option linter.unusedVariables false
set_option maxRecDepth 4000
namespace Go.Pk
open Go Go.RowKit
def maxL : List Int → Int
 | [] => 0
 | a :: l => l.foldl zfW a
theorem maxL_take {l : List Int} {k : Nat} {x : Int} (h : l[k]? = some x) (hk : 1 ≤ k) : maxL (l.take (k + 1)) = zfW (maxL (l.take k)) x := by
 cases l with
 | nil => simp at h
 | cons a l =>
  obtain ⟨m, rfl⟩ : ∃ m, k = m + 1 := ⟨k - 1, by omega⟩;simp only [List.getElem?_cons_succ] at h;simp only [List.take_succ_cons, maxL];rw [zaY h, List.foldl_append]; rfl
theorem maxL_one {l : List Int} {x : Int} (h : l[0]? = some x) : maxL (l.take 1) = x := by
 cases l with
 | nil => simp at h
 | cons a l => simp at h; subst h; rfl
theorem worst3 (ts : List (List Int)) (q : Nat) {a b c : Int} (ha : a = (zgS ts q 0 : Nat)) (hb : b = (zgS ts q 1 : Nat)) (hc : c = (zgS ts q 2 : Nat)) : maxL [a, b, c] = zdk ts q := by
 subst ha hb hc;show zfW (zfW (zgS ts q 0 : Int) (zgS ts q 1 : Int)) (zgS ts q 2 : Int) = zfW (zfW (zfW 0 (zgS ts q 0 : Int)) (zgS ts q 1 : Int)) (zgS ts q 2 : Int);have e : zfW 0 (zgS ts q 0 : Int) = (zgS ts q 0 : Int) := by unfold zfW; split <;> omega
 rw [e]
theorem cmpL_lt : ∀ {a b : List Int}, a.length = b.length → decide (cmpL a b < 0) = ltL a b
 | [], [], _ => rfl
 | x :: a, y :: b, h => by
  have ih := cmpL_lt (a := a) (b := b) (by simpa using h);simp only [cmpL, ltL, zda]
  by_cases e : x = y
  ·subst e; simp; rw [← ih]
  ·rw [if_neg e]
   by_cases h1 : x < y
   ·simp [h1]
   ·have h2 : y < x := by omega
    simp [h1, h2]
 | [], _ :: _, h => by simp at h
 | _ :: _, [], h => by simp at h
theorem before_eq (a b : List Int) : decide (orL [(a.length : Int) - (b.length : Int), cmpL a b] < 0) = zdH a b := by
 unfold zdH
 by_cases e : a.length = b.length
 ·rw [if_neg zq, ← cmpL_lt e];simp only [orL, show (a.length : Int) - (b.length : Int) = 0 by omega, ne_eq, not_true_eq_false, if_false]
  by_cases h : cmpL a b = 0 <;> simp [h]
 rw [if_pos e];simp only [orL, ne_eq, show ¬ (a.length : Int) - (b.length : Int) = 0 by omega, not_false_eq_true, if_true];rw [Bool.eq_iff_iff, decide_eq_true_eq, decide_eq_true_eq]; omega
theorem members_none {s : Int} {n k : Nat} (h0 : 0 ≤ s) (h1 : s < 2 ^ n) (hk : n ≤ k) : zgX s (k : Int) = 0 := by
 have h2 : (2 : Int) ^ n ≤ 2 ^ k := by
  have := Nat.pow_le_pow_right (n := 2) zq hk
  exact_mod_cast this
 rw [zgX, Int.toNat_natCast, Int.ediv_eq_zero_of_lt h0 zq]; rfl
theorem members_top {s : Int} {n : Nat} (h0 : 0 ≤ s) (h1 : s < 2 ^ n) : ∀ d, zax s (n + d) = zax s n
 | 0 => rfl
 | d + 1 => by
  rw [← Nat.add_assoc, zgO, if_neg (by rw [members_none h0 h1 zq]; decide), List.append_nil];exact members_top h0 h1 d
theorem members_six {s : Int} {n : Nat} (h0 : 0 ≤ s) (h1 : s < 2 ^ n) (hn : n ≤ 6) : zax s 6 = zax s n := by
 have := members_top h0 h1 (6 - n);rwa [show n + (6 - n) = 6 by omega] at this
def zgl {α : Type} (lt : α → α → Bool) (l : List α) : Option α := l.foldl (fun o x => match o with | none => some x | some b => if lt x b = true then some x else some b) none
def zet {α : Type} (lt : α → α → Bool) (z : α) (l : List α) : α := (zgl lt l).getD z
theorem zfw {α : Type} (lt : α → α → Bool) (l : List α) (x : α) : zgl lt (l ++ [x]) = match zgl lt l with | none => some x | some b => if lt x b = true then some x else some b := by simp [zgl]
theorem ziI {α : Type} {lt : α → α → Bool} : ∀ {l : List α}, (zgl lt l).isSome = !l.isEmpty := by
 intro l
 rcases List.eq_nil_or_concat l with rfl | ⟨l, x, rfl⟩
 ·rfl
 rw [List.concat_eq_append, zfw];cases zgl lt l with
 | none => simp
 | some b => simp only; split <;> simp
theorem first_one {α : Type} {lt : α → α → Bool} {z x : α} {l : List α} (h : (!l.isEmpty) = false) : zet lt z (l ++ [x]) = x := by
 have e := ziI (lt := lt) (l := l);rw [h] at e;rw [zet, zfw];cases h2 : zgl lt l with
 | none => rfl
 | some b => rw [h2] at e; cases e
theorem first_new {α : Type} {lt : α → α → Bool} {z x : α} {l : List α} (h : (!l.isEmpty) = true) (hl : lt x (zet lt z l) = true) : zet lt z (l ++ [x]) = x := by
 have e := ziI (lt := lt) (l := l);rw [h] at e;rw [zet] at hl ⊢;rw [zfw];cases h2 : zgl lt l with
 | none => rw [h2] at e; cases e
 | some b => rw [h2] at hl; simp only [Option.getD_some] at hl; simp [hl]
theorem first_old {α : Type} {lt : α → α → Bool} {z x : α} {l : List α} (h : (!l.isEmpty) = true) (hl : lt x (zet lt z l) = false) : zet lt z (l ++ [x]) = zet lt z l := by
 have e := ziI (lt := lt) (l := l);rw [h] at e;rw [zet] at hl ⊢;rw [zet, zfw];cases h2 : zgl lt l with
 | none => rw [h2] at e; cases e
 | some b => rw [h2] at hl; simp only [Option.getD_some] at hl; simp [hl]
theorem firstO_mem {α : Type} {lt : α → α → Bool} : ∀ {l : List α} {o : Option α} {b : α}, l.foldl (fun o x => match o with | none => some x | some b => if lt x b = true then some x else some b) o = some b → b ∈ l ∨ o = some b
 | [], o, b, h => .inr h
 | x :: l, o, b, h => by
  rw [List.foldl_cons] at h
  rcases firstO_mem h with q | q
  ·exact .inl (List.mem_cons_of_mem _ q)
  ·cases o with
   | none => simp only [Option.some.injEq] at q; subst q; exact .inl List.mem_cons_self
   | some c =>
    simp only at q;split at q
    ·simp only [Option.some.injEq] at q; subst q; exact .inl List.mem_cons_self
    ·exact .inr q
theorem firstL_mem {α : Type} {lt : α → α → Bool} {z : α} {l : List α} (h : (!l.isEmpty) = true) : zet lt z l ∈ l := by
 have e := ziI (lt := lt) (l := l);rw [h] at e;rw [zet];cases h2 : zgl lt l with
 | none => rw [h2] at e; cases e
 | some b =>
  rcases firstO_mem h2 with q | q
  ·exact q
  ·cases q
def askC (ts : List (List Int)) (n k : Nat) : List (List Int) := ((List.range k).filter fun (s : Nat) => zdB ts (zax (s : Int) n)).map fun (s : Nat) => zax (s : Int) n
theorem askC_succ (ts : List (List Int)) (n k : Nat) : askC ts n (k + 1) = askC ts n k ++ if zdB ts (zax (k : Int) n) = true then [zax (k : Int) n] else [] := by
 rw [askC, List.range_succ, List.filter_append, List.map_append, List.filter_cons, List.filter_nil, askC]
 by_cases h : zdB ts (zax (k : Int) n) = true <;> simp [h]
theorem askK_first (ts : List (List Int)) (n : Nat) : ∀ k, zgl zdH (askC ts n k) = askK ts n k
 | 0 => rfl
 | k + 1 => by
  rw [askC_succ, askK, ← askK_first ts n k]
  by_cases h : zdB ts (zax (k : Int) n) = true
  ·rw [if_pos h, zfw, h, Bool.and_true];cases zgl zdH (askC ts n k) with
   | none => rfl
   | some b => rfl
  ·rw [if_neg h, List.append_nil, Bool.not_eq_true] at *;rw [h, Bool.and_false]; rfl
def nextC (ts : List (List Int)) (k : Nat) : List Int := ((List.range k).filter fun (q : Nat) => decide (zdk ts q < (ts.length : Int))).map fun (q : Nat) => (q : Int)
theorem zjo (ts : List (List Int)) (k : Nat) : nextC ts (k + 1) = nextC ts k ++ if zdk ts k < (ts.length : Int) then [(k : Int)] else [] := by
 rw [nextC, List.range_succ, List.filter_append, List.map_append, List.filter_cons, List.filter_nil, nextC]
 by_cases h : zdk ts k < (ts.length : Int) <;> simp [h]
def worseB (ts : List (List Int)) (a b : Int) : Bool := decide (zdk ts a.toNat < zdk ts b.toNat)
theorem maxI_le {a b c : Int} (h1 : a ≤ c) (h2 : b ≤ c) : zfW a b ≤ c := by unfold zfW; split <;> omega
theorem worst_le (ts : List (List Int)) (q : Nat) : zdk ts q ≤ (ts.length : Int) := by
 have h : ∀ k, worstK ts q k ≤ (ts.length : Int) := by
  intro k
  induction k with
  | zero => simp [worstK]
  | succ k ih => exact maxI_le ih (by have := zfH ts q (k : Int); omega)
 exact h 3
theorem next_first (ts : List (List Int)) : ∀ k, zgl (worseB ts) (nextC ts (k + 1)) = if zdk ts (zhF ts k) < (ts.length : Int) then some (zhF ts k : Int) else none
 | 0 => by
  rw [zjo]
  by_cases h : zdk ts 0 < (ts.length : Int)
  ·simp [h, zhF, nextC, zgl]
  ·simp [h, zhF, nextC, zgl]
 | k + 1 => by
  rw [zjo, zhF];have ih := next_first ts k;have h1 := worst_le ts (k + 1);have h2 := worst_le ts (zhF ts k)
  by_cases a : zdk ts (k + 1) < zdk ts (zhF ts k)
  ·rw [if_pos a, if_pos (show zdk ts (k + 1) < (ts.length : Int) by omega), zfw, ih]
   by_cases b : zdk ts (zhF ts k) < (ts.length : Int)
   ·rw [if_pos b];rw [if_pos (show zdk ts (k + 1) < (ts.length : Int) by omega)];simp only [worseB, Int.toNat_natCast, decide_eq_true a, if_true]
   ·rw [if_neg b, if_pos (show zdk ts (k + 1) < (ts.length : Int) by omega)]
  ·rw [if_neg a]
   by_cases b : zdk ts (zhF ts k) < (ts.length : Int)
   ·by_cases c : zdk ts (k + 1) < (ts.length : Int)
    ·rw [if_pos c, zfw, ih, if_pos b];simp only [worseB, Int.toNat_natCast, decide_eq_false a, Bool.false_eq_true, if_false]
    ·rw [if_neg c, List.append_nil, ih]
   ·rw [if_neg (show ¬ zdk ts (k + 1) < (ts.length : Int) by omega), List.append_nil, ih]
theorem candL_nodup : ∀ ns : List Nat, (zca ns).Nodup
 | [] => by simp [zca]
 | n :: ns => by
  rw [zca, List.Nodup, List.pairwise_flatMap];refine ⟨fun h _ => ?_, ?_⟩
  ·rw [List.pairwise_map];exact (candL_nodup ns).imp fun hne e => hne (by simpa using e)
  ·refine (List.nodup_range (n := n)).imp fun hne => ?_;intro x hx y hy e;obtain ⟨t, _, rfl⟩ := List.mem_map.1 hx;obtain ⟨u, _, rfl⟩ := List.mem_map.1 hy;simp only [List.cons.injEq] at e;exact hne zq
theorem zjk (p : Poll) : (zL p).Nodup := (candL_nodup _).filter _
theorem cnt_all {ts : List (List Int)} {q : Nat} {h : Int} (e : zgS ts q h = ts.length) {t : List Int} (ht : t ∈ ts) : t[q]? = some h := by
 have := List.length_filter_eq_length_iff.1 e t ht;simpa using this
theorem worst_all {ts : List (List Int)} {q : Nat} (h : ¬ zdk ts q < (ts.length : Int)) (h0 : 0 < ts.length) : ∃ a : Int, ∀ t ∈ ts, t[q]? = some a := by
 have h1 := worst_le ts q;have h2 : zdk ts q = (ts.length : Int) := by omega
 have h3 : zdk ts q = zfW (zfW (zfW 0 (zgS ts q 0 : Int)) (zgS ts q 1 : Int)) (zgS ts q 2 : Int) := rfl;have a0 := zfH ts q 0;have a1 := zfH ts q 1;have a2 := zfH ts q 2;have : zgS ts q 0 = ts.length ∨ zgS ts q 1 = ts.length ∨ zgS ts q 2 = ts.length := by
  have h4 : ∀ a b c : Int, zfW a b = c → a = c ∨ b = c := by intro a b c e; unfold zfW at e; split at e <;> simp [e]
  rw [h3] at h2
  rcases h4 _ _ _ h2 with e | e
  ·rcases h4 _ _ _ e with e | e
   ·rcases h4 _ _ _ e with e | e
    ·omega
    ·left; omega
   ·right; left; omega
  ·right; right; omega
 rcases this with e | e | e
 ·exact ⟨0, fun t ht => cnt_all e ht⟩
 ·exact ⟨1, fun t ht => cnt_all e ht⟩
 exact ⟨2, fun t ht => cnt_all e ht⟩
theorem nextK_small {p : Poll} (hl : 1 < (zL p).length) : zdk (zL p) (zhF (zL p) (p.questions.length - 1)) < ((zL p).length : Int) := by
 refine Classical.byContradiction fun hc => ?_
 -- all questions leave all
 have h1 : ∀ k q, q ≤ k → zdk (zL p) (zhF (zL p) k) ≤ zdk (zL p) q := by
  intro k
  induction k with
  | zero =>
   intro q hq;obtain rfl : q = 0 := by omega
   exact Int.le_refl _
  | succ k ih =>
   intro q hq;rw [zhF]
   by_cases a : zdk (zL p) (k + 1) < zdk (zL p) (zhF (zL p) k)
   ·rw [if_pos a]
    by_cases e : q = k + 1
    ·subst e; exact Int.le_refl _
    ·exact Int.le_trans (Int.le_of_lt a) (ih q zq)
   ·rw [if_neg a]
    by_cases e : q = k + 1
    ·subst e; omega
    ·exact ih q zq
 obtain ⟨t0, h0⟩ : ∃ t, (zL p)[0]? = some t := ⟨_, List.getElem?_eq_getElem zq⟩;obtain ⟨t1, h2⟩ : ∃ t, (zL p)[1]? = some t := ⟨_, List.getElem?_eq_getElem zq⟩;have m0 := List.mem_of_getElem? h0;have m1 := List.mem_of_getElem? h2;have hne : t0 = t1 := by
  refine List.ext_getElem? fun q => ?_
  by_cases hq : q < p.questions.length
  ·obtain ⟨a, ha⟩ := worst_all (ts := zL p) (q := q) (by have := h1 (p.questions.length - 1) q zq; omega) zq;rw [ha t0 m0, ha t1 m1]
  ·rw [List.getElem?_eq_none (by rw [zcP m0]; omega), List.getElem?_eq_none (by rw [zcP m1]; omega)]
 have hn := zjk p;subst hne;have e0 := (List.getElem?_eq_some_iff.1 h0).2;have e1 := (List.getElem?_eq_some_iff.1 h2).2;have := (List.nodup_iff_pairwise_ne.1 hn);rw [List.pairwise_iff_getElem] at this;exact this 0 1 zq zq zq (by rw [e0, e1])
theorem next_ok {p : Poll} (hl : 1 < (zL p).length) (hq : 0 < p.questions.length) : zet (worseB (zL p)) 0 (nextC (zL p) p.questions.length) = (zhF (zL p) (p.questions.length - 1) : Int) := by
 have h := next_first (zL p) (p.questions.length - 1);rw [show p.questions.length - 1 + 1 = p.questions.length by omega, if_pos (nextK_small hl)] at h;rw [zet, h]; rfl
def zfi (t : List Int) (s : Int) (k j : Nat) : Int := if j < k then (t[j]?).getD 0 * zgX s (j : Int) else 0
def ziV (t : List Int) (s : Int) (k : Nat) : Six := ⟨zfi t s k 0, zfi t s k 1, zfi t s k 2, zfi t s k 3, zfi t s k 4, zfi t s k 5⟩
theorem zic {t : List Int} {s : Int} {k j : Nat} (h : ¬ j = k) : zfi t s (k + 1) j = zfi t s k j := by
 unfold zfi
 by_cases e : j < k
 ·rw [if_pos e, if_pos zq]
 rw [if_neg e, if_neg zq]
theorem sixAt_new {t : List Int} {s x : Int} {k : Nat} (h : t[k]? = some x) : zfi t s (k + 1) k = x * zgX s (k : Int) := by
 rw [zfi, if_pos zq, h]; rfl
theorem bit_01 {s : Int} {j : Int} : zgX s j = 0 ∨ zgX s j = 1 := by rw [zgX]; omega
theorem zhk {t : List Int} {s x : Int} {k j : Nat} (hj : j = k) (h : t[k]? = some x) : zfi t s (k + 1) j = x * zgX s (k : Int) := by subst hj; exact sixAt_new h
theorem sixK_len {t : List Int} {s : Int} (h : t.length ≤ 6) : ziV t s t.length = ziV t s 6 := by
 have e : ∀ j, j < 6 → zfi t s t.length j = zfi t s 6 j := by
  intro j hj;rw [zfi, zfi, if_pos hj]
  by_cases q : j < t.length
  ·rw [if_pos q]
  ·rw [if_neg q, List.getElem?_eq_none zq]; simp
 simp only [ziV, e 0 zq, e 1 zq, e 2 zq, e 3 zq, e 4 zq, e 5 zq]
theorem six_alike6 {t u : List Int} {s : Int} (ht : t.length ≤ 6) (hu : t.length = u.length) : zeD t u (zax s 6) = decide (ziV t s 6 = ziV u s 6) := by
 have hk : ∀ j : Nat, j < 6 → zgX s (j : Int) = 1 → (zfi t s 6 j = zfi u s 6 j ↔ t[j]? = u[j]?) := by
  intro j hj hb;rw [zfi, zfi, if_pos hj, if_pos hj, hb, Int.mul_one, Int.mul_one]
  by_cases q : j < t.length
  ·rw [List.getElem?_eq_getElem q, List.getElem?_eq_getElem zq]; simp
  ·rw [List.getElem?_eq_none zq, List.getElem?_eq_none zq]; simp
 rw [Bool.eq_iff_iff, decide_eq_true_eq, zeD, List.all_eq_true];have key : (∀ k ∈ zax s 6, decide (t[k.toNat]? = u[k.toNat]?) = true) ↔ ∀ j, j < 6 → zfi t s 6 j = zfi u s 6 j := by
  constructor
  ·intro h j hj
   rcases bit_01 (s := s) (j := (j : Int)) with b | b
   ·rw [zfi, zfi, if_pos hj, if_pos hj, b, Int.mul_zero, Int.mul_zero]
   ·refine (hk j hj b).2 ?_;have := h (j : Int) (List.mem_map.2 ⟨j, List.mem_filter.2 ⟨List.mem_range.2 hj, by simpa using b⟩, rfl⟩);simpa using this
  ·intro h k hk';obtain ⟨j, hj, rfl⟩ := List.mem_map.1 hk';have h1 := List.mem_range.1 (List.mem_filter.1 hj).1;have h2 := (List.mem_filter.1 hj).2;simp only [decide_eq_true_eq] at h2;have := (hk j h1 h2).1 (h j h1);simpa using this
 rw [key];constructor
 ·intro h;simp only [ziV, h 0 zq, h 1 zq, h 2 zq, h 3 zq, h 4 zq, h 5 zq]
 intro h j hj;simp only [ziV, Six.mk.injEq] at h;obtain ⟨a0, a1, a2, a3, a4, a5⟩ := h
 match j, hj with
 | 0, _ => exact a0
 | 1, _ => exact a1
 | 2, _ => exact a2
 | 3, _ => exact a3
 | 4, _ => exact a4
 | 5, _ => exact a5
 | j + 6, hj => omega
def sixM (ts : List (List Int)) (s : Int) (i : Nat) (x : Six) : Option Bool := if ((ts.take i).any fun u => decide (ziV u s 6 = x)) = true then some true else none
theorem sixM_succ {ts : List (List Int)} {s : Int} {i : Nat} {t : List Int} (ht : ts[i]? = some t) (x : Six) : sixM ts s (i + 1) x = if x = ziV t s 6 then some true else sixM ts s i x := by
 rw [sixM, sixM, any_snoc ht]
 by_cases e : x = ziV t s 6
 ·rw [if_pos e, e]; simp
 rw [if_neg e, decide_eq_false (fun q => e q.symm), Bool.or_false]
theorem tells_next {ts : List (List Int)} {s : Int} {i : Nat} {t : List Int} (hl : ∀ t ∈ ts, t.length ≤ 6) (he : ∀ t ∈ ts, ∀ u ∈ ts, t.length = u.length) (ht : ts[i]? = some t) (h : (sixM ts s i (ziV t s 6)).getD false = false) : zge ts (zax s 6) i = true := by
 simp only [zge, ht, List.all_eq_true];intro u hu;have hm := List.mem_of_getElem? ht;rw [six_alike6 (hl t hm) (he t hm u (List.mem_of_mem_take hu))];rw [sixM] at h;split at h
 ·cases h
 rename_i q;simp only [Bool.not_eq_true, List.any_eq_false, decide_eq_true_eq] at q;simp only [Bool.not_eq_true', decide_eq_false_iff_not];exact fun e => q u hu e.symm
theorem tells_stop {ts : List (List Int)} {s : Int} {i : Nat} {t : List Int} (hl : ∀ t ∈ ts, t.length ≤ 6) (he : ∀ t ∈ ts, ∀ u ∈ ts, t.length = u.length) (ht : ts[i]? = some t) (h : (sixM ts s i (ziV t s 6)).getD false = true) : zdB ts (zax s 6) = false := by
 refine tells_no (i := i) ?_;simp only [zge, ht];rw [sixM] at h;split at h
 ·rename_i q;obtain ⟨u, hu, e⟩ := List.any_eq_true.1 q;have hm := List.mem_of_getElem? ht;refine List.all_eq_false.2 ⟨u, hu, ?_⟩;rw [six_alike6 (hl t hm) (he t hm u (List.mem_of_mem_take hu))];simp only [decide_eq_true_eq] at e;simp [e]
 cases h
theorem sixM_none {ts : List (List Int)} {s : Int} {i : Nat} {x : Six} (h : (sixM ts s i x).getD false = false) : sixM ts s i x = none := by
 rw [sixM] at h ⊢;split at h
 ·cases h
 rename_i q; rw [if_neg q]
theorem askC_six {ts : List (List Int)} {n : Nat} (hn : n ≤ 6) : ∀ k, k ≤ 2 ^ n → askC ts 6 k = askC ts n k := by
 intro k hk;rw [askC, askC];have e : ∀ s ∈ List.range k, zax (s : Int) 6 = zax (s : Int) n := by
  intro s hs;have := List.mem_range.1 hs;refine members_six zq ?_ hn;have h2 : (s : Int) < ((2 ^ n : Nat) : Int) := by omega
  exact_mod_cast h2
 rw [List.filter_congr (q := fun (s : Nat) => zdB ts (zax (s : Int) n)) fun s hs => by rw [e s hs]];exact List.map_congr_left fun s hs => e s (List.mem_filter.1 hs).1
theorem cnt_up {ts : List (List Int)} {i q : Nat} {t : List Int} {a : Int} (ht : ts[i]? = some t) (ha : t[q]? = some a) (h : Int) : ((zgS (ts.take (i + 1)) q h : Nat) : Int) = ((zgS (ts.take i) q h : Nat) : Int) + if a = h then 1 else 0 := by
 rw [cntH_snoc ht, ha]
 by_cases e : a = h <;> simp [e]
theorem next_pos {p : Poll} (h : 1 < (zL p).length) : 0 < p.questions.length := by
 refine Classical.byContradiction fun q => ?_;have e : p.questions = [] := List.eq_nil_of_length_eq_zero zq;have h2 : (zL p).length ≤ 1 := by
  rw [zL, zbj, e];exact List.length_filter_le _ _
 omega
theorem zgL {p : Poll} (hp : zcF p = true) {ls : List (List Int)} (hl : ∀ t ∈ ls, t ∈ zL p) {a : Int} (h0 : 0 ≤ a) (h1 : a < (p.questions.length : Int)) : ∀ t ∈ ls, ∃ x, t[a.toNat]? = some x ∧ 0 ≤ x ∧ x < 3 := by
 intro t ht;obtain ⟨q, hq⟩ : ∃ q, p.questions[a.toNat]? = some q := ⟨_, List.getElem?_eq_getElem zq⟩;obtain ⟨x, hx, h2, h3⟩ := truth_at (hl t ht) hq;have := (zhn hp hq).2.2.1;exact ⟨x, hx, h2, by omega⟩
theorem truths_small {p : Poll} (hp : zcF p = true) {ls : List (List Int)} (hl : ∀ t ∈ ls, t ∈ zL p) : ∀ t ∈ ls, ∀ a ∈ t, 0 ≤ a ∧ a ≤ 1000 := by
 intro t ht a ha;obtain ⟨k, hk⟩ := List.mem_iff_getElem?.1 ha;have hlt := (List.getElem?_eq_some_iff.1 hk).1;rw [zcP (hl t ht)] at hlt;obtain ⟨x, hx, h2, h3⟩ := zgL hp hl (a := (k : Int)) zq zq t ht;rw [Int.toNat_natCast, hk] at hx;cases hx;omega
end Go.Pk

namespace Go.Pk
open Go Go.RowKit
def decD (x : Lexicon) (q : Question) (hd : Head) : Decision := ⟨mostN x.decisions + 1, 3, [], q.at_, hd, 0⟩
def decN (n : Int) (q : Question) (hd : Head) : Decision := ⟨n, 3, [], q.at_, hd, 0⟩
def decQ (p : Poll) (x : Lexicon) (q : Question) (h : Int) : Lexicon × Int :=
 if h < 0 then (x, 0) else if (zgp p.text x q.at_).to = (q.heads[h.toNat]?).getD zdD then (x, 0)
 else (ziy p.text x (decD x q ((q.heads[h.toNat]?).getD zdD)), zgZ p.text x (decD x q ((q.heads[h.toNat]?).getD zdD)))
def zgG (p : Poll) (s : List Int) : Nat → Lexicon × Int
 | 0 => (p.lexicon, 0)
 | k + 1 => if (zgG p s k).2 = 0 then (match p.questions[k]?, s[k]? with
  | some q, some h => decQ p (zgG p s k).1 q h
  | _, _ => zgG p s k) else zgG p s k
def zgi (p : Poll) : Int := if zdb p true = 0 then (zgG p (zdo (zL p)) (zdo (zL p)).length).2 else zdb p true
def zfk (p : Poll) : Lexicon := if zdb p true = 0 then (zgG p (zdo (zL p)) (zdo (zL p)).length).1 else zgJ
variable {p : Poll} {s : List Int} {k : Nat} {x : Lexicon} {q : Question} {h : Int} {hd : Head}
theorem dec_skip (a : zgG p s k = (x, 0)) (hq : p.questions[k]? = some q) (hs : s[k]? = some h) (h0 : h < 0) : zgG p s (k + 1) = (x, 0) := by
 simp only [zgG, a, if_true, hq, hs, decQ, if_pos h0]
theorem dec_same (a : zgG p s k = (x, 0)) (hq : p.questions[k]? = some q) (hs : s[k]? = some h) (h0 : ¬ h < 0) (hh : q.heads[h.toNat]? = some hd) (e : (zgp p.text x q.at_).to = hd) : zgG p s (k + 1) = (x, 0) := by
 simp only [zgG, a, if_true, hq, hs, decQ, if_neg h0, hh, Option.getD_some, if_pos e]
theorem dec_add (a : zgG p s k = (x, 0)) (hq : p.questions[k]? = some q) (hs : s[k]? = some h) (h0 : ¬ h < 0) (hh : q.heads[h.toNat]? = some hd) (e : ¬ (zgp p.text x q.at_).to = hd) : zgG p s (k + 1) = (ziy p.text x (decD x q hd), zgZ p.text x (decD x q hd)) := by
 simp only [zgG, a, if_true, hq, hs, decQ, if_neg h0, hh, Option.getD_some, if_neg e]
theorem dec_stop (e : ¬ (zgG p s k).2 = 0) : ∀ d, zgG p s (k + d) = zgG p s k
 | 0 => rfl
 | d + 1 => by rw [← Nat.add_assoc, zgG, dec_stop e d, if_neg e]
theorem addN_bad {t : Text} {d : Decision} (e : ¬ zgZ t x d = 0) : ziy t x d = zgJ := by rw [ziy, if_neg e]
theorem dec_err (a : zgG p s k = (x, 0)) (hq : p.questions[k]? = some q) (hs : s[k]? = some h) (h0 : ¬ h < 0) (hh : q.heads[h.toNat]? = some hd) (e : ¬ (zgp p.text x q.at_).to = hd) (e2 : ¬ zgZ p.text x (decD x q hd) = 0) : zgG p s s.length = (zgJ, zgZ p.text x (decD x q hd)) := by
 have h1 := dec_add a hq hs h0 hh e;have hk := (List.getElem?_eq_some_iff.1 hs).1;have := dec_stop (p := p) (s := s) (k := k + 1) (by rw [h1]; exact e2) (s.length - (k + 1));rw [show k + 1 + (s.length - (k + 1)) = s.length by omega] at this;rw [this, h1, addN_bad e2]
theorem dec_check (hx : zaW p.text p.lexicon = 0) : ∀ k, (zgG p s k).2 = 0 → zaW p.text (zgG p s k).1 = 0
 | 0, _ => hx
 | k + 1, e => by
  have ih := dec_check hx k;rw [zgG] at e ⊢
  by_cases h0 : (zgG p s k).2 = 0
  ·rw [if_pos h0] at e ⊢;split at e
   ·rename_i q h hq hs;unfold decQ at e ⊢;split at e
    ·rename_i c; rw [if_pos c]; exact ih h0
    ·rename_i c;rw [if_neg c];split at e
     ·rename_i c2; rw [if_pos c2]; exact ih h0
     ·rename_i c2; rw [if_neg c2]; exact addN_check e
   ·exact ih h0
  ·rw [if_neg h0] at e; exact absurd e h0
theorem dec_ok (hx : zaW p.text p.lexicon = 0) (a : zgG p s k = (x, 0)) : zaW p.text x = 0 := by
 have := dec_check (s := s) hx k;rw [a] at this; exact this rfl
def nextN (l : List Decision) : Int := mostN l + 1
theorem nextN_snoc {l : List Decision} {k : Nat} {d : Decision} (h : l[k]? = some d) : zfW (nextN (l.take k)) (d.number + 1) = nextN (l.take (k + 1)) := by
 rw [nextN, nextN, mostN_snoc h, zfW]; split <;> omega
theorem nextN_eq {l : List Decision} {k : Nat} (h : l.length ≤ k) : nextN (l.take k) = mostN l + 1 := by rw [List.take_of_length_le h]; rfl
theorem mostN_le' (hx : OkD x) (k : Nat) : mostN (x.decisions.take k) ≤ 999 := fold_max_le _ _ _ zq fun d hd => (hx.2 d (List.mem_of_mem_take hd)).2.1
theorem nextN_le (hx : OkD x) (k : Nat) : 1 ≤ nextN (x.decisions.take k) ∧ nextN (x.decisions.take k) ≤ 1000 := by
 have := mostN_le' hx k;have := mostN_pos (x.decisions.take k);rw [nextN]; omega
def mootB (p : Poll) (s : List Int) (k : Nat) (w : Str) : Bool := match p.questions[k]?, s[k]? with
 | some q, some h => decide (h < 0) && decide (zcv p.text q.at_ = w)
 | _, _ => false
def mootQ (p : Poll) (s : List Int) (n : Nat) (w : Str) : Bool := (List.range n).any fun k => mootB p s k w
theorem moot_succ (p : Poll) (s : List Int) (n : Nat) (w : Str) : mootQ p s (n + 1) w = (mootQ p s n w || mootB p s n w) := by simp [mootQ, List.range_succ, List.any_append]
theorem moot_at {p : Poll} {s : List Int} {n : Nat} {w : Str} {q : Question} {h : Int} (hq : p.questions[n]? = some q) (hs : s[n]? = some h) : mootQ p s (n + 1) w = (mootQ p s n w || (decide (h < 0) && decide (zcv p.text q.at_ = w))) := by
 rw [moot_succ, mootB, hq, hs]
def mootR (p : Poll) : List Str := if zdb p true = 0 then (homR p.text p.lexicon).filter (mootQ p (zdo (zL p)) (zdo (zL p)).length) else []
def zhi (ws : List Str) (p : Poll) (s : List Int) (n : Nat) (w : Str) : Option Bool := if w ∈ ws ∧ mootQ p s n w = false then some true else none
theorem still_skip {ws : List Str} {p : Poll} {s : List Int} {n : Nat} {q : Question} {h : Int} (hq : p.questions[n]? = some q) (hs : s[n]? = some h) (h0 : ¬ h < 0) {m : List (Str × Bool)} (hm : ∀ w, zbU m w = zhi ws p s n w) : ∀ w, zbU m w = zhi ws p s (n + 1) w := by
 intro w;rw [hm, zhi, zhi, moot_at hq hs, decide_eq_false h0]; simp
theorem still_del {ws : List Str} {p : Poll} {s : List Int} {n : Nat} {q : Question} {h : Int} (hq : p.questions[n]? = some q) (hs : s[n]? = some h) (h0 : h < 0) {m : List (Str × Bool)} (hm : ∀ w, zbU m w = zhi ws p s n w) : ∀ w, zbU (delM m (zcv p.text q.at_)) w = zhi ws p s (n + 1) w := by
 intro w;rw [look_delM, hm, zhi, zhi, moot_at hq hs, decide_eq_true h0, Bool.true_and]
 by_cases e : w = zcv p.text q.at_
 ·subst e; simp
 rw [if_neg e, decide_eq_false (fun q => e q.symm), Bool.or_false]
theorem still_put {ws : List Str} {k : Nat} {w0 : Str} (h : ws[k]? = some w0) {m : List (Str × Bool)} (hm : ∀ w, zbU m w = if w ∈ ws.take k then some true else none) : ∀ w, zbU (zha m w0 true) w = if w ∈ ws.take (k + 1) then some true else none := by
 intro w;rw [zjb, zaY h, hm]
 by_cases e : w = w0
 ·subst e; simp
 simp [e]
theorem still_zero {ws : List Str} {k : Nat} (hk : ws.length ≤ k) {p : Poll} {s : List Int} {m : List (Str × Bool)} (hm : ∀ w, zbU m w = if w ∈ ws.take k then some true else none) : ∀ w, zbU m w = zhi ws p s 0 w := by
 intro w;rw [hm, List.take_of_length_le hk, zhi];simp [mootQ]
theorem still_filter {ws : List Str} {p : Poll} {s : List Int} {n : Nat} {m : List (Str × Bool)} (hm : ∀ w, zbU m w = zhi ws p s n w) : ws.filter (fun w => !(zbU m w).getD false) = ws.filter (mootQ p s n) := by
 refine List.filter_congr fun w hw => ?_;rw [hm, zhi];cases e : mootQ p s n w <;> simp [hw]
end Go.Pk

namespace Go.Pk
open Go Go.RowKit
def dPE : Decision := ⟨1, 3, [], ⟨1, 0, 2⟩, ⟨wSee, 2⟩, 0⟩
def zhG (more : List Decision) : Lexicon := ⟨[], dPE :: more⟩
def seaSee : List Head := [⟨zdz, 1⟩, ⟨wSee, 2⟩]
def questsE : List Question := [⟨⟨0, 0, 1⟩, seaSee⟩, ⟨⟨0, 0, 3⟩, [⟨wAge, 3⟩, ⟨zig, 0⟩]⟩, ⟨⟨1, 0, 0⟩, seaSee⟩]
def votersE : List Voter := [⟨5, 0, [-1, 1, -1]⟩, ⟨2, 1, [0, 0, 0]⟩, ⟨8, 1, [0, -1, 1]⟩]
def zdv : Poll := ⟨zii, zhG [], questsE, votersE⟩
def zeW : Poll := ⟨zii, zhG [], questsE, votersE.drop 1⟩
theorem checkLP : zaW zii (zhG []) = 0 := by decide +kernel
theorem checkPE : zcL zdv = 0 := by decide +kernel
theorem checkP2 : zcL zeW = 0 := by decide +kernel
theorem truthsE : zL zdv = [[0, 1, 0]] := by decide +kernel
theorem zjm : zL zeW = [[0, 0, 0], [0, 0, 1], [0, 1, 0]] := by decide +kernel
theorem allEE : zdb zdv true = 0 := by rw [zdb, if_neg (by rw [checkPE]; decide), if_neg (by decide), truthsE]; rfl
theorem allE2 : zdb zeW true = 0 := by rw [zdb, if_neg (by rw [checkP2]; decide), if_neg (by decide), zjm]; rfl
theorem setE : zdo (zL zdv) = [0, 1, 0] := by rw [truthsE]; decide +kernel
theorem set2 : zdo (zL zeW) = [0, -1, -1] := by rw [zjm]; decide +kernel
def e1E : Decision := ⟨2, 3, [], ⟨0, 0, 1⟩, ⟨zdz, 1⟩, 0⟩
def e2E : Decision := ⟨3, 3, [], ⟨1, 0, 0⟩, ⟨zdz, 1⟩, 0⟩
theorem addP1 : zgZ zii (zhG []) e1E = 0 := by decide +kernel
theorem addP2 : zgZ zii (zhG [e1E]) e2E = 0 := by decide +kernel
theorem addXP1 : addX (zhG []) e1E = zhG [e1E] := addX_eq (ys := [dPE, e1E]) (List.Perm.refl _) (by decide +kernel) (by decide +kernel)
theorem addXP2 : addX (zhG [e1E]) e2E = zhG [e1E, e2E] := addX_eq (ys := [dPE, e1E, e2E]) (List.Perm.refl _) (by decide +kernel) (by decide +kernel)
theorem checkLP1 : zaW zii (zhG [e1E]) = 0 := by decide +kernel
theorem dec1 : zgG zdv [0, 1, 0] 1 = (zhG [e1E], 0) := by
 rw [dec_add (p := zdv) (s := [0, 1, 0]) (k := 0) (x := zhG []) (hd := ⟨zdz, 1⟩) rfl rfl rfl (by decide) rfl (by show ¬ (zgp zii (zhG []) _).to = _; rw [askR_eq checkLP (by decide +kernel)]; decide +kernel)];rw [show decD (zhG []) ⟨⟨0, 0, 1⟩, seaSee⟩ ⟨zdz, 1⟩ = e1E by decide +kernel];show (ziy zii (zhG []) e1E, zgZ zii (zhG []) e1E) = _;rw [ziy, if_pos addP1, addXP1, addP1]
theorem dec2 : zgG zdv [0, 1, 0] 2 = (zhG [e1E], 0) :=
 dec_same (p := zdv) (s := [0, 1, 0]) (k := 1) (hd := ⟨zig, 0⟩) dec1 rfl rfl (by decide) rfl (by
  show (zgp zii (zhG [e1E]) _).to = _;rw [askR_eq checkLP1 (by decide +kernel)]; decide +kernel)
theorem dec3 : zgG zdv [0, 1, 0] 3 = (zhG [e1E, e2E], 0) := by
 rw [dec_add (p := zdv) (s := [0, 1, 0]) (k := 2) (hd := ⟨zdz, 1⟩) dec2 rfl rfl (by decide) rfl (by
  show ¬ (zgp zii (zhG [e1E]) _).to = _;rw [askR_eq checkLP1 (by decide +kernel)]; decide +kernel)]
 rw [show decD (zhG [e1E]) ⟨⟨1, 0, 0⟩, seaSee⟩ ⟨zdz, 1⟩ = e2E by decide +kernel];show (ziy zii (zhG [e1E]) e2E, zgZ zii (zhG [e1E]) e2E) = _;rw [ziy, if_pos addP2, addXP2, addP2]
theorem decideEE : zgi zdv = 0 ∧ zfk zdv = zhG [e1E, e2E] := by
 rw [zgi, zfk, if_pos allEE, if_pos allEE, setE];exact ⟨congrArg Prod.snd dec3, congrArg Prod.fst dec3⟩
theorem homP : homR zii (zhG []) = [zdz] := by rw [homV_eq checkLP]; decide +kernel
theorem moot2 : mootR zeW = [zdz] := by
 rw [mootR, if_pos allE2, set2];show (homR zii (zhG [])).filter _ = _;rw [homP]; decide +kernel
theorem ex_01 : (if zcL zeW = 0 then ((zL zeW).length : Int) else 0) = 3 := by rw [if_pos checkP2, zjm]; rfl
theorem ex_02 : ((zek zdv true)[0]?).getD [] = [0, 1, 0] := by rw [zek, if_pos allEE, truthsE]; rfl
theorem in_ok {p : Poll} {n m : Int} (h : zdb p true = 0) (h1 : inB n 0 m = true) : zdb p (inB n 0 m) = 0 := by rw [h1]; exact h
theorem ex_03 : zdb zeW (inB 1 0 ((zeW.questions.length : Int) - 1)) = 0 := in_ok allE2 (by decide +kernel)
theorem ex_04 : openR zeW 1 = [0, 1] := by rw [openR, if_pos ex_03, zjm]; decide +kernel
theorem ex_05 : zeX zeW = [0, -1, -1] := by rw [zeX, if_pos allE2, set2]
theorem ex_06 : zdb zdv (inB 1 0 ((zdv.voters.length : Int) - 1)) = 0 := in_ok allEE (by decide +kernel)
theorem ex_07 : zht zdv 1 = ⟨1, 1⟩ := by rw [zht, if_pos ex_06, truthsE]; decide +kernel
theorem ex_08 : ziN zdv 0 = 0 := by rw [ziN, if_neg (by rw [checkPE]; decide), if_pos (by decide +kernel)]
theorem ex_09 : tallyR zdv 0 = [2, 0] := by rw [tallyR, if_pos ex_08]; decide +kernel
theorem ex_10 : zcV zeW = [1, 2] := by rw [zcV, if_pos allE2, zjm]; decide +kernel
theorem ex_11 : nextE zeW = 0 := by rw [nextE, if_neg (by rw [allE2]; decide), zjm]; rfl
theorem ex_12 : nextR zeW = 1 := by rw [nextR, if_pos ex_11, zjm]; decide +kernel
theorem ex_13 : ((zfk zdv).decisions.length : Int) = 3 := by rw [decideEE.2]; rfl
end Go.Pk

namespace Go.Pk
open Go Go.RowKit
def zgA (l : List (List Int)) (n : Nat) : List (List Int) := l.flatMap fun x => (List.range n).map fun (h : Nat) => x ++ [(h : Int)]
theorem flat_flat {α β γ : Type} (f : α → List β) (g : β → List γ) : ∀ l : List α, (l.flatMap f).flatMap g = l.flatMap fun a => (f a).flatMap g
 | [] => rfl
 | a :: l => by rw [List.flatMap_cons, List.flatMap_cons, List.flatMap_append, flat_flat f g l]
theorem flat_map {α β γ : Type} (f : α → β) (g : β → List γ) : ∀ l : List α, (l.map f).flatMap g = l.flatMap fun a => g (f a)
 | [] => rfl
 | a :: l => by rw [List.map_cons, List.flatMap_cons, List.flatMap_cons, flat_map f g l]
theorem candL_snoc : ∀ (ns : List Nat) (n : Nat), zca (ns ++ [n]) = zgA (zca ns) n
 | [], n => by
  simp only [List.nil_append, zca, zgA, List.map_cons, List.map_nil, List.flatMap_cons, List.flatMap_nil, List.append_nil]
  induction List.range n with
  | nil => rfl
  | cons a l ih => simp [List.flatMap_cons, ih]
 | m :: ns, n => by
  rw [List.cons_append, zca, candL_snoc ns n, zca]
  conv => rhs; rw [zgA, flat_flat]
  refine zjr fun h _ => ?_;rw [zgA, map_flat, flat_map];refine zjr fun x _ => ?_;rw [List.map_map];refine List.map_congr_left fun k _ => ?_;simp
theorem cand_take {p : Poll} {k : Nat} {q : Question} (hq : p.questions[k]? = some q) : zca ((zbj p).take (k + 1)) = zgA (zca ((zbj p).take k)) q.heads.length := by
 rw [zaY (sizes_at hq), candL_snoc]
theorem candX_snoc {l : List (List Int)} {i n : Nat} {x : List Int} (hx : l[i]? = some x) : zgA (l.take (i + 1)) n = zgA (l.take i) n ++ (List.range n).map fun (h : Nat) => x ++ [(h : Int)] := by
 rw [zgA, zaY hx, List.flatMap_append]; simp [zgA]
def heads1 (x : List Int) (h : Nat) : List (List Int) := (List.range h).map fun (h : Nat) => x ++ [(h : Int)]
theorem heads1_succ (x : List Int) (h : Nat) : heads1 x (h + 1) = heads1 x h ++ [x ++ [(h : Int)]] := by simp [heads1, List.range_succ]
theorem candX_len (l : List (List Int)) (n : Nat) : (zgA l n).length = l.length * n := by
 induction l with
 | nil => simp [zgA]
 | cons a l ih =>
  have e : zgA (a :: l) n = ((List.range n).map fun (h : Nat) => a ++ [(h : Int)]) ++ zgA l n := by simp [zgA]
  rw [e, List.length_append, ih];simp [Nat.succ_mul]; omega
theorem inAt_of {p x : Poll} (hq : x.questions = p.questions) : inAt x = inAt p := by funext hs k; simp only [inAt, hq]
theorem true_iff {p : Poll} {hs : List Int} : zdq p hs = true ↔ (hs.length = p.questions.length ∧ (List.range hs.length).all (inAt p hs) = true) ∧ ∀ v ∈ p.voters, (zcp v hs : Int) ≤ v.wrong := by
 simp only [zdq, Bool.and_eq_true, decide_eq_true_eq];rw [List.all_eq_true (p := fun v => decide ((zcp v hs : Int) ≤ v.wrong))];simp only [decide_eq_true_eq]
theorem truths_sub {p x : Poll} (hq : x.questions = p.questions) (hv : ∀ v ∈ p.voters, v ∈ x.voters) : ∀ t ∈ zL x, t ∈ zL p := by
 intro t ht;have h1 := List.mem_filter.1 ht;refine List.mem_filter.2 ⟨by rw [show zbj p = zbj x by rw [zbj, zbj, hq]]; exact h1.1, ?_⟩;have h2 := true_iff.1 h1.2;rw [hq, inAt_of hq] at h2;exact true_iff.2 ⟨h2.1, fun v h => h2.2 v (hv v h)⟩
theorem ids_iff {vs : List Voter} : (∀ i v, vs[i]? = some v → ((vs.take i).all fun u => decide (u.id ≠ v.id)) = true) ↔ (vs.map (·.id)).Nodup := by
 rw [List.nodup_iff_pairwise_ne, List.pairwise_iff_getElem];simp only [List.length_map, List.getElem_map];constructor
 ·intro h i j hi hj hij;have := List.all_eq_true.1 (h j vs[j] (List.getElem?_eq_getElem hj)) vs[i] (List.mem_of_getElem? (by rw [List.getElem?_take, if_pos hij]; exact List.getElem?_eq_getElem hi));simpa using this
 intro h i v hv;obtain ⟨hi, rfl⟩ := List.getElem?_eq_some_iff.1 hv;rw [List.all_eq_true];intro u hu;obtain ⟨j, hj⟩ := List.mem_iff_getElem?.1 hu;rw [List.getElem?_take] at hj;split at hj
 ·obtain ⟨hj1, rfl⟩ := List.getElem?_eq_some_iff.1 hj;simpa using h j i hj1 hi (by assumption)
 cases hj
theorem poll_iff {p : Poll} : zcF p = true ↔ ((p.questions.length ≤ 6 ∧ p.voters.length ≤ 6) ∧ (List.range p.questions.length).all (zex p) = true) ∧ (∀ v ∈ p.voters, zhu p v = true) ∧ (p.voters.map (·.id)).Nodup := by
 simp only [zcF, Bool.and_eq_true, decide_eq_true_eq];refine and_congr Iff.rfl ?_;rw [← ids_iff, List.all_eq_true];constructor
 ·intro h;have h2 : ∀ i v, p.voters[i]? = some v → zhu p v = true ∧ ((p.voters.take i).all fun u => decide (u.id ≠ v.id)) = true := by
   intro i v hv;have := h i (List.mem_range.2 (List.getElem?_eq_some_iff.1 hv).1);simpa only [zdX, hv, Bool.and_eq_true] using this
  refine ⟨fun v hv => ?_, fun i v hv => (h2 i v hv).2⟩;obtain ⟨i, hi⟩ := List.mem_iff_getElem?.1 hv;exact (h2 i v hi).1
 rintro ⟨h1, h2⟩ i hi;have hv : p.voters[i]? = some (p.voters[i]'(List.mem_range.1 hi)) := List.getElem?_eq_getElem (List.mem_range.1 hi);simp only [zdX, hv, Bool.and_eq_true];exact ⟨h1 _ (List.mem_of_getElem? hv), h2 i _ hv⟩
theorem setL_at {ts : List (List Int)} {a0 : List Int} (h0 : ts[0]? = some a0) {k : Nat} {h : Int} (e : (zdo ts)[k]? = some h) : ∃ a, a0[k]? = some a ∧ h = if (ts.all fun t => decide (t[k]? = some a)) = true then a else -1 := by
 rw [zdo, h0] at e;have hk : k < a0.length := by
  have := (List.getElem?_eq_some_iff.1 e).1;rwa [zfr] at this
 rw [ziW hk] at e;refine ⟨_, List.getElem?_eq_getElem hk, ?_⟩;have e2 := Option.some.inj e;rw [← e2, setAt, List.getElem?_eq_getElem hk]
theorem set_pos {ts : List (List Int)} {k : Nat} {h : Int} (e : (zdo ts)[k]? = some h) (hp : 0 ≤ h) : ∀ t ∈ ts, t[k]? = some h := by
 cases h0 : ts[0]? with
 | none => rw [zdo, h0] at e; cases e
 | some a0 =>
  obtain ⟨a, ha, q⟩ := setL_at h0 e;split at q
  ·rename_i c;subst q;intro t ht;simpa using List.all_eq_true.1 c t ht
  ·omega
theorem set_len7 {p : Poll} (hn : zL p ≠ []) : (zdo (zL p)).length = p.questions.length := by
 cases e : zL p with
 | nil => exact absurd e hn
 | cons a0 ts =>
  show (setK (a0 :: ts) a0).length = _;rw [zfr]; exact zcP (by rw [e]; exact List.mem_cons_self)
def forN (vs : List Voter) (q : Nat) (h : Int) : Nat := (vs.filter fun v => decide (v.votes[q]? = some h)).length
theorem sure_vote {p : Poll} {t : List Int} {v : Voter} {k : Nat} {a h : Int} (ht : t ∈ zL p) (hv : v ∈ p.voters) (hw : v.wrong = 0) (ha : v.votes[k]? = some a) (h0 : 0 ≤ a) (hh : t[k]? = some h) : a = h := by
 refine Classical.byContradiction fun e => ?_;have h1 := (true_iff.1 (List.mem_filter.1 ht).2).2 v hv;rw [hw] at h1;have h2 : zcp v t = 0 := by omega
 rw [zcp, List.length_eq_zero_iff, List.filter_eq_nil_iff] at h2;have := h2 k (List.mem_range.2 (List.getElem?_eq_some_iff.1 hh).1);rw [zdr ha hh] at this;simp [h0, e] at this
theorem set_in {p : Poll} (hn : zL p ≠ []) {k : Nat} {q : Question} (hq : p.questions[k]? = some q) {h : Int} (hs : (zdo (zL p))[k]? = some h) (h0 : 0 ≤ h) : h < (q.heads.length : Int) := by
 obtain ⟨t, ht⟩ := List.exists_mem_of_ne_nil _ hn;obtain ⟨b, hb, _, h1⟩ := truth_at ht hq;rw [set_pos hs h0 t ht] at hb;cases hb; exact h1
theorem homR_len {t : Text} {x : Lexicon} (h : zaW t x = 0) : (homR t x).length ≤ 1000 := by
 rw [homR, if_pos h];have q := setL_len sLt_T (homsN (zbN t x) (zbN t x).length);have q2 := zid (zbN t x) (zbN t x).length;have q3 := entries_len (zed h) x;omega
end Go.Pk

namespace Go.Pk
open Go Go.RowKit
theorem ltL_trans : ∀ {a b c : List Int}, a.length = b.length → b.length = c.length → ltL a b = true → ltL b c = true → ltL a c = true
 | [], b, c, h1, _, h, _ => by
  obtain rfl := List.eq_nil_of_length_eq_zero h1.symm;cases h
 | x :: a, [], _, h1, _, _, _ => by simp at h1
 | x :: a, y :: b, [], _, h2, _, _ => by simp at h2
 | x :: a, y :: b, z :: c, h1, h2, h3, h4 => by
  have ih := ltL_trans (a := a) (b := b) (c := c) (by simpa using h1) (by simpa using h2);simp only [ltL] at h3 h4 ⊢
  by_cases e1 : x = y
  ·subst e1;rw [if_pos rfl] at h3
   by_cases e2 : x = z
   ·rw [if_pos e2] at h4 ⊢; exact ih h3 h4
   ·rw [if_neg e2] at h4 ⊢; exact h4
  ·rw [if_neg e1] at h3;simp only [decide_eq_true_eq] at h3
   by_cases e2 : y = z
   ·subst e2; rw [if_neg e1]; simpa using h3
   ·rw [if_neg e2] at h4;simp only [decide_eq_true_eq] at h4;rw [if_neg zq];simp only [decide_eq_true_eq]; omega
theorem beforeL_trans {a b c : List Int} (h1 : zdH a b = true) (h2 : zdH b c = true) : zdH a c = true := by
 unfold zdH at *
 by_cases e1 : a.length = b.length
 ·rw [if_neg zq] at h1
  by_cases e2 : b.length = c.length
  ·rw [if_neg zq] at h2;rw [if_neg zq];exact ltL_trans e1 e2 h1 h2
  ·rw [if_pos e2] at h2;rw [if_pos zq];simp only [decide_eq_true_eq] at *; omega
 rw [if_pos e1] at h1
 by_cases e2 : b.length = c.length
 ·rw [if_pos zq];simp only [decide_eq_true_eq] at *; omega
 rw [if_pos e2] at h2;simp only [decide_eq_true_eq] at *;rw [if_pos zq];simp only [decide_eq_true_eq]; omega
theorem ask_min (ts : List (List Int)) (n : Nat) : ∀ K k, k < K → (match askK ts n K with | none => True | some b => zdH (zax (k : Int) n) b = true) → zdB ts (zax (k : Int) n) = false
 | 0, k, hk, _ => by omega
 | K + 1, k, hk, h => by
  have ih := ask_min ts n K k;rw [askK] at h;cases hb : askK ts n K with
  | none =>
   rw [hb] at h ih;simp only [Bool.true_and] at h
   by_cases c : zdB ts (zax (K : Int) n) = true
   ·rw [if_pos c] at h
    by_cases e : k = K
    ·subst e;simp only at h;rw [zdH, if_neg (by simp), ltL_self] at h; cases h
    ·exact ih zq trivial
   ·by_cases e : k = K
    ·subst e; simpa using c
    ·exact ih zq trivial
  | some b =>
   rw [hb] at h ih;simp only at h ih
   by_cases c : (zdH (zax (K : Int) n) b && zdB ts (zax (K : Int) n)) = true
   ·rw [if_pos c] at h;simp only at h;rw [Bool.and_eq_true] at c
    by_cases e : k = K
    ·subst e;rw [zdH, if_neg (by simp), ltL_self] at h; cases h
    ·exact ih zq (beforeL_trans h c.1)
   ·rw [if_neg c] at h;simp only at h
    by_cases e : k = K
    ·subst e;rw [h, Bool.true_and] at c; simpa using c
    ·exact ih zq h
theorem ask_step (ts : List (List Int)) (n K : Nat) : (askK ts n (K + 1) = some (zax (K : Int) n) ∧ zdB ts (zax (K : Int) n) = true) ∨ askK ts n (K + 1) = askK ts n K := by
 rw [askK];cases hb : askK ts n K with
 | none =>
  simp only [Bool.true_and]
  by_cases c : zdB ts (zax (K : Int) n) = true
  ·rw [if_pos c]; exact .inl ⟨rfl, c⟩
  ·rw [if_neg c]; exact .inr rfl
 | some b =>
  simp only
  by_cases c : (zdH (zax (K : Int) n) b && zdB ts (zax (K : Int) n)) = true
  ·rw [if_pos c]; rw [Bool.and_eq_true] at c; exact .inl ⟨rfl, c.2⟩
  ·rw [if_neg c]; exact .inr rfl
theorem ask_tells (ts : List (List Int)) (n : Nat) : ∀ K b, askK ts n K = some b → zdB ts b = true ∧ ∃ k, k < K ∧ b = zax (k : Int) n
 | 0, b, h => by cases h
 | K + 1, b, h => by
  rcases ask_step ts n K with ⟨q, h2⟩ | q
  ·rw [q] at h;have h3 := Option.some.inj h;rw [← h3];exact ⟨h2, K, by omega, rfl⟩
  ·rw [q] at h;obtain ⟨h1, k, h2, h3⟩ := ask_tells ts n K b h;exact ⟨h1, k, by omega, h3⟩
theorem ask_none (ts : List (List Int)) (n : Nat) {K : Nat} (h : askK ts n K = none) {k : Nat} (hk : k < K) : zdB ts (zax (k : Int) n) = false := ask_min ts n K k hk (by rw [h]; trivial)
theorem bit_full {n k : Nat} (hk : k < n) : zgX ((2 : Int) ^ n - 1) (k : Int) = 1 := by
 rw [zgX, Int.toNat_natCast];obtain ⟨d, rfl⟩ : ∃ d, n = k + (d + 1) := ⟨n - k - 1, by omega⟩;have e : (2 : Int) ^ (k + (d + 1)) - 1 = (2 * 2 ^ d - 1) * 2 ^ k + (2 ^ k - 1) := by
  rw [Int.pow_add, Int.pow_succ];have : (2 * (2 : Int) ^ d - 1) * 2 ^ k = 2 ^ k * (2 ^ d * 2) - 2 ^ k := by rw [Int.sub_mul, Int.one_mul, Int.mul_comm, Int.mul_comm 2]
  rw [this]; omega
 have hp : (0 : Int) < 2 ^ k := by
  have : 0 < (2 : Nat) ^ k := Nat.pow_pos zq
  exact_mod_cast this
 rw [e, Int.add_comm, Int.add_mul_ediv_right _ _ zq, Int.ediv_eq_zero_of_lt zq zq];omega
theorem members_full {n k : Nat} (hk : k < n) : (k : Int) ∈ zax ((2 : Int) ^ n - 1) n := List.mem_map.2 ⟨k, List.mem_filter.2 ⟨List.mem_range.2 hk, by simpa using bit_full hk⟩, rfl⟩
theorem tells_iff {ts : List (List Int)} {l : List Int} : zdB ts l = true ↔ ∀ (i k : Nat) (t u : List Int), ts[i]? = some t → ts[k]? = some u → k < i → zeD t u l = false := by
 rw [zdB, List.all_eq_true];constructor
 ·intro h i k t u ht hu hk;have := h i (List.mem_range.2 (List.getElem?_eq_some_iff.1 ht).1);simp only [zge, ht, List.all_eq_true] at this;have := this u (List.mem_of_getElem? (by rw [List.getElem?_take, if_pos hk]; exact hu));simpa using this
 intro h i hi;have ht : ts[i]? = some (ts[i]'(List.mem_range.1 hi)) := List.getElem?_eq_getElem (List.mem_range.1 hi);simp only [zge, ht, List.all_eq_true];intro u hu;obtain ⟨k, hk⟩ := List.mem_iff_getElem?.1 hu;rw [List.getElem?_take] at hk;split at hk
 ·simpa using h i k _ u ht hk (by assumption)
 cases hk
theorem full_tells {p : Poll} : zdB (zL p) (zax (((2 ^ p.questions.length - 1 : Nat)) : Int) p.questions.length) = true := by
 rw [tells_iff];intro i k t u ht hu hk;refine Bool.eq_false_iff.2 fun ha => ?_;have e2 : (((2 ^ p.questions.length - 1 : Nat)) : Int) = (2 : Int) ^ p.questions.length - 1 := by
  have : 0 < (2 : Nat) ^ p.questions.length := Nat.pow_pos zq;rw [Int.natCast_sub zq];simp
 rw [e2, zeD, List.all_eq_true] at ha;have hn := zjk p;have ht1 := zcP (List.mem_of_getElem? ht);have hu1 := zcP (List.mem_of_getElem? hu);have e : t = u := by
  refine List.ext_getElem? fun q => ?_
  by_cases hq : q < p.questions.length
  ·simpa using ha (q : Int) (members_full hq)
  ·rw [List.getElem?_eq_none zq, List.getElem?_eq_none zq]
 subst e;obtain ⟨a1, a2⟩ := List.getElem?_eq_some_iff.1 ht;obtain ⟨b1, b2⟩ := List.getElem?_eq_some_iff.1 hu;rw [List.nodup_iff_pairwise_ne, List.pairwise_iff_getElem] at hn;exact hn k i b1 a1 hk (by rw [a2, b2])
theorem ask_some (p : Poll) : ∃ b, askK (zL p) p.questions.length (2 ^ p.questions.length) = some b := by
 cases h : askK (zL p) p.questions.length (2 ^ p.questions.length) with
 | some b => exact ⟨b, rfl⟩
 | none =>
  have h0 : 0 < (2 : Nat) ^ p.questions.length := Nat.pow_pos zq;have := ask_none _ _ h (k := 2 ^ p.questions.length - 1) zq;rw [full_tells] at this; cases this
end Go.Pk

namespace Go.Pk
open Go Go.RowKit
theorem allE_or {p : Poll} (h : zcL p = 0) : (zdb p true = 0 ∧ zL p ≠ []) ∨ (zdb p true = 8 ∧ zL p = []) := by
 rw [zdb, if_neg (by simp [h]), if_neg (by simp)]
 by_cases e : zL p = []
 ·exact .inr ⟨by rw [if_pos e], e⟩
 exact .inl ⟨by rw [if_neg e], e⟩
def openN (p : Poll) (k : Nat) : List Int := if zdb p true = 0 then ziF (zL p) k (((p.questions[k]?).getD zib).heads.length) else []
theorem settled_ok {p : Poll} (h : zdb p true = 0) : zeX p = zdo (zL p) := by rw [zeX, if_pos h]
theorem zdg {p : Poll} (hp : zcF p = true) (i : Nat) : (zca ((zbj p).take i)).length ≤ 729 := by
 rw [candL_len];have h1 := prod_pow (ns := (zbj p).take i) (fun n hn => (sizes_ok hp n (List.mem_of_mem_take hn)).2);have h2 : ((zbj p).take i).length ≤ 6 := by
  rw [List.length_take, sizes_len];have := (zcE hp).1; omega
 have h3 := Nat.pow_le_pow_right (n := 3) zq h2;have h4 : (3 : Nat) ^ 6 = 729 := by decide
 omega
theorem cand_xs {p : Poll} (hp : zcF p = true) {i k : Nat} {x : List Int} (hx : (zca ((zbj p).take i))[k]? = some x) : x.length ≤ 6 := by
 have h1 := (candL_mem.1 (List.mem_of_getElem? hx)).1;rw [List.length_take, sizes_len] at h1;have := (zcE hp).1; omega
theorem zeY {p : Poll} (hp : zcF p = true) {i k n : Nat} (hn : n ≤ 3) : (zgA ((zca ((zbj p).take i)).take k) n).length ≤ 2187 := by
 rw [candX_len, List.length_take];have h1 := zdg hp i;have h2 : min k (zca ((zbj p).take i)).length * n ≤ 729 * 3 := Nat.mul_le_mul zq hn;omega
theorem zfu (x : List Int) (h : Nat) : (heads1 x h).length = h := by simp [heads1]
theorem candX_heads {l : List (List Int)} {k n : Nat} {x : List Int} (hx : l[k]? = some x) : zgA (l.take k) n ++ heads1 x n = zgA (l.take (k + 1)) n := (candX_snoc hx).symm
theorem candX_all {p : Poll} {i k : Nat} {q : Question} (hq : p.questions[i]? = some q) (hk : (zca ((zbj p).take i)).length ≤ k) : zgA ((zca ((zbj p).take i)).take k) q.heads.length = zca ((zbj p).take (i + 1)) := by
 rw [cand_take hq, List.take_of_length_le hk]
theorem truths_take {p : Poll} {i k : Nat} (hi : p.questions.length ≤ i) (hk : (zca ((zbj p).take i)).length ≤ k) : ((zca ((zbj p).take i)).take k).filter (zdq p) = zL p := by
 rw [List.take_of_length_le hk, List.take_of_length_le (by rw [sizes_len]; exact hi)]; rfl
def wrongsN (p : Poll) (k : Nat) : Span := zht p (k : Int)
def zhd (p : Poll) (v : Voter) : Poll := ⟨p.text, p.lexicon, p.questions, p.voters ++ [v]⟩
theorem more_sub {p : Poll} {v : Voter} : ∀ t ∈ zL (zhd p v), t ∈ zL p := truths_sub (p := p) (x := zhd p v) rfl (fun u hu => List.mem_append_left _ hu)
theorem allE_some {p : Poll} (h : zcL p = 0) (hn : zL p ≠ []) : zdb p true = 0 := by
 rcases allE_or h with q | q
 ·exact q.1
 exact absurd q.2 hn
theorem allE_none {p : Poll} (h : zcL p = 0) (hn : zL p = []) : zdb p true = 8 := by
 rcases allE_or h with q | q
 ·exact absurd hn q.2
 exact q.1
def rotP (p : Poll) (ys : List Voter) : Poll := ⟨p.text, p.lexicon, p.questions, ys⟩
def RotN (vs ys : List Voter) (k i : Nat) : Prop := ys.length = vs.length ∧ ∀ j, j < i → ys[j]? = vs[(j + k) % vs.length]?
theorem RotN.step {vs ys : List Voter} {k i : Nat} {v : Voter} (h : RotN vs ys k i) (hi : i < vs.length) (hv : vs[(i + k) % vs.length]? = some v) : RotN vs (ys.set i v) k (i + 1) := by
 refine ⟨by rw [List.length_set]; exact h.1, fun j hj => ?_⟩
 by_cases e : j = i
 ·subst e; rw [List.getElem?_set_self (by rw [h.1]; exact hi), hv]
 rw [List.getElem?_set_ne (Ne.symm e)]; exact h.2 j zq
theorem RotN.perm {vs ys : List Voter} {k i : Nat} (h : RotN vs ys k i) (hi : vs.length ≤ i) (hk : k < vs.length) : ys.Perm vs := by
 have e : ys = vs.drop k ++ vs.take k := by
  refine List.ext_getElem? fun j => ?_
  by_cases hj : j < vs.length
  ·rw [h.2 j zq]
   by_cases c : j + k < vs.length
   ·rw [Nat.mod_eq_of_lt c, List.getElem?_append_left (by rw [List.length_drop]; omega), List.getElem?_drop, Nat.add_comm]
   ·have e2 : (j + k) % vs.length = j + k - vs.length := by
     rw [Nat.mod_eq_sub_mod zq, Nat.mod_eq_of_lt zq]
    rw [e2, List.getElem?_append_right (by rw [List.length_drop]; omega), List.length_drop, List.getElem?_take, if_pos zq];congr 1; omega
  ·rw [List.getElem?_eq_none (by rw [h.1]; omega), List.getElem?_eq_none (by rw [List.length_append, List.length_drop, List.length_take]; omega)]
 rw [e];have := List.perm_append_comm (l₁ := vs.drop k) (l₂ := vs.take k);rwa [List.take_append_drop] at this
structure RotE (p x : Poll) : Prop where
 ck : zcL x = zcL p
 ts : zL x = zL p
 al : ∀ so, zdb x so = zdb p so
 se : zeX x = zeX p
 ak : zcV x = zcV p
 dr : zfk x = zfk p
 de : zgi x = zgi p
def wrongsV (p : Poll) (v : Voter) : Span := if zdb p true = 0 then spanK v (zL p) else zSpan
def ziP (vs : List Voter) : Int := vs.foldl (fun a v => zfW a v.id) 0
theorem maxIdN_snoc {vs : List Voter} {i : Nat} {v : Voter} (h : vs[i]? = some v) : ziP (vs.take (i + 1)) = zfW (ziP (vs.take i)) v.id := by
 rw [ziP, zaY h, List.foldl_append]; rfl
theorem maxId_fold : ∀ (vs : List Voter) (a : Int), 0 ≤ a → a ≤ 9999 → (∀ v ∈ vs, 0 ≤ v.id ∧ v.id ≤ 9999) → 0 ≤ vs.foldl (fun a v => zfW a v.id) a ∧ vs.foldl (fun a v => zfW a v.id) a ≤ 9999
 | [], a, h1, h2, _ => ⟨h1, h2⟩
 | v :: vs, a, h1, h2, h => by
  rw [List.foldl_cons];have hv := h v List.mem_cons_self;refine maxId_fold vs _ ?_ ?_ (fun u hu => h u (List.mem_cons_of_mem _ hu))
  ·unfold zfW; split <;> omega
  ·unfold zfW; split <;> omega
theorem poll_id {p : Poll} (hp : zcF p = true) {v : Voter} (hv : v ∈ p.voters) : 0 ≤ v.id ∧ v.id ≤ 9999 := by
 have h := (poll_iff.1 hp).2.1 v hv;simp only [zhu, Bool.and_eq_true, inB, decide_eq_true_eq] at h;exact h.1.1.1
theorem maxIdN_le {p : Poll} (hp : zcF p = true) (i : Nat) : 0 ≤ ziP (p.voters.take i) ∧ ziP (p.voters.take i) ≤ 9999 := maxId_fold _ 0 zq zq (fun v hv => poll_id hp (List.mem_of_mem_take hv))
def expAt (hs qs : List Int) (k : Nat) : Int := if (k : Int) ∈ qs then (hs[k]?).getD 0 else -1
def zjt (hs qs : List Int) (n : Nat) : List Int := (List.range n).map (expAt hs qs)
theorem expL_succ (hs qs : List Int) (n : Nat) : zjt hs qs (n + 1) = zjt hs qs n ++ [expAt hs qs n] := by simp [zjt, List.range_succ]
theorem zdK (hs qs : List Int) (n : Nat) : (zjt hs qs n).length = n := by simp [zjt]
def zcw (p : Poll) (hs qs : List Int) : Voter := ⟨ziP p.voters + 1, 0, zjt hs qs p.questions.length⟩
theorem members_sorted (s : Int) (n : Nat) : (zax s n).Pairwise fun a b => a < b := by
 rw [zax, List.pairwise_map];exact (List.pairwise_lt_range.filter _).imp fun h => by omega
theorem ask_facts {p : Poll} (h : zdb p true = 0) : ∃ k : Nat, k < 2 ^ p.questions.length ∧ zcV p = zax (k : Int) p.questions.length ∧ askK (zL p) p.questions.length (2 ^ p.questions.length) = some (zcV p) ∧ zdB (zL p) (zcV p) = true := by
 obtain ⟨b, hb⟩ := ask_some p;have e : zcV p = b := by rw [zcV, if_pos h, hb]; rfl
 obtain ⟨h1, k, h2, h3⟩ := ask_tells _ _ _ _ hb;exact ⟨k, h2, by rw [e, h3], by rw [e, hb], by rw [e]; exact h1⟩
theorem ask_in {p : Poll} (h : zdb p true = 0) {i : Nat} {a : Int} (ha : (zcV p)[i]? = some a) : 0 ≤ a ∧ a < (p.questions.length : Int) := by
 obtain ⟨k, _, e, _⟩ := ask_facts h;rw [e] at ha;exact members_mem (List.mem_of_getElem? ha)
theorem ask_up {p : Poll} (h : zdb p true = 0) {i : Nat} {a b : Int} (hi : 0 < i) (ha : (zcV p)[i]? = some a) (hb : (zcV p)[i - 1]? = some b) : b < a := by
 obtain ⟨k, _, e, _⟩ := ask_facts h;have hs := members_sorted (k : Int) p.questions.length;rw [← e] at hs;exact lt_pred hs hi hb ha
theorem alike_symm (t u l : List Int) : zeD t u l = zeD u t l := by
 rw [zeD, zeD];congr 1;funext k;rw [Bool.eq_iff_iff, decide_eq_true_eq, decide_eq_true_eq]; exact eq_comm
theorem tells_eq {ts : List (List Int)} {l : List Int} (hn : zdB ts l = true) {t u : List Int} (ht : t ∈ ts) (hu : u ∈ ts) (ha : zeD t u l = true) : t = u := by
 obtain ⟨i, hi⟩ := List.mem_iff_getElem?.1 ht;obtain ⟨k, hk⟩ := List.mem_iff_getElem?.1 hu
 rcases Nat.lt_trichotomy i k with q | q | q
 ·have := tells_iff.1 hn k i u t hk hi q;rw [alike_symm, ha] at this; cases this
 ·subst q; rw [hi] at hk; exact Option.some.inj hk
 have := tells_iff.1 hn i k t u hi hk q;rw [ha] at this; cases this
theorem exp_at {hs qs : List Int} {n k : Nat} (hk : k < n) : (zjt hs qs n)[k]? = some (expAt hs qs k) := by
 rw [zjt, List.getElem?_map, List.getElem?_range hk]; rfl
theorem expert_only {p : Poll} {hs qs : List Int} (h1 : hs ∈ zL p) (hq : ∀ k ∈ qs, 0 ≤ k ∧ k < (p.questions.length : Int)) (ht : zdB (zL p) qs = true) : zL (zhd p (zcw p hs qs)) = [hs] := by
 have hn : (zL (zhd p (zcw p hs qs))).Nodup := zjk _;have hl := zcP h1;have hmem : ∀ t, t ∈ zL (zhd p (zcw p hs qs)) ↔ t = hs := by
  intro t;constructor
  ·intro hm;have h2 := more_sub t hm;refine tells_eq ht h2 h1 ?_;rw [zeD, List.all_eq_true];intro k hk;rw [decide_eq_true_eq];obtain ⟨a, b⟩ := hq k hk;have hl2 := zcP h2;obtain ⟨n, rfl⟩ := Int.eq_ofNat_of_zero_le a;have hn1 : n < p.questions.length := by omega
   have e1 : hs[n]? = some (hs[n]'zq) := List.getElem?_eq_getElem zq;have e2 : t[n]? = some (t[n]'zq) := List.getElem?_eq_getElem zq;obtain ⟨qn, hqn⟩ : ∃ q, p.questions[n]? = some q := ⟨_, List.getElem?_eq_getElem hn1⟩;have h0 := (truth_in h1 e1 hqn).1;have e3 : (zcw p hs qs).votes[n]? = some (hs[n]'zq) := by
    show (zjt hs qs p.questions.length)[n]? = _;rw [exp_at hn1, expAt, if_pos (by simpa using hk), e1]; rfl
   have := sure_vote (p := zhd p (zcw p hs qs)) hm (List.mem_append_right _ (List.mem_singleton.2 rfl)) rfl e3 h0 e2;show t[((n : Nat) : Int).toNat]? = hs[((n : Nat) : Int).toNat]?;rw [Int.toNat_natCast, e1, e2, this]
  ·rintro rfl;have h2 := List.mem_filter.1 h1;refine List.mem_filter.2 ⟨h2.1, ?_⟩;have h3 := true_iff.1 h2.2;refine true_iff.2 ⟨⟨h3.1.1, by rw [inAt_of (p := p) (x := zhd p (zcw p t qs)) rfl]; exact h3.1.2⟩, fun u hu => ?_⟩
   rcases List.mem_append.1 hu with q | q
   ·exact h3.2 u q
   ·rw [List.mem_singleton] at q;subst q;have : zcp (zcw p t qs) t = 0 := by
     rw [zcp, List.length_eq_zero_iff, List.filter_eq_nil_iff];intro k hk;have hk1 := List.mem_range.1 hk;have e1 : t[k]? = some (t[k]'hk1) := List.getElem?_eq_getElem hk1;have e3 : (zcw p t qs).votes[k]? = some (expAt t qs k) := by
      show (zjt t qs p.questions.length)[k]? = _;exact exp_at zq
     rw [zdr e3 e1, expAt]
     by_cases c : (k : Int) ∈ qs
     ·rw [if_pos c, e1]; simp
     ·rw [if_neg c]; simp
    rw [this]; exact Int.le_refl _
 exact List.perm_singleton.1 ((List.perm_ext_iff_of_nodup hn (by simp)).2 fun t => by rw [hmem t, List.mem_singleton])
theorem expert_set {p : Poll} {hs qs : List Int} (h : zL (zhd p (zcw p hs qs)) = [hs]) : zdo (zL (zhd p (zcw p hs qs))) = hs := by
 rw [h];exact setK_one (ts := [hs]) rfl
theorem bits_low {s : Int} {n k : Nat} (hk : k < n) : zgX (s % 2 ^ n) (k : Int) = zgX s (k : Int) := by
 rw [zgX, zgX, Int.toNat_natCast];obtain ⟨d, rfl⟩ : ∃ d, n = k + (d + 1) := ⟨n - k - 1, by omega⟩;have hp : (0 : Int) < 2 ^ k := by
  have : 0 < (2 : Nat) ^ k := Nat.pow_pos zq
  exact_mod_cast this
 have e : s = s % 2 ^ (k + (d + 1)) + 2 ^ k * (2 * 2 ^ d * (s / 2 ^ (k + (d + 1)))) := by
  have h1 := Int.emod_add_mul_ediv s (2 ^ (k + (d + 1)));have h2 : (2 : Int) ^ (k + (d + 1)) = 2 ^ k * (2 * 2 ^ d) := by rw [Int.pow_add, Int.pow_succ, Int.mul_comm (2 ^ d)]
  rw [h2] at h1 ⊢;rw [Int.mul_assoc (2 ^ k)] at h1; exact h1.symm
 conv => rhs; rw [e]
 rw [Int.add_mul_ediv_left _ _ zq, Int.mul_assoc 2, Int.add_mul_emod_self_left]
theorem members_low (s : Int) (n : Nat) : zax (s % 2 ^ n) n = zax s n := by
 rw [zax, zax];congr 1;refine List.filter_congr fun k hk => ?_;rw [bits_low (List.mem_range.1 hk)]
theorem ask_least {p : Poll} (h : zdb p true = 0) {s : Int} (h0 : 0 ≤ s) (hb : zdH (zax s p.questions.length) (zcV p) = true) : zdB (zL p) (zax s p.questions.length) = false := by
 obtain ⟨_, _, _, hk, _⟩ := ask_facts h;have hp : (0 : Int) < 2 ^ p.questions.length := by
  have : 0 < (2 : Nat) ^ p.questions.length := Nat.pow_pos zq
  exact_mod_cast this
 obtain ⟨m, hm⟩ := Int.eq_ofNat_of_zero_le (Int.emod_nonneg s (Int.ne_of_gt hp));have hl : m < 2 ^ p.questions.length := by
  have h1 := Int.emod_lt_of_pos s hp;rw [hm] at h1
  exact_mod_cast h1
 have e : zax s p.questions.length = zax (m : Int) p.questions.length := by rw [← hm, members_low]
 rw [e] at hb ⊢;exact ask_min _ _ _ m hl (by rw [hk]; exact hb)
theorem ask_mem {p : Poll} (h : zdb p true = 0) {a : Int} (ha : a ∈ zcV p) : 0 ≤ a ∧ a < (p.questions.length : Int) := by
 obtain ⟨i, hi⟩ := List.mem_iff_getElem?.1 ha;exact ask_in h hi
theorem bits_ok8 {s b : Int} (h0 : 0 ≤ s) (h1 : s ≤ 255) : 0 ≤ s / 2 ^ b.toNat ∧ s / 2 ^ b.toNat ≤ 255 := by
 have hp : (0 : Int) < 2 ^ b.toNat := by
  have : 0 < (2 : Nat) ^ b.toNat := Nat.pow_pos zq
  exact_mod_cast this
 refine ⟨Int.ediv_nonneg h0 zq, ?_⟩;have := Int.ediv_le_self (2 ^ b.toNat) h0;omega
theorem alike_snoc {t u l : List Int} {m : Nat} {c a b : Int} (hc : l[m]? = some c) (ha : t[c.toNat]? = some a) (hb : u[c.toNat]? = some b) : zeD t u (l.take (m + 1)) = (zeD t u (l.take m) && decide (a = b)) := by
 rw [zeD, zaY hc, List.all_append, List.all_cons, List.all_nil, Bool.and_true, ha, hb];simp [zeD]
theorem alike_not {t u l : List Int} {m : Nat} {c : Int} (hc : l[m]? = some c) (h : zeD t u (l.take m) = false) : zeD t u (l.take (m + 1)) = false := by
 rw [zeD] at h ⊢;rw [zaY hc, List.all_append, h]; rfl
theorem tells_all {ts : List (List Int)} {l : List Int} {i : Nat} (h : ∀ j, j < i → zge ts l j = true) (hi : ts.length ≤ i) : zdB ts l = true := by
 rw [zdB, List.all_eq_true];intro j hj;have := List.mem_range.1 hj;exact h j zq
end Go.Pk
