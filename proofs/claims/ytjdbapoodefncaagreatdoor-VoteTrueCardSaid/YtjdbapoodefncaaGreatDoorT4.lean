/- A PART OF THE PROOF: contracts of functions, each walked once (much of it printed by a program of the author's own). -/
import Derived.Test.YtjdbapoodefncaaGreatDoorT3
import Derived.Test.YtjdbapoodefncaaGreatDoorT2
import Derived.Test.YtjdbapoodefncaaGreatDoorT1
set_option linter.unusedSimpArgs false
set_option linter.unusedVariables false
set_option maxRecDepth 4000
namespace Go.Pk
open Go Go.RowKit
def maxL : List Int → Int
 | [] => 0
 | a :: l => l.foldl zgM a
theorem maxL_take {l : List Int} {k : Nat} {x : Int} (h : l[k]? = some x) (hk : 1 ≤ k) : maxL (l.take (k + 1)) = zgM (maxL (l.take k)) x := by
 cases l with
 | nil => simp at h
 | cons a l =>
  obtain ⟨m, rfl⟩ : ∃ m, k = m + 1 := ⟨k - 1, by omega⟩;simp only [List.getElem?_cons_succ] at h;simp only [List.take_succ_cons, maxL];rw [zbf h, List.foldl_append]; rfl
theorem maxL_one {l : List Int} {x : Int} (h : l[0]? = some x) : maxL (l.take 1) = x := by
 cases l with
 | nil => simp at h
 | cons a l => simp at h; subst h; rfl
theorem worst3 (ts : List (List Int)) (q : Nat) {a b c : Int} (ha : a = (zgQ ts q 0 : Nat)) (hb : b = (zgQ ts q 1 : Nat)) (hc : c = (zgQ ts q 2 : Nat)) : maxL [a, b, c] = zdg ts q := by
 subst ha hb hc;show zgM (zgM (zgQ ts q 0 : Int) (zgQ ts q 1 : Int)) (zgQ ts q 2 : Int) = zgM (zgM (zgM 0 (zgQ ts q 0 : Int)) (zgQ ts q 1 : Int)) (zgQ ts q 2 : Int);have e : zgM 0 (zgQ ts q 0 : Int) = (zgQ ts q 0 : Int) := by unfold zgM; split <;> omega
 rw [e]
theorem cmpL_lt : ∀ {a b : List Int}, a.length = b.length → decide (cmpL a b < 0) = ltL a b
 | [], [], _ => rfl
 | x :: a, y :: b, h => by
  have ih := cmpL_lt (a := a) (b := b) (by simpa using h);simp only [cmpL, ltL, zcY]
  by_cases e : x = y
  ·subst e; simp; rw [← ih]
  ·rw [if_neg e]
   by_cases h1 : x < y
   ·simp [h1]
   ·have h2 : y < x := by omega
    simp [h1, h2]
 | [], _ :: _, h => by simp at h
 | _ :: _, [], h => by simp at h
theorem before_eq (a b : List Int) : decide (orL [(a.length : Int) - (b.length : Int), cmpL a b] < 0) = zjA a b := by
 unfold zjA
 by_cases e : a.length = b.length
 ·rw [if_neg zr, ← cmpL_lt e];simp only [orL, show (a.length : Int) - (b.length : Int) = 0 by omega, ne_eq, not_true_eq_false, if_false]
  by_cases h : cmpL a b = 0 <;> simp [h]
 rw [if_pos e];simp only [orL, ne_eq, show ¬ (a.length : Int) - (b.length : Int) = 0 by omega, not_false_eq_true, if_true];rw [Bool.eq_iff_iff, decide_eq_true_eq, decide_eq_true_eq]; omega
theorem members_none {s : Int} {n k : Nat} (h0 : 0 ≤ s) (h1 : s < 2 ^ n) (hk : n ≤ k) : ziN s (k : Int) = 0 := by
 have h2 : (2 : Int) ^ n ≤ 2 ^ k := by
  have := Nat.pow_le_pow_right (n := 2) zr hk
  exact_mod_cast this
 rw [ziN, Int.toNat_natCast, Int.ediv_eq_zero_of_lt h0 zr]; rfl
theorem members_top {s : Int} {n : Nat} (h0 : 0 ≤ s) (h1 : s < 2 ^ n) : ∀ d, zbU s (n + d) = zbU s n
 | 0 => rfl
 | d + 1 => by
  rw [← Nat.add_assoc, zjn, if_neg (by rw [members_none h0 h1 zr]; decide), List.append_nil];exact members_top h0 h1 d
theorem members_six {s : Int} {n : Nat} (h0 : 0 ≤ s) (h1 : s < 2 ^ n) (hn : n ≤ 6) : zbU s 6 = zbU s n := by
 have := members_top h0 h1 (6 - n);rwa [show n + (6 - n) = 6 by omega] at this
def zgl {α : Type} (lt : α → α → Bool) (l : List α) : Option α := l.foldl (fun o x => match o with | none => some x | some b => if lt x b = true then some x else some b) none
def zeu {α : Type} (lt : α → α → Bool) (z : α) (l : List α) : α := (zgl lt l).getD z
theorem zfv {α : Type} (lt : α → α → Bool) (l : List α) (x : α) : zgl lt (l ++ [x]) = match zgl lt l with | none => some x | some b => if lt x b = true then some x else some b := by simp [zgl]
theorem ziD {α : Type} {lt : α → α → Bool} : ∀ {l : List α}, (zgl lt l).isSome = !l.isEmpty := by
 intro l
 rcases List.eq_nil_or_concat l with rfl | ⟨l, x, rfl⟩
 ·rfl
 rw [List.concat_eq_append, zfv];cases zgl lt l with
 | none => simp
 | some b => simp only; split <;> simp
theorem first_one {α : Type} {lt : α → α → Bool} {z x : α} {l : List α} (h : (!l.isEmpty) = false) : zeu lt z (l ++ [x]) = x := by
 have e := ziD (lt := lt) (l := l);rw [h] at e;rw [zeu, zfv];cases h2 : zgl lt l with
 | none => rfl
 | some b => rw [h2] at e; cases e
theorem first_new {α : Type} {lt : α → α → Bool} {z x : α} {l : List α} (h : (!l.isEmpty) = true) (hl : lt x (zeu lt z l) = true) : zeu lt z (l ++ [x]) = x := by
 have e := ziD (lt := lt) (l := l);rw [h] at e;rw [zeu] at hl ⊢;rw [zfv];cases h2 : zgl lt l with
 | none => rw [h2] at e; cases e
 | some b => rw [h2] at hl; simp only [Option.getD_some] at hl; simp [hl]
theorem first_old {α : Type} {lt : α → α → Bool} {z x : α} {l : List α} (h : (!l.isEmpty) = true) (hl : lt x (zeu lt z l) = false) : zeu lt z (l ++ [x]) = zeu lt z l := by
 have e := ziD (lt := lt) (l := l);rw [h] at e;rw [zeu] at hl ⊢;rw [zeu, zfv];cases h2 : zgl lt l with
 | none => rw [h2] at e; cases e
 | some b => rw [h2] at hl; simp only [Option.getD_some] at hl; simp [hl]
theorem firstO_mem {α : Type} {lt : α → α → Bool} : ∀ {l : List α} {o : Option α} {b : α}, l.foldl (fun o x => match o with | none => some x | some b => if lt x b = true then some x else some b) o = some b → b ∈ l ∨ o = some b
 | [], o, b, h => .inr h
 | x :: l, o, b, h => by
  rw [List.foldl_cons] at h
  rcases firstO_mem h with q | q
  ·exact .inl (List.mem_cons_of_mem _ q)
  ·cases o with
   | none => simp only [Option.some.injEq] at q; subst q; exact .inl List.mem_cons_self
   | some c =>
    simp only at q;split at q
    ·simp only [Option.some.injEq] at q; subst q; exact .inl List.mem_cons_self
    ·exact .inr q
theorem firstL_mem {α : Type} {lt : α → α → Bool} {z : α} {l : List α} (h : (!l.isEmpty) = true) : zeu lt z l ∈ l := by
 have e := ziD (lt := lt) (l := l);rw [h] at e;rw [zeu];cases h2 : zgl lt l with
 | none => rw [h2] at e; cases e
 | some b =>
  rcases firstO_mem h2 with q | q
  ·exact q
  ·cases q
def askC (ts : List (List Int)) (n k : Nat) : List (List Int) := ((List.range k).filter fun (s : Nat) => zjh ts (zbU (s : Int) n)).map fun (s : Nat) => zbU (s : Int) n
theorem askC_succ (ts : List (List Int)) (n k : Nat) : askC ts n (k + 1) = askC ts n k ++ if zjh ts (zbU (k : Int) n) = true then [zbU (k : Int) n] else [] := by
 rw [askC, List.range_succ, List.filter_append, List.map_append, List.filter_cons, List.filter_nil, askC]
 by_cases h : zjh ts (zbU (k : Int) n) = true <;> simp [h]
theorem askK_first (ts : List (List Int)) (n : Nat) : ∀ k, zgl zjA (askC ts n k) = askK ts n k
 | 0 => rfl
 | k + 1 => by
  rw [askC_succ, askK, ← askK_first ts n k]
  by_cases h : zjh ts (zbU (k : Int) n) = true
  ·rw [if_pos h, zfv, h, Bool.and_true];cases zgl zjA (askC ts n k) with
   | none => rfl
   | some b => rfl
  ·rw [if_neg h, List.append_nil, Bool.not_eq_true] at *;rw [h, Bool.and_false]; rfl
def nextC (ts : List (List Int)) (k : Nat) : List Int := ((List.range k).filter fun (q : Nat) => decide (zdg ts q < (ts.length : Int))).map fun (q : Nat) => (q : Int)
theorem zjm (ts : List (List Int)) (k : Nat) : nextC ts (k + 1) = nextC ts k ++ if zdg ts k < (ts.length : Int) then [(k : Int)] else [] := by
 rw [nextC, List.range_succ, List.filter_append, List.map_append, List.filter_cons, List.filter_nil, nextC]
 by_cases h : zdg ts k < (ts.length : Int) <;> simp [h]
def worseB (ts : List (List Int)) (a b : Int) : Bool := decide (zdg ts a.toNat < zdg ts b.toNat)
theorem maxI_le {a b c : Int} (h1 : a ≤ c) (h2 : b ≤ c) : zgM a b ≤ c := by unfold zgM; split <;> omega
theorem worst_le (ts : List (List Int)) (q : Nat) : zdg ts q ≤ (ts.length : Int) := by
 have h : ∀ k, worstK ts q k ≤ (ts.length : Int) := by
  intro k
  induction k with
  | zero => simp [worstK]
  | succ k ih => exact maxI_le ih (by have := zfI ts q (k : Int); omega)
 exact h 3
theorem next_first (ts : List (List Int)) : ∀ k, zgl (worseB ts) (nextC ts (k + 1)) = if zdg ts (zhz ts k) < (ts.length : Int) then some (zhz ts k : Int) else none
 | 0 => by
  rw [zjm]
  by_cases h : zdg ts 0 < (ts.length : Int)
  ·simp [h, zhz, nextC, zgl]
  ·simp [h, zhz, nextC, zgl]
 | k + 1 => by
  rw [zjm, zhz];have ih := next_first ts k;have h1 := worst_le ts (k + 1);have h2 := worst_le ts (zhz ts k)
  by_cases a : zdg ts (k + 1) < zdg ts (zhz ts k)
  ·rw [if_pos a, if_pos (show zdg ts (k + 1) < (ts.length : Int) by omega), zfv, ih]
   by_cases b : zdg ts (zhz ts k) < (ts.length : Int)
   ·rw [if_pos b];rw [if_pos (show zdg ts (k + 1) < (ts.length : Int) by omega)];simp only [worseB, Int.toNat_natCast, decide_eq_true a, if_true]
   ·rw [if_neg b, if_pos (show zdg ts (k + 1) < (ts.length : Int) by omega)]
  ·rw [if_neg a]
   by_cases b : zdg ts (zhz ts k) < (ts.length : Int)
   ·by_cases c : zdg ts (k + 1) < (ts.length : Int)
    ·rw [if_pos c, zfv, ih, if_pos b];simp only [worseB, Int.toNat_natCast, decide_eq_false a, Bool.false_eq_true, if_false]
    ·rw [if_neg c, List.append_nil, ih]
   ·rw [if_neg (show ¬ zdg ts (k + 1) < (ts.length : Int) by omega), List.append_nil, ih]
theorem candL_nodup : ∀ ns : List Nat, (ziZ ns).Nodup
 | [] => by simp [ziZ]
 | n :: ns => by
  rw [ziZ, List.Nodup, List.pairwise_flatMap];refine ⟨fun h _ => ?_, ?_⟩
  ·rw [List.pairwise_map];exact (candL_nodup ns).imp fun hne e => hne (by simpa using e)
  ·refine (List.nodup_range (n := n)).imp fun hne => ?_;intro x hx y hy e;obtain ⟨t, _, rfl⟩ := List.mem_map.1 hx;obtain ⟨u, _, rfl⟩ := List.mem_map.1 hy;simp only [List.cons.injEq] at e;exact hne zr
theorem truths_nodup (p : Poll) : (zO p).Nodup := (candL_nodup _).filter _
theorem cnt_all {ts : List (List Int)} {q : Nat} {h : Int} (e : zgQ ts q h = ts.length) {t : List Int} (ht : t ∈ ts) : t[q]? = some h := by
 have := List.length_filter_eq_length_iff.1 e t ht;simpa using this
theorem worst_all {ts : List (List Int)} {q : Nat} (h : ¬ zdg ts q < (ts.length : Int)) (h0 : 0 < ts.length) : ∃ a : Int, ∀ t ∈ ts, t[q]? = some a := by
 have h1 := worst_le ts q;have h2 : zdg ts q = (ts.length : Int) := by omega
 have h3 : zdg ts q = zgM (zgM (zgM 0 (zgQ ts q 0 : Int)) (zgQ ts q 1 : Int)) (zgQ ts q 2 : Int) := rfl;have a0 := zfI ts q 0;have a1 := zfI ts q 1;have a2 := zfI ts q 2;have : zgQ ts q 0 = ts.length ∨ zgQ ts q 1 = ts.length ∨ zgQ ts q 2 = ts.length := by
  have h4 : ∀ a b c : Int, zgM a b = c → a = c ∨ b = c := by intro a b c e; unfold zgM at e; split at e <;> simp [e]
  rw [h3] at h2
  rcases h4 _ _ _ h2 with e | e
  ·rcases h4 _ _ _ e with e | e
   ·rcases h4 _ _ _ e with e | e
    ·omega
    ·left; omega
   ·right; left; omega
  ·right; right; omega
 rcases this with e | e | e
 ·exact ⟨0, fun t ht => cnt_all e ht⟩
 ·exact ⟨1, fun t ht => cnt_all e ht⟩
 exact ⟨2, fun t ht => cnt_all e ht⟩
theorem nextK_small {p : Poll} (hl : 1 < (zO p).length) : zdg (zO p) (zhz (zO p) (p.questions.length - 1)) < ((zO p).length : Int) := by
 refine Classical.byContradiction fun hc => ?_
 -- all questions leave all
 have h1 : ∀ k q, q ≤ k → zdg (zO p) (zhz (zO p) k) ≤ zdg (zO p) q := by
  intro k
  induction k with
  | zero =>
   intro q hq;obtain rfl : q = 0 := by omega
   exact Int.le_refl _
  | succ k ih =>
   intro q hq;rw [zhz]
   by_cases a : zdg (zO p) (k + 1) < zdg (zO p) (zhz (zO p) k)
   ·rw [if_pos a]
    by_cases e : q = k + 1
    ·subst e; exact Int.le_refl _
    ·exact Int.le_trans (Int.le_of_lt a) (ih q zr)
   ·rw [if_neg a]
    by_cases e : q = k + 1
    ·subst e; omega
    ·exact ih q zr
 obtain ⟨t0, h0⟩ : ∃ t, (zO p)[0]? = some t := ⟨_, List.getElem?_eq_getElem zr⟩;obtain ⟨t1, h2⟩ : ∃ t, (zO p)[1]? = some t := ⟨_, List.getElem?_eq_getElem zr⟩;have m0 := List.mem_of_getElem? h0;have m1 := List.mem_of_getElem? h2;have hne : t0 = t1 := by
  refine List.ext_getElem? fun q => ?_
  by_cases hq : q < p.questions.length
  ·obtain ⟨a, ha⟩ := worst_all (ts := zO p) (q := q) (by have := h1 (p.questions.length - 1) q zr; omega) zr;rw [ha t0 m0, ha t1 m1]
  ·rw [List.getElem?_eq_none (by rw [zdI m0]; omega), List.getElem?_eq_none (by rw [zdI m1]; omega)]
 have hn := truths_nodup p;subst hne;have e0 := (List.getElem?_eq_some_iff.1 h0).2;have e1 := (List.getElem?_eq_some_iff.1 h2).2;have := (List.nodup_iff_pairwise_ne.1 hn);rw [List.pairwise_iff_getElem] at this;exact this 0 1 zr zr zr (by rw [e0, e1])
theorem next_ok {p : Poll} (hl : 1 < (zO p).length) (hq : 0 < p.questions.length) : zeu (worseB (zO p)) 0 (nextC (zO p) p.questions.length) = (zhz (zO p) (p.questions.length - 1) : Int) := by
 have h := next_first (zO p) (p.questions.length - 1);rw [show p.questions.length - 1 + 1 = p.questions.length by omega, if_pos (nextK_small hl)] at h;rw [zeu, h]; rfl
def zfg (t : List Int) (s : Int) (k j : Nat) : Int := if j < k then (t[j]?).getD 0 * ziN s (j : Int) else 0
def ziQ (t : List Int) (s : Int) (k : Nat) : Six := ⟨zfg t s k 0, zfg t s k 1, zfg t s k 2, zfg t s k 3, zfg t s k 4, zfg t s k 5⟩
theorem zhX {t : List Int} {s : Int} {k j : Nat} (h : ¬ j = k) : zfg t s (k + 1) j = zfg t s k j := by
 unfold zfg
 by_cases e : j < k
 ·rw [if_pos e, if_pos zr]
 rw [if_neg e, if_neg zr]
theorem sixAt_new {t : List Int} {s x : Int} {k : Nat} (h : t[k]? = some x) : zfg t s (k + 1) k = x * ziN s (k : Int) := by
 rw [zfg, if_pos zr, h]; rfl
theorem bit_01 {s : Int} {j : Int} : ziN s j = 0 ∨ ziN s j = 1 := by rw [ziN]; omega
theorem zhg {t : List Int} {s x : Int} {k j : Nat} (hj : j = k) (h : t[k]? = some x) : zfg t s (k + 1) j = x * ziN s (k : Int) := by subst hj; exact sixAt_new h
theorem sixK_len {t : List Int} {s : Int} (h : t.length ≤ 6) : ziQ t s t.length = ziQ t s 6 := by
 have e : ∀ j, j < 6 → zfg t s t.length j = zfg t s 6 j := by
  intro j hj;rw [zfg, zfg, if_pos hj]
  by_cases q : j < t.length
  ·rw [if_pos q]
  ·rw [if_neg q, List.getElem?_eq_none zr]; simp
 simp only [ziQ, e 0 zr, e 1 zr, e 2 zr, e 3 zr, e 4 zr, e 5 zr]
theorem six_alike6 {t u : List Int} {s : Int} (ht : t.length ≤ 6) (hu : t.length = u.length) : alikeL t u (zbU s 6) = decide (ziQ t s 6 = ziQ u s 6) := by
 have hk : ∀ j : Nat, j < 6 → ziN s (j : Int) = 1 → (zfg t s 6 j = zfg u s 6 j ↔ t[j]? = u[j]?) := by
  intro j hj hb;rw [zfg, zfg, if_pos hj, if_pos hj, hb, Int.mul_one, Int.mul_one]
  by_cases q : j < t.length
  ·rw [List.getElem?_eq_getElem q, List.getElem?_eq_getElem zr]; simp
  ·rw [List.getElem?_eq_none zr, List.getElem?_eq_none zr]; simp
 rw [Bool.eq_iff_iff, decide_eq_true_eq, alikeL, List.all_eq_true];have key : (∀ k ∈ zbU s 6, decide (t[k.toNat]? = u[k.toNat]?) = true) ↔ ∀ j, j < 6 → zfg t s 6 j = zfg u s 6 j := by
  constructor
  ·intro h j hj
   rcases bit_01 (s := s) (j := (j : Int)) with b | b
   ·rw [zfg, zfg, if_pos hj, if_pos hj, b, Int.mul_zero, Int.mul_zero]
   ·refine (hk j hj b).2 ?_;have := h (j : Int) (List.mem_map.2 ⟨j, List.mem_filter.2 ⟨List.mem_range.2 hj, by simpa using b⟩, rfl⟩);simpa using this
  ·intro h k hk';obtain ⟨j, hj, rfl⟩ := List.mem_map.1 hk';have h1 := List.mem_range.1 (List.mem_filter.1 hj).1;have h2 := (List.mem_filter.1 hj).2;simp only [decide_eq_true_eq] at h2;have := (hk j h1 h2).1 (h j h1);simpa using this
 rw [key];constructor
 ·intro h;simp only [ziQ, h 0 zr, h 1 zr, h 2 zr, h 3 zr, h 4 zr, h 5 zr]
 intro h j hj;simp only [ziQ, Six.mk.injEq] at h;obtain ⟨a0, a1, a2, a3, a4, a5⟩ := h
 match j, hj with
 | 0, _ => exact a0
 | 1, _ => exact a1
 | 2, _ => exact a2
 | 3, _ => exact a3
 | 4, _ => exact a4
 | 5, _ => exact a5
 | j + 6, hj => omega
def sixM (ts : List (List Int)) (s : Int) (i : Nat) (x : Six) : Option Bool := if ((ts.take i).any fun u => decide (ziQ u s 6 = x)) = true then some true else none
theorem sixM_succ {ts : List (List Int)} {s : Int} {i : Nat} {t : List Int} (ht : ts[i]? = some t) (x : Six) : sixM ts s (i + 1) x = if x = ziQ t s 6 then some true else sixM ts s i x := by
 rw [sixM, sixM, any_snoc ht]
 by_cases e : x = ziQ t s 6
 ·rw [if_pos e, e]; simp
 rw [if_neg e, decide_eq_false (fun q => e q.symm), Bool.or_false]
theorem tells_next {ts : List (List Int)} {s : Int} {i : Nat} {t : List Int} (hl : ∀ t ∈ ts, t.length ≤ 6) (he : ∀ t ∈ ts, ∀ u ∈ ts, t.length = u.length) (ht : ts[i]? = some t) (h : (sixM ts s i (ziQ t s 6)).getD false = false) : zji ts (zbU s 6) i = true := by
 simp only [zji, ht, List.all_eq_true];intro u hu;have hm := List.mem_of_getElem? ht;rw [six_alike6 (hl t hm) (he t hm u (List.mem_of_mem_take hu))];rw [sixM] at h;split at h
 ·cases h
 rename_i q;simp only [Bool.not_eq_true, List.any_eq_false, decide_eq_true_eq] at q;simp only [Bool.not_eq_true', decide_eq_false_iff_not];exact fun e => q u hu e.symm
theorem tells_stop {ts : List (List Int)} {s : Int} {i : Nat} {t : List Int} (hl : ∀ t ∈ ts, t.length ≤ 6) (he : ∀ t ∈ ts, ∀ u ∈ ts, t.length = u.length) (ht : ts[i]? = some t) (h : (sixM ts s i (ziQ t s 6)).getD false = true) : zjh ts (zbU s 6) = false := by
 refine tells_no (i := i) ?_;simp only [zji, ht];rw [sixM] at h;split at h
 ·rename_i q;obtain ⟨u, hu, e⟩ := List.any_eq_true.1 q;have hm := List.mem_of_getElem? ht;refine List.all_eq_false.2 ⟨u, hu, ?_⟩;rw [six_alike6 (hl t hm) (he t hm u (List.mem_of_mem_take hu))];simp only [decide_eq_true_eq] at e;simp [e]
 cases h
theorem sixM_none {ts : List (List Int)} {s : Int} {i : Nat} {x : Six} (h : (sixM ts s i x).getD false = false) : sixM ts s i x = none := by
 rw [sixM] at h ⊢;split at h
 ·cases h
 rename_i q; rw [if_neg q]
theorem askC_six {ts : List (List Int)} {n : Nat} (hn : n ≤ 6) : ∀ k, k ≤ 2 ^ n → askC ts 6 k = askC ts n k := by
 intro k hk;rw [askC, askC];have e : ∀ s ∈ List.range k, zbU (s : Int) 6 = zbU (s : Int) n := by
  intro s hs;have := List.mem_range.1 hs;refine members_six zr ?_ hn;have h2 : (s : Int) < ((2 ^ n : Nat) : Int) := by omega
  exact_mod_cast h2
 rw [List.filter_congr (q := fun (s : Nat) => zjh ts (zbU (s : Int) n)) fun s hs => by rw [e s hs]];exact List.map_congr_left fun s hs => e s (List.mem_filter.1 hs).1
theorem cnt_up {ts : List (List Int)} {i q : Nat} {t : List Int} {a : Int} (ht : ts[i]? = some t) (ha : t[q]? = some a) (h : Int) : ((zgQ (ts.take (i + 1)) q h : Nat) : Int) = ((zgQ (ts.take i) q h : Nat) : Int) + if a = h then 1 else 0 := by
 rw [cntH_snoc ht, ha]
 by_cases e : a = h <;> simp [e]
theorem next_pos {p : Poll} (h : 1 < (zO p).length) : 0 < p.questions.length := by
 refine Classical.byContradiction fun q => ?_;have e : p.questions = [] := List.eq_nil_of_length_eq_zero zr;have h2 : (zO p).length ≤ 1 := by
  rw [zO, zgJ, e];exact List.length_filter_le _ _
 omega
theorem zgH {p : Poll} (hp : zcJ p = true) {ls : List (List Int)} (hl : ∀ t ∈ ls, t ∈ zO p) {a : Int} (h0 : 0 ≤ a) (h1 : a < (p.questions.length : Int)) : ∀ t ∈ ls, ∃ x, t[a.toNat]? = some x ∧ 0 ≤ x ∧ x < 3 := by
 intro t ht;obtain ⟨q, hq⟩ : ∃ q, p.questions[a.toNat]? = some q := ⟨_, List.getElem?_eq_getElem zr⟩;obtain ⟨x, hx, h2, h3⟩ := truth_at (hl t ht) hq;have := (zfs hp hq).2.2.1;exact ⟨x, hx, h2, by omega⟩
theorem truths_small {p : Poll} (hp : zcJ p = true) {ls : List (List Int)} (hl : ∀ t ∈ ls, t ∈ zO p) : ∀ t ∈ ls, ∀ a ∈ t, 0 ≤ a ∧ a ≤ 1000 := by
 intro t ht a ha;obtain ⟨k, hk⟩ := List.mem_iff_getElem?.1 ha;have hlt := (List.getElem?_eq_some_iff.1 hk).1;rw [zdI (hl t ht)] at hlt;obtain ⟨x, hx, h2, h3⟩ := zgH hp hl (a := (k : Int)) zr zr t ht;rw [Int.toNat_natCast, hk] at hx;cases hx;omega
end Go.Pk

namespace Go.Pk
open Go Go.RowKit
def decD (x : Lexicon) (q : Question) (hd : Head) : Decision := ⟨mostN x.decisions + 1, 3, [], q.at_, hd, 0⟩
def decN (n : Int) (q : Question) (hd : Head) : Decision := ⟨n, 3, [], q.at_, hd, 0⟩
def decQ (p : Poll) (x : Lexicon) (q : Question) (h : Int) : Lexicon × Int :=
 if h < 0 then (x, 0) else if (zgp p.text x q.at_).to = (q.heads[h.toNat]?).getD zdw then (x, 0)
 else (zit p.text x (decD x q ((q.heads[h.toNat]?).getD zdw)), zgW p.text x (decD x q ((q.heads[h.toNat]?).getD zdw)))
def zgD (p : Poll) (s : List Int) : Nat → Lexicon × Int
 | 0 => (p.lexicon, 0)
 | k + 1 => if (zgD p s k).2 = 0 then (match p.questions[k]?, s[k]? with
  | some q, some h => decQ p (zgD p s k).1 q h
  | _, _ => zgD p s k) else zgD p s k
def zgh (p : Poll) : Int := if zcO p true = 0 then (zgD p (zda (zO p)) (zda (zO p)).length).2 else zcO p true
def zfk (p : Poll) : Lexicon := if zcO p true = 0 then (zgD p (zda (zO p)) (zda (zO p)).length).1 else zgG
variable {p : Poll} {s : List Int} {k : Nat} {x : Lexicon} {q : Question} {h : Int} {hd : Head}
theorem dec_skip (a : zgD p s k = (x, 0)) (hq : p.questions[k]? = some q) (hs : s[k]? = some h) (h0 : h < 0) : zgD p s (k + 1) = (x, 0) := by
 simp only [zgD, a, if_true, hq, hs, decQ, if_pos h0]
theorem dec_same (a : zgD p s k = (x, 0)) (hq : p.questions[k]? = some q) (hs : s[k]? = some h) (h0 : ¬ h < 0) (hh : q.heads[h.toNat]? = some hd) (e : (zgp p.text x q.at_).to = hd) : zgD p s (k + 1) = (x, 0) := by
 simp only [zgD, a, if_true, hq, hs, decQ, if_neg h0, hh, Option.getD_some, if_pos e]
theorem dec_add (a : zgD p s k = (x, 0)) (hq : p.questions[k]? = some q) (hs : s[k]? = some h) (h0 : ¬ h < 0) (hh : q.heads[h.toNat]? = some hd) (e : ¬ (zgp p.text x q.at_).to = hd) : zgD p s (k + 1) = (zit p.text x (decD x q hd), zgW p.text x (decD x q hd)) := by
 simp only [zgD, a, if_true, hq, hs, decQ, if_neg h0, hh, Option.getD_some, if_neg e]
theorem dec_stop (e : ¬ (zgD p s k).2 = 0) : ∀ d, zgD p s (k + d) = zgD p s k
 | 0 => rfl
 | d + 1 => by rw [← Nat.add_assoc, zgD, dec_stop e d, if_neg e]
theorem addN_bad {t : Text} {d : Decision} (e : ¬ zgW t x d = 0) : zit t x d = zgG := by rw [zit, if_neg e]
theorem dec_err (a : zgD p s k = (x, 0)) (hq : p.questions[k]? = some q) (hs : s[k]? = some h) (h0 : ¬ h < 0) (hh : q.heads[h.toNat]? = some hd) (e : ¬ (zgp p.text x q.at_).to = hd) (e2 : ¬ zgW p.text x (decD x q hd) = 0) : zgD p s s.length = (zgG, zgW p.text x (decD x q hd)) := by
 have h1 := dec_add a hq hs h0 hh e;have hk := (List.getElem?_eq_some_iff.1 hs).1;have := dec_stop (p := p) (s := s) (k := k + 1) (by rw [h1]; exact e2) (s.length - (k + 1));rw [show k + 1 + (s.length - (k + 1)) = s.length by omega] at this;rw [this, h1, addN_bad e2]
theorem dec_check (hx : zaQ p.text p.lexicon = 0) : ∀ k, (zgD p s k).2 = 0 → zaQ p.text (zgD p s k).1 = 0
 | 0, _ => hx
 | k + 1, e => by
  have ih := dec_check hx k;rw [zgD] at e ⊢
  by_cases h0 : (zgD p s k).2 = 0
  ·rw [if_pos h0] at e ⊢;split at e
   ·rename_i q h hq hs;unfold decQ at e ⊢;split at e
    ·rename_i c; rw [if_pos c]; exact ih h0
    ·rename_i c;rw [if_neg c];split at e
     ·rename_i c2; rw [if_pos c2]; exact ih h0
     ·rename_i c2; rw [if_neg c2]; exact addN_check e
   ·exact ih h0
  ·rw [if_neg h0] at e; exact absurd e h0
theorem dec_ok (hx : zaQ p.text p.lexicon = 0) (a : zgD p s k = (x, 0)) : zaQ p.text x = 0 := by
 have := dec_check (s := s) hx k;rw [a] at this; exact this rfl
def nextN (l : List Decision) : Int := mostN l + 1
theorem nextN_snoc {l : List Decision} {k : Nat} {d : Decision} (h : l[k]? = some d) : zgM (nextN (l.take k)) (d.number + 1) = nextN (l.take (k + 1)) := by
 rw [nextN, nextN, mostN_snoc h, zgM]; split <;> omega
theorem nextN_eq {l : List Decision} {k : Nat} (h : l.length ≤ k) : nextN (l.take k) = mostN l + 1 := by rw [List.take_of_length_le h]; rfl
theorem mostN_le' (hx : OkD x) (k : Nat) : mostN (x.decisions.take k) ≤ 999 := fold_max_le _ _ _ zr fun d hd => (hx.2 d (List.mem_of_mem_take hd)).2.1
theorem nextN_le (hx : OkD x) (k : Nat) : 1 ≤ nextN (x.decisions.take k) ∧ nextN (x.decisions.take k) ≤ 1000 := by
 have := mostN_le' hx k;have := mostN_pos (x.decisions.take k);rw [nextN]; omega
def mootB (p : Poll) (s : List Int) (k : Nat) (w : Str) : Bool := match p.questions[k]?, s[k]? with
 | some q, some h => decide (h < 0) && decide (zcm p.text q.at_ = w)
 | _, _ => false
def mootQ (p : Poll) (s : List Int) (n : Nat) (w : Str) : Bool := (List.range n).any fun k => mootB p s k w
theorem moot_succ (p : Poll) (s : List Int) (n : Nat) (w : Str) : mootQ p s (n + 1) w = (mootQ p s n w || mootB p s n w) := by simp [mootQ, List.range_succ, List.any_append]
theorem moot_at {p : Poll} {s : List Int} {n : Nat} {w : Str} {q : Question} {h : Int} (hq : p.questions[n]? = some q) (hs : s[n]? = some h) : mootQ p s (n + 1) w = (mootQ p s n w || (decide (h < 0) && decide (zcm p.text q.at_ = w))) := by
 rw [moot_succ, mootB, hq, hs]
def mootR (p : Poll) : List Str := if zcO p true = 0 then (homR p.text p.lexicon).filter (mootQ p (zda (zO p)) (zda (zO p)).length) else []
def zhe (ws : List Str) (p : Poll) (s : List Int) (n : Nat) (w : Str) : Option Bool := if w ∈ ws ∧ mootQ p s n w = false then some true else none
theorem still_skip {ws : List Str} {p : Poll} {s : List Int} {n : Nat} {q : Question} {h : Int} (hq : p.questions[n]? = some q) (hs : s[n]? = some h) (h0 : ¬ h < 0) {m : List (Str × Bool)} (hm : ∀ w, zbO m w = zhe ws p s n w) : ∀ w, zbO m w = zhe ws p s (n + 1) w := by
 intro w;rw [hm, zhe, zhe, moot_at hq hs, decide_eq_false h0]; simp
theorem still_del {ws : List Str} {p : Poll} {s : List Int} {n : Nat} {q : Question} {h : Int} (hq : p.questions[n]? = some q) (hs : s[n]? = some h) (h0 : h < 0) {m : List (Str × Bool)} (hm : ∀ w, zbO m w = zhe ws p s n w) : ∀ w, zbO (delM m (zcm p.text q.at_)) w = zhe ws p s (n + 1) w := by
 intro w;rw [look_delM, hm, zhe, zhe, moot_at hq hs, decide_eq_true h0, Bool.true_and]
 by_cases e : w = zcm p.text q.at_
 ·subst e; simp
 rw [if_neg e, decide_eq_false (fun q => e q.symm), Bool.or_false]
theorem still_put {ws : List Str} {k : Nat} {w0 : Str} (h : ws[k]? = some w0) {m : List (Str × Bool)} (hm : ∀ w, zbO m w = if w ∈ ws.take k then some true else none) : ∀ w, zbO (zgL m w0 true) w = if w ∈ ws.take (k + 1) then some true else none := by
 intro w;rw [ziV, zbf h, hm]
 by_cases e : w = w0
 ·subst e; simp
 simp [e]
theorem still_zero {ws : List Str} {k : Nat} (hk : ws.length ≤ k) {p : Poll} {s : List Int} {m : List (Str × Bool)} (hm : ∀ w, zbO m w = if w ∈ ws.take k then some true else none) : ∀ w, zbO m w = zhe ws p s 0 w := by
 intro w;rw [hm, List.take_of_length_le hk, zhe];simp [mootQ]
theorem still_filter {ws : List Str} {p : Poll} {s : List Int} {n : Nat} {m : List (Str × Bool)} (hm : ∀ w, zbO m w = zhe ws p s n w) : ws.filter (fun w => !(zbO m w).getD false) = ws.filter (mootQ p s n) := by
 refine List.filter_congr fun w hw => ?_;rw [hm, zhe];cases e : mootQ p s n w <;> simp [hw]
end Go.Pk

namespace Go.Pk
open Go Go.RowKit
def dPE : Decision := ⟨1, 3, [], ⟨1, 0, 2⟩, ⟨wSee, 2⟩, 0⟩
def zhA (more : List Decision) : Lexicon := ⟨[], dPE :: more⟩
def seaSee : List Head := [⟨zdx, 1⟩, ⟨wSee, 2⟩]
def questsE : List Question := [⟨⟨0, 0, 1⟩, seaSee⟩, ⟨⟨0, 0, 3⟩, [⟨wAge, 3⟩, ⟨zib, 0⟩]⟩, ⟨⟨1, 0, 0⟩, seaSee⟩]
def votersE : List Voter := [⟨5, 0, [-1, 1, -1]⟩, ⟨2, 1, [0, 0, 0]⟩, ⟨8, 1, [0, -1, 1]⟩]
def zdl : Poll := ⟨zic, zhA [], questsE, votersE⟩
def zeS : Poll := ⟨zic, zhA [], questsE, votersE.drop 1⟩
theorem checkLP : zaQ zic (zhA []) = 0 := by decide +kernel
theorem checkPE : zcx zdl = 0 := by decide +kernel
theorem checkP2 : zcx zeS = 0 := by decide +kernel
theorem truthsE : zO zdl = [[0, 1, 0]] := by decide +kernel
theorem zjg : zO zeS = [[0, 0, 0], [0, 0, 1], [0, 1, 0]] := by decide +kernel
theorem allEE : zcO zdl true = 0 := by rw [zcO, if_neg (by rw [checkPE]; decide), if_neg (by decide), truthsE]; rfl
theorem allE2 : zcO zeS true = 0 := by rw [zcO, if_neg (by rw [checkP2]; decide), if_neg (by decide), zjg]; rfl
theorem setE : zda (zO zdl) = [0, 1, 0] := by rw [truthsE]; decide +kernel
theorem set2 : zda (zO zeS) = [0, -1, -1] := by rw [zjg]; decide +kernel
def e1E : Decision := ⟨2, 3, [], ⟨0, 0, 1⟩, ⟨zdx, 1⟩, 0⟩
def e2E : Decision := ⟨3, 3, [], ⟨1, 0, 0⟩, ⟨zdx, 1⟩, 0⟩
theorem addP1 : zgW zic (zhA []) e1E = 0 := by decide +kernel
theorem addP2 : zgW zic (zhA [e1E]) e2E = 0 := by decide +kernel
theorem addXP1 : addX (zhA []) e1E = zhA [e1E] := addX_eq (ys := [dPE, e1E]) (List.Perm.refl _) (by decide +kernel) (by decide +kernel)
theorem addXP2 : addX (zhA [e1E]) e2E = zhA [e1E, e2E] := addX_eq (ys := [dPE, e1E, e2E]) (List.Perm.refl _) (by decide +kernel) (by decide +kernel)
theorem checkLP1 : zaQ zic (zhA [e1E]) = 0 := by decide +kernel
theorem dec1 : zgD zdl [0, 1, 0] 1 = (zhA [e1E], 0) := by
 rw [dec_add (p := zdl) (s := [0, 1, 0]) (k := 0) (x := zhA []) (hd := ⟨zdx, 1⟩) rfl rfl rfl (by decide) rfl (by show ¬ (zgp zic (zhA []) _).to = _; rw [askR_eq checkLP (by decide +kernel)]; decide +kernel)];rw [show decD (zhA []) ⟨⟨0, 0, 1⟩, seaSee⟩ ⟨zdx, 1⟩ = e1E by decide +kernel];show (zit zic (zhA []) e1E, zgW zic (zhA []) e1E) = _;rw [zit, if_pos addP1, addXP1, addP1]
theorem dec2 : zgD zdl [0, 1, 0] 2 = (zhA [e1E], 0) :=
 dec_same (p := zdl) (s := [0, 1, 0]) (k := 1) (hd := ⟨zib, 0⟩) dec1 rfl rfl (by decide) rfl (by
  show (zgp zic (zhA [e1E]) _).to = _;rw [askR_eq checkLP1 (by decide +kernel)]; decide +kernel)
theorem dec3 : zgD zdl [0, 1, 0] 3 = (zhA [e1E, e2E], 0) := by
 rw [dec_add (p := zdl) (s := [0, 1, 0]) (k := 2) (hd := ⟨zdx, 1⟩) dec2 rfl rfl (by decide) rfl (by
  show ¬ (zgp zic (zhA [e1E]) _).to = _;rw [askR_eq checkLP1 (by decide +kernel)]; decide +kernel)]
 rw [show decD (zhA [e1E]) ⟨⟨1, 0, 0⟩, seaSee⟩ ⟨zdx, 1⟩ = e2E by decide +kernel];show (zit zic (zhA [e1E]) e2E, zgW zic (zhA [e1E]) e2E) = _;rw [zit, if_pos addP2, addXP2, addP2]
theorem decideEE : zgh zdl = 0 ∧ zfk zdl = zhA [e1E, e2E] := by
 rw [zgh, zfk, if_pos allEE, if_pos allEE, setE];exact ⟨congrArg Prod.snd dec3, congrArg Prod.fst dec3⟩
theorem homP : homR zic (zhA []) = [zdx] := by rw [homV_eq checkLP]; decide +kernel
theorem moot2 : mootR zeS = [zdx] := by
 rw [mootR, if_pos allE2, set2];show (homR zic (zhA [])).filter _ = _;rw [homP]; decide +kernel
theorem ex_01 : (if zcx zeS = 0 then ((zO zeS).length : Int) else 0) = 3 := by rw [if_pos checkP2, zjg]; rfl
theorem ex_02 : ((zel zdl true)[0]?).getD [] = [0, 1, 0] := by rw [zel, if_pos allEE, truthsE]; rfl
theorem in_ok {p : Poll} {n m : Int} (h : zcO p true = 0) (h1 : inB n 0 m = true) : zcO p (inB n 0 m) = 0 := by rw [h1]; exact h
theorem ex_03 : zcO zeS (inB 1 0 ((zeS.questions.length : Int) - 1)) = 0 := in_ok allE2 (by decide +kernel)
theorem ex_04 : openR zeS 1 = [0, 1] := by rw [openR, if_pos ex_03, zjg]; decide +kernel
theorem ex_05 : zdz zeS = [0, -1, -1] := by rw [zdz, if_pos allE2, set2]
theorem ex_06 : zcO zdl (inB 1 0 ((zdl.voters.length : Int) - 1)) = 0 := in_ok allEE (by decide +kernel)
theorem ex_07 : zgd zdl 1 = ⟨1, 1⟩ := by rw [zgd, if_pos ex_06, truthsE]; decide +kernel
theorem ex_08 : ziI zdl 0 = 0 := by rw [ziI, if_neg (by rw [checkPE]; decide), if_pos (by decide +kernel)]
theorem ex_09 : tallyR zdl 0 = [2, 0] := by rw [tallyR, if_pos ex_08]; decide +kernel
theorem ex_10 : askR7 zeS = [1, 2] := by rw [askR7, if_pos allE2, zjg]; decide +kernel
theorem ex_11 : nextE zeS = 0 := by rw [nextE, if_neg (by rw [allE2]; decide), zjg]; rfl
theorem ex_12 : nextR zeS = 1 := by rw [nextR, if_pos ex_11, zjg]; decide +kernel
theorem ex_13 : ((zfk zdl).decisions.length : Int) = 3 := by rw [decideEE.2]; rfl
end Go.Pk

namespace Go.Pk
open Go Go.RowKit
def candX (l : List (List Int)) (n : Nat) : List (List Int) := l.flatMap fun x => (List.range n).map fun (h : Nat) => x ++ [(h : Int)]
def heads1 (x : List Int) (h : Nat) : List (List Int) := (List.range h).map fun (h : Nat) => x ++ [(h : Int)]
theorem inAt_of {p x : Poll} (hq : x.questions = p.questions) : inAt x = inAt p := by funext hs k; simp only [inAt, hq]
theorem votesOk_of {p x : Poll} (hq : x.questions = p.questions) : zfe x = zfe p := by
 have e : ∀ v, zey x v = zey p v := by intro v; funext k; simp only [zey, hq]
 funext v; simp only [zfe, zfD, e, hq]
theorem questAt_of {p x : Poll} (ht : x.text = p.text) (hq : x.questions = p.questions) : zdU x = zdU p := by funext i; simp only [zdU, ht, hq]
theorem true_iff {p : Poll} {hs : List Int} : zfZ p hs = true ↔ (hs.length = p.questions.length ∧ (List.range hs.length).all (inAt p hs) = true) ∧ ∀ v ∈ p.voters, (zbc v hs : Int) ≤ v.wrong := by
 simp only [zfZ, Bool.and_eq_true, decide_eq_true_eq];rw [List.all_eq_true (p := fun v => decide ((zbc v hs : Int) ≤ v.wrong))];simp only [decide_eq_true_eq]
theorem ids_iff {vs : List Voter} : (∀ i v, vs[i]? = some v → ((vs.take i).all fun u => decide (u.id ≠ v.id)) = true) ↔ (vs.map (·.id)).Nodup := by
 rw [List.nodup_iff_pairwise_ne, List.pairwise_iff_getElem];simp only [List.length_map, List.getElem_map];constructor
 ·intro h i j hi hj hij;have := List.all_eq_true.1 (h j vs[j] (List.getElem?_eq_getElem hj)) vs[i] (List.mem_of_getElem? (by rw [List.getElem?_take, if_pos hij]; exact List.getElem?_eq_getElem hi));simpa using this
 intro h i v hv;obtain ⟨hi, rfl⟩ := List.getElem?_eq_some_iff.1 hv;rw [List.all_eq_true];intro u hu;obtain ⟨j, hj⟩ := List.mem_iff_getElem?.1 hu;rw [List.getElem?_take] at hj;split at hj
 ·obtain ⟨hj1, rfl⟩ := List.getElem?_eq_some_iff.1 hj;simpa using h j i hj1 hi (by assumption)
 cases hj
theorem poll_iff {p : Poll} : zcJ p = true ↔ ((p.questions.length ≤ 6 ∧ p.voters.length ≤ 6) ∧ (List.range p.questions.length).all (zdU p) = true) ∧ (∀ v ∈ p.voters, zfe p v = true) ∧ (p.voters.map (·.id)).Nodup := by
 simp only [zcJ, Bool.and_eq_true, decide_eq_true_eq];refine and_congr Iff.rfl ?_;rw [← ids_iff, List.all_eq_true];constructor
 ·intro h;have h2 : ∀ i v, p.voters[i]? = some v → zfe p v = true ∧ ((p.voters.take i).all fun u => decide (u.id ≠ v.id)) = true := by
   intro i v hv;have := h i (List.mem_range.2 (List.getElem?_eq_some_iff.1 hv).1);simpa only [zdT, hv, Bool.and_eq_true] using this
  refine ⟨fun v hv => ?_, fun i v hv => (h2 i v hv).2⟩;obtain ⟨i, hi⟩ := List.mem_iff_getElem?.1 hv;exact (h2 i v hi).1
 rintro ⟨h1, h2⟩ i hi;have hv : p.voters[i]? = some (p.voters[i]'(List.mem_range.1 hi)) := List.getElem?_eq_getElem (List.mem_range.1 hi);simp only [zdT, hv, Bool.and_eq_true];exact ⟨h1 _ (List.mem_of_getElem? hv), h2 i _ hv⟩
theorem setL_at {ts : List (List Int)} {a0 : List Int} (h0 : ts[0]? = some a0) {k : Nat} {h : Int} (e : (zda ts)[k]? = some h) : ∃ a, a0[k]? = some a ∧ h = if (ts.all fun t => decide (t[k]? = some a)) = true then a else -1 := by
 rw [zda, h0] at e;have hk : k < a0.length := by
  have := (List.getElem?_eq_some_iff.1 e).1;rwa [zga] at this
 rw [ziR hk] at e;refine ⟨_, List.getElem?_eq_getElem hk, ?_⟩;have e2 := Option.some.inj e;rw [← e2, setAt, List.getElem?_eq_getElem hk]
theorem set_pos {ts : List (List Int)} {k : Nat} {h : Int} (e : (zda ts)[k]? = some h) (hp : 0 ≤ h) : ∀ t ∈ ts, t[k]? = some h := by
 cases h0 : ts[0]? with
 | none => rw [zda, h0] at e; cases e
 | some a0 =>
  obtain ⟨a, ha, q⟩ := setL_at h0 e;split at q
  ·rename_i c;subst q;intro t ht;simpa using List.all_eq_true.1 c t ht
  ·omega
theorem set_all {ts : List (List Int)} (hn : ts ≠ []) {k : Nat} {h : Int} (ha : ∀ t ∈ ts, t[k]? = some h) : (zda ts)[k]? = some h := by
 cases ts with
 | nil => exact absurd rfl hn
 | cons a0 ts =>
  have h1 := ha a0 List.mem_cons_self;have hk := (List.getElem?_eq_some_iff.1 h1).1;show (setK (a0 :: ts) a0)[k]? = _;rw [ziR hk, setAt, h1];simp only;rw [if_pos (List.all_eq_true.2 fun t ht => by simpa using ha t ht)]
theorem set_len7 {p : Poll} (hn : zO p ≠ []) : (zda (zO p)).length = p.questions.length := by
 cases e : zO p with
 | nil => exact absurd e hn
 | cons a0 ts =>
  show (setK (a0 :: ts) a0).length = _;rw [zga]; exact zdI (by rw [e]; exact List.mem_cons_self)
def forN (vs : List Voter) (q : Nat) (h : Int) : Nat := (vs.filter fun v => decide (v.votes[q]? = some h)).length
theorem open_mem {ts : List (List Int)} {q n : Nat} {a : Int} : a ∈ zfj ts q n ↔ ∃ h : Nat, h < n ∧ a = (h : Int) ∧ ∃ t ∈ ts, t[q]? = some a := by
 simp only [zfj, List.mem_map, List.mem_filter, List.mem_range, openB, List.any_eq_true, decide_eq_true_eq];constructor
 ·rintro ⟨h, ⟨h1, t, ht, e⟩, rfl⟩; exact ⟨h, h1, rfl, t, ht, e⟩
 rintro ⟨h, h1, rfl, t, ht, e⟩; exact ⟨h, ⟨h1, t, ht, e⟩, rfl⟩
theorem span_facts (v : Voter) : ∀ n, ∀ ts : List (List Int), ts.length = n → (∀ t ∈ ts, zbc v t ≤ 6) → (∀ t ∈ ts, (zeo v ts).lo ≤ (zbc v t : Int) ∧ (zbc v t : Int) ≤ (zeo v ts).hi) ∧ ((zeo v ts).lo = 6 ∨ ∃ t ∈ ts, (zbc v t : Int) = (zeo v ts).lo) ∧ ((zeo v ts).hi = 0 ∨ ∃ t ∈ ts, (zbc v t : Int) = (zeo v ts).hi)
 | 0, ts, hl, _ => by
  obtain rfl := List.eq_nil_of_length_eq_zero hl;exact ⟨fun t ht => (by cases ht), .inl rfl, .inl rfl⟩
 | n + 1, ts, hl, h6 => by
  obtain ⟨t, ht⟩ : ∃ t, ts[n]? = some t := ⟨_, List.getElem?_eq_getElem zr⟩;have e := spanK_snoc (v := v) ht;have e2 := zbf ht;rw [List.take_of_length_le zr] at e e2;obtain ⟨h1, h2, h3⟩ := span_facts v n (ts.take n) (by rw [List.length_take]; omega) (fun u hu => h6 u (List.mem_of_mem_take hu));have hlo : (zeo v ts).lo = minI (zeo v (ts.take n)).lo (zbc v t) := by rw [e]
  have hhi : (zeo v ts).hi = zgM (zeo v (ts.take n)).hi (zbc v t) := by rw [e]
  have hm : ∀ u, u ∈ ts ↔ u ∈ ts.take n ∨ u = t := by
   intro u
   conv => lhs; rw [e2]
   simp
  simp only [minI, zgM] at hlo hhi;refine ⟨fun u hu => ?_, ?_, ?_⟩
  ·rcases (hm u).1 hu with q | rfl
   ·have := h1 u q;rw [hlo, hhi]; constructor <;> split <;> omega
   ·rw [hlo, hhi]; constructor <;> split <;> omega
  ·by_cases c : (zeo v ts).lo = (zbc v t : Int)
   ·exact .inr ⟨t, (hm t).2 (.inr rfl), c.symm⟩
   ·have c2 : (zeo v ts).lo = (zeo v (ts.take n)).lo := by split at hlo <;> first | exact hlo | exact absurd hlo c
    rw [c2];exact h2.imp id fun ⟨u, hu, q⟩ => ⟨u, (hm u).2 (.inl hu), q⟩
  ·by_cases c : (zeo v ts).hi = (zbc v t : Int)
   ·exact .inr ⟨t, (hm t).2 (.inr rfl), c.symm⟩
   ·have c2 : (zeo v ts).hi = (zeo v (ts.take n)).hi := by split at hhi <;> first | exact hhi | exact absurd hhi c
    rw [c2];exact h3.imp id fun ⟨u, hu, q⟩ => ⟨u, (hm u).2 (.inl hu), q⟩
theorem span_ends {v : Voter} {ts : List (List Int)} (hn : ts ≠ []) (h6 : ∀ t ∈ ts, zbc v t ≤ 6) : (∀ t ∈ ts, (zeo v ts).lo ≤ (zbc v t : Int) ∧ (zbc v t : Int) ≤ (zeo v ts).hi) ∧ (∃ t ∈ ts, (zbc v t : Int) = (zeo v ts).lo) ∧ ∃ t ∈ ts, (zbc v t : Int) = (zeo v ts).hi := by
 obtain ⟨h1, h2, h3⟩ := span_facts v _ ts rfl h6;obtain ⟨t, ht⟩ := List.exists_mem_of_ne_nil ts hn;have h4 := h1 t ht;have h5 := h6 t ht;refine ⟨h1, ?_, ?_⟩
 ·rcases h2 with q | q
  ·exact ⟨t, ht, by omega⟩
  ·exact q
 rcases h3 with q | q
 ·exact ⟨t, ht, by omega⟩
 exact q
theorem open_in {p : Poll} {k : Nat} {q : Question} (hq : p.questions[k]? = some q) {t : List Int} (ht : t ∈ zO p) : ∃ b, t[k]? = some b ∧ b ∈ zfj (zO p) k q.heads.length := by
 obtain ⟨b, hb, h0, h1⟩ := truth_at ht hq;exact ⟨b, hb, open_mem.2 ⟨b.toNat, by omega, by omega, t, ht, hb⟩⟩
theorem ends_set {p : Poll} (hn : zO p ≠ []) {k : Nat} {q : Question} (hq : p.questions[k]? = some q) {h : Int} (hs : (zda (zO p))[k]? = some h) (h0 : 0 ≤ h) : zfj (zO p) k q.heads.length = [h] := by
 have ha := set_pos hs h0;refine strict_eq intLt_T (zjl _ _ _) (by simp) fun x => ?_;rw [List.mem_singleton];constructor
 ·intro hx;obtain ⟨_, _, _, t, ht, e⟩ := open_mem.1 hx;rw [ha t ht] at e;exact (Option.some.inj e).symm
 rintro rfl;obtain ⟨t, ht⟩ := List.exists_mem_of_ne_nil _ hn;obtain ⟨b, hb, hm⟩ := open_in hq ht;rw [ha t ht] at hb;cases hb; exact hm
theorem ends_one {p : Poll} (hn : zO p ≠ []) {k : Nat} {q : Question} (hq : p.questions[k]? = some q) {h : Int} (hs : (zda (zO p))[k]? = some h) : decide (0 ≤ h) = decide ((zfj (zO p) k q.heads.length).length = 1) := by
 by_cases h0 : 0 ≤ h
 ·rw [decide_eq_true h0, ends_set hn hq hs h0]; rfl
 rw [decide_eq_false h0]
 symm
 refine decide_eq_false fun hl => h0 ?_;obtain ⟨a, e⟩ : ∃ a, zfj (zO p) k q.heads.length = [a] := by
  match hm : zfj (zO p) k q.heads.length, hl with
  | [a], _ => exact ⟨a, rfl⟩
 have hall : ∀ t ∈ zO p, t[k]? = some a := by
  intro t ht;obtain ⟨b, hb, hm⟩ := open_in hq ht;rw [e, List.mem_singleton] at hm;rw [hb, hm]
 have := set_all hn hall;rw [hs] at this;cases this;have hm : h ∈ zfj (zO p) k q.heads.length := by rw [e]; exact List.mem_singleton.2 rfl
 obtain ⟨_, _, e2, _⟩ := open_mem.1 hm;omega
theorem set_in {p : Poll} (hn : zO p ≠ []) {k : Nat} {q : Question} (hq : p.questions[k]? = some q) {h : Int} (hs : (zda (zO p))[k]? = some h) (h0 : 0 ≤ h) : h < (q.heads.length : Int) := by
 obtain ⟨t, ht⟩ := List.exists_mem_of_ne_nil _ hn;obtain ⟨b, hb, _, h1⟩ := truth_at ht hq;rw [set_pos hs h0 t ht] at hb;cases hb; exact h1
theorem homR_len {t : Text} {x : Lexicon} (h : zaQ t x = 0) : (homR t x).length ≤ 1000 := by
 rw [homR, if_pos h];have q := setL_len sLt_T (homsN (zbI t x) (zbI t x).length);have q2 := zhY (zbI t x) (zbI t x).length;have q3 := entries_len (zeb h) x;omega
end Go.Pk

namespace Go.Pk
open Go Go.RowKit
end Go.Pk

namespace Go.Pk
open Go Go.RowKit
theorem in_at {n k : Nat} (h : k < n) : inB (k : Int) 0 ((n : Int) - 1) = true := by
 simp only [inB, Bool.and_eq_true, decide_eq_true_eq]; omega
theorem allE_or {p : Poll} (h : zcx p = 0) : (zcO p true = 0 ∧ zO p ≠ []) ∨ (zcO p true = 8 ∧ zO p = []) := by
 rw [zcO, if_neg (by simp [h]), if_neg (by simp)]
 by_cases e : zO p = []
 ·exact .inr ⟨by rw [if_pos e], e⟩
 exact .inl ⟨by rw [if_neg e], e⟩
def openN (p : Poll) (k : Nat) : List Int := if zcO p true = 0 then zfj (zO p) k (((p.questions[k]?).getD zhW).heads.length) else []
theorem open_ok {p : Poll} {k : Nat} {q : Question} (hq : p.questions[k]? = some q) : zcO p (inB (k : Int) 0 ((p.questions.length : Int) - 1)) = zcO p true ∧ openR p (k : Int) = openN p k := by
 have e := in_at (List.getElem?_eq_some_iff.1 hq).1;exact ⟨by rw [e], by rw [openR, e, Int.toNat_natCast]; rfl⟩
theorem openN_eq {p : Poll} {k : Nat} {q : Question} (h : zcO p true = 0) (hq : p.questions[k]? = some q) : openN p k = zfj (zO p) k q.heads.length := by rw [openN, if_pos h, hq]; rfl
theorem wrongs_ok {p : Poll} {i : Nat} {v : Voter} (hv : p.voters[i]? = some v) : zcO p (inB (i : Int) 0 ((p.voters.length : Int) - 1)) = zcO p true ∧ (zcO p true = 0 → zgd p (i : Int) = zeo v (zO p)) := by
 have e := in_at (List.getElem?_eq_some_iff.1 hv).1;refine ⟨by rw [e], fun h => ?_⟩;rw [zgd, e, if_pos h, Int.toNat_natCast, hv]; rfl
theorem settled_ok {p : Poll} (h : zcO p true = 0) : zdz p = zda (zO p) := by rw [zdz, if_pos h]
theorem wrongN_votes (v : Voter) (t : List Int) : zbc ⟨0, 0, v.votes⟩ t = zbc v t := rfl
theorem zhu {v : Voter} {xs : List Int} {k : Nat} (h : xs.length ≤ k) : zdS v xs k = false := by
 rw [zdS, List.getElem?_eq_none h];cases v.votes[k]? <;> rfl
theorem wrongAt_more {v : Voter} {xs : List Int} {k : Nat} (h : v.votes.length ≤ k) : zdS v xs k = false := by
 rw [zdS, List.getElem?_eq_none h]
theorem wrongK_top {v : Voter} {xs : List Int} {n : Nat} (hz : ∀ k, n ≤ k → zdS v xs k = false) : ∀ d, zfa v xs (n + d) = zfa v xs n
 | 0 => rfl
 | d + 1 => by rw [← Nat.add_assoc, zdF, wrongK_top hz d, hz _ zr]; simp
theorem wrongK_votes (v : Voter) (xs : List Int) : zfa v xs v.votes.length = zbc v xs := by
 show zfa v xs v.votes.length = zfa v xs xs.length
 rcases Nat.le_total v.votes.length xs.length with h | h
 ·have := wrongK_top (v := v) (xs := xs) (n := v.votes.length) (fun k hk => wrongAt_more hk) (xs.length - v.votes.length);rw [show v.votes.length + (xs.length - v.votes.length) = xs.length by omega] at this;exact this.symm
 have := wrongK_top (v := v) (xs := xs) (n := xs.length) (fun k hk => zhu hk) (v.votes.length - xs.length);rw [show xs.length + (v.votes.length - xs.length) = v.votes.length by omega] at this;exact this
def zhP (p : Poll) (k : Nat) : Span := zgd p (k : Int)
theorem wrongs_in {p : Poll} {k : Nat} {v : Voter} (hp : zcJ p = true) (h : zcO p true = 0) (hn : zO p ≠ []) (hv : p.voters[k]? = some v) :
  (∀ t ∈ zO p, (zhP p k).lo ≤ (zbc v t : Int) ∧ (zbc v t : Int) ≤ (zhP p k).hi) ∧ (zO p).any (fun t => decide ((zbc v t : Int) = (zhP p k).lo)) = true ∧ (zO p).any (fun t => decide ((zbc v t : Int) = (zhP p k).hi)) = true ∧ (zhP p k).hi ≤ v.wrong := by
 have e : zhP p k = zeo v (zO p) := (wrongs_ok hv).2 h;have h6 : ∀ t ∈ zO p, zbc v t ≤ 6 := fun t ht => Nat.le_trans (wrongN_le ht v) (zcT hp).1;obtain ⟨a, ⟨t, ht, b⟩, ⟨u, hu, c⟩⟩ := span_ends hn h6;rw [e];refine ⟨a, List.any_eq_true.2 ⟨t, ht, decide_eq_true b⟩, List.any_eq_true.2 ⟨u, hu, decide_eq_true c⟩, ?_⟩;rw [← c];exact (true_iff.1 (List.mem_filter.1 hu).2).2 v (List.mem_of_getElem? hv)
def moreP (p : Poll) (v : Voter) : Poll := ⟨p.text, p.lexicon, p.questions, p.voters ++ [v]⟩
theorem allE_some {p : Poll} (h : zcx p = 0) (hn : zO p ≠ []) : zcO p true = 0 := by
 rcases allE_or h with q | q
 ·exact q.1
 exact absurd q.2 hn
theorem settledN_len {p : Poll} (h : zcO p true = 0) : (zdz p).length = p.questions.length := by
 rw [settled_ok h, set_len7 (ziq h).2.2.1]
def rotP (p : Poll) (ys : List Voter) : Poll := ⟨p.text, p.lexicon, p.questions, ys⟩
def RotN (vs ys : List Voter) (k i : Nat) : Prop := ys.length = vs.length ∧ ∀ j, j < i → ys[j]? = vs[(j + k) % vs.length]?
theorem RotN.step {vs ys : List Voter} {k i : Nat} {v : Voter} (h : RotN vs ys k i) (hi : i < vs.length) (hv : vs[(i + k) % vs.length]? = some v) : RotN vs (ys.set i v) k (i + 1) := by
 refine ⟨by rw [List.length_set]; exact h.1, fun j hj => ?_⟩
 by_cases e : j = i
 ·subst e; rw [List.getElem?_set_self (by rw [h.1]; exact hi), hv]
 rw [List.getElem?_set_ne (Ne.symm e)]; exact h.2 j zr
theorem RotN.perm {vs ys : List Voter} {k i : Nat} (h : RotN vs ys k i) (hi : vs.length ≤ i) (hk : k < vs.length) : ys.Perm vs := by
 have e : ys = vs.drop k ++ vs.take k := by
  refine List.ext_getElem? fun j => ?_
  by_cases hj : j < vs.length
  ·rw [h.2 j zr]
   by_cases c : j + k < vs.length
   ·rw [Nat.mod_eq_of_lt c, List.getElem?_append_left (by rw [List.length_drop]; omega), List.getElem?_drop, Nat.add_comm]
   ·have e2 : (j + k) % vs.length = j + k - vs.length := by
     rw [Nat.mod_eq_sub_mod zr, Nat.mod_eq_of_lt zr]
    rw [e2, List.getElem?_append_right (by rw [List.length_drop]; omega), List.length_drop, List.getElem?_take, if_pos zr];congr 1; omega
  ·rw [List.getElem?_eq_none (by rw [h.1]; omega), List.getElem?_eq_none (by rw [List.length_append, List.length_drop, List.length_take]; omega)]
 rw [e];have := List.perm_append_comm (l₁ := vs.drop k) (l₂ := vs.take k);rwa [List.take_append_drop] at this
structure RotE (p x : Poll) : Prop where
 ck : zcx x = zcx p
 ts : zO x = zO p
 al : ∀ so, zcO x so = zcO p so
 se : zdz x = zdz p
 ak : askR7 x = askR7 p
 dr : zfk x = zfk p
 de : zgh x = zgh p
def wrongsV (p : Poll) (v : Voter) : Span := if zcO p true = 0 then zeo v (zO p) else zSpan
theorem ends_oneI {p : Poll} (hn : zO p ≠ []) {k : Nat} {q : Question} (hq : p.questions[k]? = some q) {h : Int} (hs : (zda (zO p))[k]? = some h) : decide (h ≥ 0) = decide (((zfj (zO p) k q.heads.length).length : Int) = 1) := by
 have e := ends_one hn hq hs;rw [show decide (h ≥ 0) = decide (0 ≤ h) from rfl, e, Bool.eq_iff_iff, decide_eq_true_eq, decide_eq_true_eq];omega
def maxIdN (vs : List Voter) : Int := vs.foldl (fun a v => zgM a v.id) 0
theorem poll_id {p : Poll} (hp : zcJ p = true) {v : Voter} (hv : v ∈ p.voters) : 0 ≤ v.id ∧ v.id ≤ 9999 := by
 have h := (poll_iff.1 hp).2.1 v hv;simp only [zfe, Bool.and_eq_true, inB, decide_eq_true_eq] at h;exact h.1.1.1
def expAt (hs qs : List Int) (k : Nat) : Int := if (k : Int) ∈ qs then (hs[k]?).getD 0 else -1
def expL (hs qs : List Int) (n : Nat) : List Int := (List.range n).map (expAt hs qs)
def expertV (p : Poll) (hs qs : List Int) : Voter := ⟨maxIdN p.voters + 1, 0, expL hs qs p.questions.length⟩
end Go.Pk

namespace Go.Pk
open Go Go.RowKit
def oddE : Poll := { zdl with voters := [⟨2, 0, [-1, 1, -1]⟩, ⟨2, 1, [0, 0, 0]⟩, ⟨8, 1, [0, -1, 1]⟩] }
def tornE : Poll := { zdl with lexicon := ⟨[], [⟨0, 3, [], ⟨1, 0, 2⟩, ⟨wSee, 2⟩, 0⟩]⟩ }
def noneE : Poll := { zdl with voters := [⟨5, 0, [-1, 1, -1]⟩, ⟨2, 0, [0, 0, 0]⟩, ⟨8, 1, [0, -1, 1]⟩] }
end Go.Pk

namespace Go.Pk
open Go Go.RowKit
section
variable {t : Text} {x : Lexicon} {d : Decision}
end
def hdA (t : Text) (x : Lexicon) (q : Question) : Head := (zef x q.at_ (zcm t q.at_)).to
def hdQ (q : Question) (h : Int) : Head := (q.heads[h.toNat]?).getD zdw
def chgB (p : Poll) (s : List Int) (j : Nat) : Bool := match p.questions[j]?, s[j]? with
 | some q, some h => decide (0 ≤ h) && decide (hdA p.text p.lexicon q ≠ hdQ q h)
 | _, _ => false
def chgN (p : Poll) (s : List Int) (k : Nat) : Nat := ((List.range k).filter (chgB p s)).length
structure DecI (p : Poll) (s : List Int) (k : Nat) (x : Lexicon) : Prop where
 ck : zaQ p.text x = 0
 mono : mostN p.lexicon.decisions ≤ mostN x.decisions
 out : ∀ (pl : Place) (w : Str), (∀ (j : Nat) (q : Question) (h : Int), j < k → p.questions[j]? = some q → s[j]? = some h → 0 ≤ h → q.at_ ≠ pl) → zef x pl w = zef p.lexicon pl w
 ins : ∀ (j : Nat) (q : Question) (h : Int), j < k → p.questions[j]? = some q → s[j]? = some h → 0 ≤ h → hdA p.text x q = hdQ q h ∧ (hdA p.text p.lexicon q = hdQ q h → zef x q.at_ (zcm p.text q.at_) = zef p.lexicon q.at_ (zcm p.text q.at_)) ∧ (hdA p.text p.lexicon q ≠ hdQ q h → mostN p.lexicon.decisions < (zef x q.at_ (zcm p.text q.at_)).number)
 len : x.decisions.length = p.lexicon.decisions.length + chgN p s k
end Go.Pk

namespace Go.Pk
open Go Go.RowKit
section
variable {p : Poll} {k : Nat} {q : Question} {ch : Int} {pl : Place}
def noSet (p : Poll) (pl : Place) (k : Nat) : Prop := ∀ (j : Nat) (q : Question) (h : Int), j < k → p.questions[j]? = some q → (zdz p)[j]? = some h → q.at_ = pl → h < 0
def plcN (t : Text) (n : Nat) : Place := ((zfi t)[n]?).getD zdE
def subN (n : Int) : Nat → Int
 | 0 => n
 | k + 1 => subN n k - 1
end
end Go.Pk

namespace Go.Pk
open Go Go.RowKit
section
variable {p : Poll} {by_ : List Int} {is_ zs : List Int} {xs : List Voter} {k i : Nat} {q : Question} {c : Int}
def isAt (p : Poll) (by_ : List Int) (j : Nat) : Int := match p.questions[j]? with | some q => (zdb by_ j).tmod (q.heads.length : Int) | none => 0
def isN (p : Poll) (by_ : List Int) (k : Nat) : List Int := (List.range k).map (isAt p by_)
theorem choose_le {l : List Int} {i : Nat} {n : Int} (hn : 0 ≤ n) (h : ∀ v ∈ l, v ≤ n) : zdb l i ≤ n := by
 rw [zdb];cases e : l[i % l.length]? with
 | none => simpa using hn
 | some v => exact h v (List.mem_of_getElem? e)
theorem isN_succ (hq : p.questions[k]? = some q) : isN p by_ (k + 1) = isN p by_ k ++ [(zdb by_ k).tmod (q.heads.length : Int)] := by
 simp only [isN, List.range_succ, List.map_append, List.map_cons, List.map_nil, isAt, hq]
theorem zfF : (isN p by_ k).length = k := by simp [isN]
theorem tmod_in {c : Int} {n : Nat} (h0 : 0 ≤ c) (hn : 0 < n) : 0 ≤ c.tmod (n : Int) ∧ c.tmod (n : Int) < (n : Int) := by
 refine ⟨Int.tmod_nonneg _ h0, ?_⟩;exact Int.tmod_lt_of_pos _ zr
def IsOk (p : Poll) (is_ : List Int) : Prop := is_.length = p.questions.length ∧ ∀ (k : Nat) (h : Int) (q : Question), is_[k]? = some h → p.questions[k]? = some q → 0 ≤ h ∧ h < (q.heads.length : Int)
theorem isN_ok (hp : zcJ p = true) (hb : ∀ v ∈ by_, 0 ≤ v) : IsOk p (isN p by_ p.questions.length) := by
 refine ⟨zfF, fun k h q hh hq => ?_⟩;have hk := (List.getElem?_eq_some_iff.1 hq).1;have e : (isN p by_ p.questions.length)[k]? = some (isAt p by_ k) := by rw [isN, List.getElem?_map, List.getElem?_range hk]; rfl
 rw [e] at hh;have e2 := Option.some.inj hh;rw [isAt, hq] at e2;have := zfs hp hq;rw [← e2];exact tmod_in (zjr hb) zr
def ZsOk (p : Poll) (zs : List Int) : Prop := zs.length = p.questions.length ∧ ∀ (k : Nat) (n : Int) (q : Question), zs[k]? = some n → p.questions[k]? = some q → -1 ≤ n ∧ n ≤ (q.heads.length : Int) - 1
theorem zs_set (h : ZsOk p zs) (hq : p.questions[k]? = some q) (hc : -1 ≤ c ∧ c ≤ (q.heads.length : Int) - 1) : ZsOk p (zs.set k c) := by
 refine ⟨by rw [List.length_set]; exact h.1, fun j n q' hn hq' => ?_⟩
 by_cases e : j = k
 ·subst e;rw [List.getElem?_set_self (by rw [h.1]; exact (List.getElem?_eq_some_iff.1 hq).1)] at hn;rw [hq] at hq'; cases hn; cases hq'; exact hc
 rw [List.getElem?_set_ne (fun z => e z.symm)] at hn;exact h.2 j n q' hn hq'
theorem zs_votes {v : Voter} (h : zfD p v = true) (hl : v.votes.length = p.questions.length) : ZsOk p v.votes := by
 refine ⟨hl, fun k n q hn hq => ?_⟩;rw [zfD, List.all_eq_true] at h;have := h k (List.mem_range.2 (List.getElem?_eq_some_iff.1 hn).1);simp only [zey, hn, hq, inB, Bool.and_eq_true, decide_eq_true_eq] at this;omega
theorem votes_zs {v : Voter} (h : ZsOk p v.votes) : zfD p v = true := by
 rw [zfD, List.all_eq_true];intro k hk;obtain ⟨n, hn⟩ : ∃ n, v.votes[k]? = some n := ⟨_, List.getElem?_eq_getElem (List.mem_range.1 hk)⟩;rw [zey, hn];cases hq : p.questions[k]? with
 | none => rfl
 | some q =>
  have := h.2 k n q hn hq;simp only [inB, Bool.and_eq_true, decide_eq_true_eq]; omega
def TV (p : Poll) (is_ : List Int) (xs : List Voter) (i : Nat) : Prop := xs.length = p.voters.length ∧ ∀ (j : Nat) (x : Voter), xs[j]? = some x → (∃ u, p.voters[j]? = some u ∧ x.id = u.id) ∧ ZsOk p x.votes ∧ (j < i → 0 ≤ x.wrong ∧ x.wrong ≤ 6 ∧ (zbc x is_ : Int) ≤ x.wrong)
theorem TV.start (hp : zcJ p = true) : TV p is_ p.voters 0 := by
 refine ⟨rfl, fun j x hx => ?_⟩;have h := zfr hp (List.mem_of_getElem? hx);exact ⟨⟨x, hx, rfl⟩, zs_votes h.2.2.2 h.2.2.1, fun z => absurd z zr⟩
theorem wrong_le (v : Voter) (t : List Int) : zbc v t ≤ t.length := by
 have := List.length_filter_le (zdS v t) (List.range t.length);rw [List.length_range] at this; exact this
theorem TV.step {x : Voter} {w : Int} (a : TV p is_ xs i) (hx : xs[i]? = some x) (hz : ZsOk p zs) (h0 : 0 ≤ w) (h6 : w ≤ 6) (hw : (zbc ⟨0, 0, zs⟩ is_ : Int) ≤ w) : TV p is_ (xs.set i ⟨x.id, w, zs⟩) (i + 1) := by
 refine ⟨by rw [List.length_set]; exact a.1, fun j y hy => ?_⟩
 by_cases e : j = i
 ·subst e;rw [List.getElem?_set_self (List.getElem?_eq_some_iff.1 hx).1] at hy;cases hy;exact ⟨(a.2 j x hx).1, hz, fun _ => ⟨h0, h6, hw⟩⟩
 rw [List.getElem?_set_ne (fun z => e z.symm)] at hy;obtain ⟨b1, b2, b3⟩ := a.2 j y hy;exact ⟨b1, b2, fun z => b3 zr⟩
def zds (p : Poll) (xs : List Voter) : Poll := ⟨p.text, p.lexicon, p.questions, xs⟩
theorem tv_ids (a : TV p is_ xs i) : xs.map (·.id) = p.voters.map (·.id) := by
 refine List.ext_getElem (by simp [a.1]) fun j h1 h2 => ?_;simp only [List.getElem_map];simp only [List.length_map] at h1 h2;obtain ⟨⟨u, hu, e⟩, _⟩ := a.2 j xs[j] (List.getElem?_eq_getElem h1);rw [e];obtain ⟨h3, h4⟩ := List.getElem?_eq_some_iff.1 hu;rw [h4]
theorem tv_check (hk : zcx p = 0) (a : TV p is_ xs i) (hi : xs.length ≤ i) : zcx (zds p xs) = 0 := by
 obtain ⟨h1, h2⟩ := zbP hk;have hp : zcJ (zds p xs) = true := by
  obtain ⟨⟨⟨b1, b2⟩, b3⟩, b4, b5⟩ := poll_iff.1 h2;refine poll_iff.2 ⟨⟨⟨b1, ?_⟩, ?_⟩, ?_, ?_⟩
  ·show xs.length ≤ 6; rw [a.1]; exact b2
  ·rw [questAt_of (p := p) (x := zds p xs) rfl rfl]; exact b3
  ·intro v hv;obtain ⟨j, hj⟩ := List.mem_iff_getElem?.1 (show v ∈ xs from hv);obtain ⟨⟨u, hu, e⟩, c2, c3⟩ := a.2 j v hj;obtain ⟨d1, d2, _⟩ := c3 (by have := (List.getElem?_eq_some_iff.1 hj).1; omega);have hid := poll_id h2 (List.mem_of_getElem? hu);rw [votesOk_of (p := p) (x := zds p xs) rfl];have hv2 := votes_zs c2;simp only [zfe, inB, Bool.and_eq_true, decide_eq_true_eq];exact ⟨⟨⟨by rw [e]; exact hid, d1, d2⟩, c2.1⟩, hv2⟩
  ·show (xs.map (·.id)).Nodup;rw [tv_ids a]; exact b5
 rw [zcx];show (if zaQ p.text p.lexicon ≠ 0 then _ else if zcJ (zds p xs) = true then 0 else 70) = (0 : Int);rw [if_neg (by simp [h1]), if_pos hp]
theorem tv_small (hs : zei p = true) (hk : zcx p = 0) (a : TV p is_ xs i) : zei (zds p xs) = true := by
 have hl := zcT (zbP hk).2;simp only [zei, Bool.and_eq_true, decide_eq_true_eq] at hs ⊢;obtain ⟨⟨⟨⟨⟨b1, b2⟩, b3⟩, b4⟩, b5⟩, b6⟩ := hs;refine ⟨⟨⟨⟨⟨b1, b2⟩, b3⟩, ?_⟩, b5⟩, ?_⟩
 ·show xs.length ≤ 10; rw [a.1]; omega
 rw [List.all_eq_true];intro v hv;obtain ⟨j, hj⟩ := List.mem_iff_getElem?.1 (show v ∈ xs from hv);have := (a.2 j v hj).2.1.1;rw [smallV, decide_eq_true_eq]; omega
theorem tv_true (hok : IsOk p is_) (a : TV p is_ xs i) (hi : xs.length ≤ i) : zfZ (zds p xs) is_ = true := by
 refine true_iff.2 ⟨⟨hok.1, ?_⟩, fun v hv => ?_⟩
 ·rw [List.all_eq_true];intro k hk;obtain ⟨h, hh⟩ : ∃ h, is_[k]? = some h := ⟨_, List.getElem?_eq_getElem (List.mem_range.1 hk)⟩;obtain ⟨q, hq⟩ : ∃ q, p.questions[k]? = some q := ⟨_, List.getElem?_eq_getElem (by have := List.mem_range.1 hk; rw [hok.1] at this; exact this)⟩;rw [inAt_of (p := p) (x := zds p xs) rfl, inAt, hh, hq];have := hok.2 k h q hh hq;simp only [inB, Bool.and_eq_true, decide_eq_true_eq]; omega
 obtain ⟨j, hj⟩ := List.mem_iff_getElem?.1 (show v ∈ xs from hv);exact ((a.2 j v hj).2.2 (by have := (List.getElem?_eq_some_iff.1 hj).1; omega)).2.2
theorem tv_mem (hok : IsOk p is_) (a : TV p is_ xs i) (hi : xs.length ≤ i) : is_ ∈ zO (zds p xs) := by
 refine List.mem_filter.2 ⟨candL_mem.2 ⟨by rw [zgJ, List.length_map]; exact hok.1, fun k n h hn hh => ?_⟩, tv_true hok a hi⟩;rw [zgJ, List.getElem?_map] at hn;cases hq : p.questions[k]? with
 | none => rw [show (zds p xs).questions = p.questions from rfl, hq] at hn; cases hn
 | some q =>
  rw [show (zds p xs).questions = p.questions from rfl, hq] at hn;cases hn;exact hok.2 k h q hh hq
theorem tv_open {y : Poll} (hy : zcO y true = 0) (hm : is_ ∈ zO y) {h : Int} (hh : is_[k]? = some h) (hq : y.questions[k]? = some q) : h ∈ openN y k := by
 obtain ⟨b, hb, hm2⟩ := open_in hq hm;rw [hh] at hb; cases hb;rw [openN_eq hy hq]; exact hm2
theorem tv_set {y : Poll} (hy : zcO y true = 0) (hm : is_ ∈ zO y) {h s : Int} (hh : is_[k]? = some h) (hs : (zdz y)[k]? = some s) (h0 : 0 ≤ s) : s = h := by
 rw [settled_ok hy] at hs;have := set_pos hs h0 _ hm;rw [hh] at this; exact (Option.some.inj this).symm
theorem tv_one {y : Poll} (hy : zcO y true = 0) (hn : zO y ≠ []) (hq : y.questions[k]? = some q) {s : Int} (hs : (zdz y)[k]? = some s) : decide (s ≥ 0) = decide (((openN y k).length : Int) = 1) := by
 rw [settled_ok hy] at hs;rw [openN_eq hy hq]; exact ends_oneI hn hq hs
end
end Go.Pk
