/- A PART OF THE PROOF: contracts of functions, each walked once (much of it printed by a program of the author's own). -/
import Derived.Test.YtfpiiheehdedmaaGreatDoorT2
import Derived.Sort.Walk0
import Derived.Test.YtfpiiheehdedmaaGreatDoorT0
import Derived.Test.YtfpiiheehdedmaaGreatDoorT1
import Derived.RangeFuncRecord
import Derived.RangeFuncIn
import Derived.RangeFuncLeaves
set_option linter.unusedSimpArgs false
set_option linter.unusedVariables false
set_option maxRecDepth 4000
namespace Go.Pk
open Go Go.RowKit
def zil (t : Text) (k : Nat) : List (List Str) := ((t.chapters[k]?).map (·.lines)).getD []
def wordsAt (t : Text) (k n : Nat) : List Str := ((zil t k)[n]?).getD []
def mkP (k n w : Nat) : Place := ⟨k, n, w⟩
def lineP (t : Text) (k n : Nat) : List Place := (List.range (wordsAt t k n).length).map (mkP k n)
def chapP (t : Text) (k : Nat) : List Place := (List.range (zil t k).length).flatMap (lineP t k)
def zfS (t : Text) : List Place := (List.range t.chapters.length).flatMap (chapP t)
theorem zgr {t : Text} {k : Nat} {c : Chapter} (h : t.chapters[k]? = some c) : zil t k = c.lines := by simp [zil, h]
theorem zhx {t : Text} {k n : Nat} {c : Chapter} {ln : List Str} (h : t.chapters[k]? = some c) (h2 : c.lines[n]? = some ln) : wordsAt t k n = ln := by simp [wordsAt, zgr h, h2]
theorem zfg {α : Type} {f : Nat → List α} {c : Nat} (h : ∀ k, (f k).length ≤ c) (n : Nat) : ((List.range n).flatMap f).length ≤ c * n := by
 induction n with
 | zero => simp
 | succ n ih =>
  rw [List.range_succ, List.flatMap_append, List.length_append]
  have := h n
  simp only [List.flatMap_cons, List.flatMap_nil, List.append_nil]
  rw [Nat.mul_succ]; omega
theorem zif {t : Text} (ht : zbm t = true) (k n : Nat) : (wordsAt t k n).length ≤ 10 := by
 unfold wordsAt zil
 simp only [zbm, Bool.and_eq_true, List.all_eq_true] at ht
 cases hc : t.chapters[k]? with
 | none => simp
 | some c =>
  have h1 := ht.1.2 _ (List.mem_of_getElem? hc)
  simp only [zbJ, Bool.and_eq_true, List.all_eq_true] at h1
  simp only [Option.map_some, Option.getD_some]
  cases hl : c.lines[n]? with
  | none => simp
  | some ln =>
   have h2 := h1.2 _ (List.mem_of_getElem? hl)
   simp only [zgs, Bool.and_eq_true, inB, decide_eq_true_eq] at h2
   simp only [Option.getD_some]; omega
theorem zik {t : Text} (ht : zbm t = true) (k : Nat) : (zil t k).length ≤ 10 := by
 unfold zil
 simp only [zbm, Bool.and_eq_true, List.all_eq_true] at ht
 cases hc : t.chapters[k]? with
 | none => simp
 | some c =>
  have h1 := ht.1.2 _ (List.mem_of_getElem? hc)
  simp only [zbJ, Bool.and_eq_true, inB, decide_eq_true_eq] at h1
  simp only [Option.map_some, Option.getD_some]; omega
theorem zgu {t : Text} (ht : zbm t = true) : t.chapters.length ≤ 6 := by
 simp only [zbm, Bool.and_eq_true, inB, decide_eq_true_eq] at ht; omega
theorem lineP_len {t : Text} (ht : zbm t = true) (k n : Nat) : (lineP t k n).length ≤ 10 := by
 rw [lineP, List.length_map, List.length_range]; exact zif ht k n
theorem chapP_len {t : Text} (ht : zbm t = true) (k : Nat) : (chapP t k).length ≤ 100 := by
 have h1 := zfg (lineP_len ht k) (zil t k).length
 have h2 := zik ht k
 rw [chapP]; omega
theorem places_len {t : Text} (ht : zbm t = true) : (zfS t).length ≤ 600 := by
 have h1 := zfg (chapP_len ht) t.chapters.length
 have h2 := zgu ht
 rw [zfS]; omega
theorem place_mk {t : Text} {k n w : Nat} {c : Chapter} {ln : List Str} (hc : t.chapters[k]? = some c) (hl : c.lines[n]? = some ln) (hw : w < ln.length) : zbE t (mkP k n w) = true := by
 have h0 : ln[w]? = some ln[w] := List.getElem?_eq_getElem hw
 simp [zbE, zgF, zcT, mkP, hc, hl, h0]
theorem word_mk {t : Text} {k n w : Nat} {c : Chapter} {ln : List Str} {s : Str} (hc : t.chapters[k]? = some c) (hl : c.lines[n]? = some ln) (hw : ln[w]? = some s) : zcs t (mkP k n w) = s := by
 simp [zcs, zgF, zcT, mkP, hc, hl, hw]
theorem lineP_snoc {t : Text} {k n : Nat} {c : Chapter} {ln : List Str} (hc : t.chapters[k]? = some c) (hl : c.lines[n]? = some ln) {w : Nat} (hw : w = ln.length) : (List.range w).map (mkP k n) = lineP t k n := by
 rw [lineP, zhx hc hl, hw]
theorem chapP_snoc {t : Text} {k : Nat} {c : Chapter} (hc : t.chapters[k]? = some c) {n : Nat} (hn : n = c.lines.length) : (List.range n).flatMap (lineP t k) = chapP t k := by
 rw [chapP, zgr hc, hn]
theorem range_flat_succ {α : Type} (f : Nat → List α) (n : Nat) : (List.range (n + 1)).flatMap f = (List.range n).flatMap f ++ f n := by
 rw [List.range_succ, List.flatMap_append]; simp
def ziv (t : Text) (x : Lexicon) (p : Place) : Head := (winD x p (zcs t p)).to
def entryAt (t : Text) (x : Lexicon) (p : Place) : Entry := ⟨p, zcs t p, ziv t x p⟩
def zbF (t : Text) (x : Lexicon) : List Entry := (zfS t).map (entryAt t x)
def headsL (t : Text) (x : Lexicon) : List Head := (zfS t).map (ziv t x)
def headR0 (x : Lexicon) (wd : Str) : Decision := { zcw with to := ⟨((zdF x.rules 4 wd).getLast?).getD [], 0⟩ }
def stepR (p : Place) (wd : Str) (b d : Decision) : Decision := if zer d p wd = true ∧ (b.number = 0 ∨ betterB d b = true) then d else b
def headR (x : Lexicon) (l : List Decision) (p : Place) (wd : Str) : Decision := l.foldl (stepR p wd) (headR0 x wd)
def askR (t : Text) (x : Lexicon) (p : Place) : Decision := if zaR t x = 0 ∧ zbE t p = true then winD x p (zcs t p) else zcw
def askE (t : Text) (x : Lexicon) (p : Place) : Int := if zaR t x = 0 then (if zbE t p = true then 0 else 12) else zaR t x
theorem stepsN_mem_len {rs : List Rule} : ∀ (n : Nat) (w : Str), w.length ≤ 12 → ∀ s ∈ zdF rs n w, s.length ≤ 12
 | 0, w, h, s, hs => by simp [zdF] at hs; subst hs; exact h
 | n + 1, w, h, s, hs => by
  simp only [zdF] at hs
  split at hs
  ·simp at hs; subst hs; exact h
  ·rename_i u hu
   rcases List.mem_cons.1 hs with rfl | hs
   ·exact h
   ·obtain ⟨r, _, hr⟩ := List.exists_of_findSome?_eq_some hu
    exact stepsN_mem_len n u (made_len hr) s hs
theorem head_of_valid {h : Head} (hv : zea h = true) : h.stem.length ≤ 12 ∧ 0 ≤ h.mark ∧ h.mark ≤ 3 := by
 simp only [zea, Bool.and_eq_true, inB, decide_eq_true_eq] at hv
 exact ⟨zhL hv.1, hv.2.1, hv.2.2⟩
theorem dec_head {t : Text} {d : Decision} {p : Place} {wd : Str} (h : zaj t d = true) (hc : zer d p wd = true) : zea d.to = true := by
 simp only [zaj, Bool.and_eq_true] at h
 have h := h.2
 unfold zer at hc
 by_cases k1 : d.kind = 1
 ·simp only [k1, if_true, Bool.and_eq_true] at h; exact h.1.2
 by_cases k2 : d.kind = 2
 ·simp [k2] at h; exact h.1.2
 by_cases k3 : d.kind = 3
 ·simp [k3] at h; exact h.1.2
 simp [k1, k2, k3] at hc
theorem winD_ok {t : Text} {x : Lexicon} {p : Place} (hx : zaR t x = 0) (hp : zbE t p = true) : (winD x p (zcs t p)).to.stem.length ≤ 12 ∧ 0 ≤ (winD x p (zcs t p)).to.mark ∧ (winD x p (zcs t p)).to.mark ≤ 3 := by
 unfold winD
 split
 ·refine ⟨?_, by simp, by simp⟩
  have hw := wordD_len (zdW hx) hp
  cases e : (zdF x.rules 4 (zcs t p)).getLast? with
  | none => simp
  | some s => exact stepsN_mem_len 4 _ hw s (List.mem_of_getLast? e)
 rename_i h0
 rcases bestOf_mem (conD x p (zcs t p)) with h | h
 ·rw [h] at h0; exact absurd rfl h0
 obtain ⟨h1, h2⟩ := List.mem_filter.1 h
 obtain ⟨q, hq, e⟩ := List.mem_map.1 h1
 have h3 := (standM_ok hx hq).1
 rw [e] at h3
 exact head_of_valid (dec_head h3 h2)
end Go.Pk

namespace Go.Pk
open Go Go.RowKit
section
variable {α : Type}
structure DelF (q : α → Bool) (s ys : List α) (i j : Nat) : Prop where
 len : ys.length = s.length
 le : i ≤ j
 le2 : j ≤ s.length
 head : ys.take i = (s.take j).filter fun x => !q x
 tail : ys.drop j = s.drop j
theorem DelF.get {q : α → Bool} {s ys : List α} {i j : Nat} (d : DelF q s ys i j) {y : α} (h : ys[j]? = some y) : s[j]? = some y := by
 have h1 := congrArg (fun l : List α => l[0]?) d.tail
 simp only [List.getElem?_drop, Nat.add_zero] at h1
 rw [← h1]; exact h
theorem DelF.start {q : α → Bool} {s : List α} {k : Nat} (h1 : ∀ j x, j < k → s[j]? = some x → q x = false) (h2 : ∀ x, s[k]? = some x → q x = true) (hk : k < s.length) : DelF q s s k (k + 1) := by
 refine ⟨rfl, by omega, by omega, ?_, rfl⟩
 have hx : s[k]? = some s[k] := List.getElem?_eq_getElem hk
 rw [zbf hx, List.filter_append]
 have e1 : (s.take k).filter (fun x => !q x) = s.take k := by
  rw [List.filter_eq_self]
  intro x hx
  obtain ⟨j, hj⟩ := List.mem_iff_getElem?.1 hx
  rw [List.getElem?_take] at hj
  split at hj
  ·rename_i hjk; simp [h1 j x hjk hj]
  ·cases hj
 simp [e1, h2 _ hx]
theorem DelF.keep {q : α → Bool} {s ys : List α} {i j : Nat} (d : DelF q s ys i j) {y : α} (h : ys[j]? = some y) (hq : q y = false) : DelF q s (ys.set i y) (i + 1) (j + 1) := by
 obtain ⟨h1, _⟩ := List.getElem?_eq_some_iff.1 h
 have hl := d.len; have hle := d.le
 refine ⟨by rw [List.length_set]; exact d.len, by omega, by omega, ?_, ?_⟩
 ·rw [zbf (d.get h), List.filter_append, ← d.head]
  have e : (ys.set i y)[i]? = some y := by rw [List.getElem?_set]; simp; omega
  rw [zbf e, List.take_set_of_le (Nat.le_refl i)]
  simp [hq]
 rw [List.drop_set_of_lt (by omega)]
 have := congrArg (List.drop 1) d.tail
 simpa [List.drop_drop] using this
theorem DelF.skip {q : α → Bool} {s ys : List α} {i j : Nat} (d : DelF q s ys i j) {y : α} (h : ys[j]? = some y) (hq : q y = true) : DelF q s ys i (j + 1) := by
 obtain ⟨h1, _⟩ := List.getElem?_eq_some_iff.1 h
 have hl := d.len; have hle := d.le
 refine ⟨d.len, by omega, by omega, ?_, ?_⟩
 ·rw [zbf (d.get h), List.filter_append, ← d.head]
  simp [hq]
 have := congrArg (List.drop 1) d.tail
 simpa [List.drop_drop] using this
theorem DelF.fin {q : α → Bool} {s ys : List α} {i j : Nat} (d : DelF q s ys i j) (h : s.length ≤ j) : ys.take i = s.filter fun x => !q x := by
 rw [d.head, List.take_of_length_le h]
theorem filter_none {q : α → Bool} {s : List α} (h : ∀ j x, j < s.length → s[j]? = some x → q x = false) : (s.filter fun x => !q x) = s := by
 rw [List.filter_eq_self]
 intro x hx
 obtain ⟨j, hj⟩ := List.mem_iff_getElem?.1 hx
 obtain ⟨h1, _⟩ := List.getElem?_eq_some_iff.1 hj
 simp [h j x h1 hj]
variable [DecidableEq α]
def zhg (acc : List α) (x : α) : List α := if acc.getLast? = some x then acc else acc ++ [x]
def zcp (l : List α) : List α := l.foldl zhg []
theorem zgW (l : List α) (x : α) : zcp (l ++ [x]) = zhg (zcp l) x := by simp [zcp]
theorem compactL_last (l : List α) : (zcp l).getLast? = l.getLast? := by
 induction l using zgp with
 | nil => rfl
 | snoc l d ih =>
  rw [zgW, zhg]
  split
  ·rename_i h; rw [h]; simp
  ·simp
theorem zgV {s : List α} {k : Nat} {y z : α} (hz : s[k]? = some z) (hy : s[k + 1]? = some y) : zcp (s.take (k + 2)) = if z = y then zcp (s.take (k + 1)) else zcp (s.take (k + 1)) ++ [y] := by
 have e : (s.take (k + 1)).getLast? = some z := by rw [zbf hz]; simp
 rw [zbf hy, zgW, zhg, compactL_last, e]
 simp only [Option.some.injEq]
theorem comp_more {s : List α} {k : Nat} {y z : α} (hz : s[k - 1]? = some z) (hy : s[k]? = some y) (hk : 1 ≤ k) (h : zcp (s.take k) = s.take k) (hne : ¬ y = z) : zcp (s.take (k + 1)) = s.take (k + 1) := by
 obtain ⟨m, rfl⟩ : ∃ m, k = m + 1 := ⟨k - 1, by omega⟩
 rw [Nat.add_sub_cancel] at hz
 rw [show m + 1 + 1 = m + 2 from rfl, zgV hz hy, if_neg (fun e => hne e.symm), h, ← zbf hy]
theorem comp_one {s : List α} (h : 1 ≤ s.length) : zcp (s.take 1) = s.take 1 := by
 cases s with
 | nil => simp at h
 | cons a s => simp [zcp, zhg]
theorem comp_short {s : List α} (h : s.length < 2) : zcp s = s := by
 match s, h with
 | [], _ => rfl
 | [a], _ => simp [zcp, zhg]
structure Comp (s ys : List α) (i j : Nat) : Prop where
 len : ys.length = s.length
 le : i + 1 ≤ j
 le2 : j ≤ s.length
 head : ys.take i = zcp (s.take j)
 tail : ys.drop (j - 1) = s.drop (j - 1)
theorem Comp.start {s : List α} {k : Nat} {y z : α} (hz : s[k - 1]? = some z) (hy : s[k]? = some y) (hk : 1 ≤ k) (h : zcp (s.take k) = s.take k) (he : y = z) : Comp s s k (k + 1) := by
 obtain ⟨h1, _⟩ := List.getElem?_eq_some_iff.1 hy
 refine ⟨rfl, Nat.le_refl _, by omega, ?_, rfl⟩
 obtain ⟨m, rfl⟩ : ∃ m, k = m + 1 := ⟨k - 1, by omega⟩
 rw [Nat.add_sub_cancel] at hz
 rw [show m + 1 + 1 = m + 2 from rfl, zgV hz hy, if_pos he.symm, h]
theorem Comp.get {s ys : List α} {i j : Nat} (d : Comp s ys i j) {y : α} {n : Nat} (hn : j - 1 ≤ n) (h : ys[n]? = some y) : s[n]? = some y := by
 have h1 := congrArg (fun l : List α => l[n - (j - 1)]?) d.tail
 simp only [List.getElem?_drop] at h1
 rw [show j - 1 + (n - (j - 1)) = n by omega] at h1
 rw [← h1]; exact h
theorem Comp.keep {s ys : List α} {i j : Nat} (d : Comp s ys i j) {y z : α} (h : ys[j]? = some y) (hz : ys[j - 1]? = some z) (hne : ¬ y = z) : Comp s (ys.set i y) (i + 1) (j + 1) := by
 obtain ⟨h1, _⟩ := List.getElem?_eq_some_iff.1 h
 have hl := d.len; have hle := d.le; have hle2 := d.le2
 have g1 := d.get (by omega) h
 have g2 := d.get (Nat.le_refl _) hz
 refine ⟨by rw [List.length_set]; exact d.len, by omega, by omega, ?_, ?_⟩
 ·obtain ⟨m, rfl⟩ : ∃ m, j = m + 1 := ⟨j - 1, by omega⟩
  rw [Nat.add_sub_cancel] at g2
  rw [show m + 1 + 1 = m + 2 from rfl, zgV g2 g1, if_neg (fun e => hne e.symm), ← d.head]
  have e : (ys.set i y)[i]? = some y := by rw [List.getElem?_set]; simp; omega
  rw [zbf e, List.take_set_of_le (Nat.le_refl i)]
 rw [Nat.add_sub_cancel, List.drop_set_of_lt (by omega)]
 have := congrArg (List.drop 1) d.tail
 rw [List.drop_drop, List.drop_drop, show j - 1 + 1 = j by omega] at this
 exact this
theorem Comp.skip {s ys : List α} {i j : Nat} (d : Comp s ys i j) {y z : α} (h : ys[j]? = some y) (hz : ys[j - 1]? = some z) (he : y = z) : Comp s ys i (j + 1) := by
 obtain ⟨h1, _⟩ := List.getElem?_eq_some_iff.1 h
 have hl := d.len; have hle := d.le; have hle2 := d.le2
 have g1 := d.get (by omega) h
 have g2 := d.get (Nat.le_refl _) hz
 refine ⟨d.len, by omega, by omega, ?_, ?_⟩
 ·obtain ⟨m, rfl⟩ : ∃ m, j = m + 1 := ⟨j - 1, by omega⟩
  rw [Nat.add_sub_cancel] at g2
  rw [show m + 1 + 1 = m + 2 from rfl, zgV g2 g1, if_pos he.symm, ← d.head]
 have := congrArg (List.drop 1) d.tail
 rw [List.drop_drop, List.drop_drop, show j - 1 + 1 = j by omega] at this
 rw [Nat.add_sub_cancel]; exact this
theorem Comp.fin {s ys : List α} {i j : Nat} (d : Comp s ys i j) (h : s.length ≤ j) : ys.take i = zcp s := by
 rw [d.head, List.take_of_length_le h]
end
end Go.Pk

namespace Go.Pk
open Go Go.RowKit
section
variable {α : Type} [DecidableEq α]
structure TLt (lt : α → α → Bool) : Prop where
 irrefl : ∀ a, lt a a = false
 trans : ∀ a b c, lt a b = true → lt b c = true → lt a c = true
 total : ∀ a b, a ≠ b → lt a b = true ∨ lt b a = true
def insBy (lt : α → α → Bool) (l : List α) (x : α) : List α := if (l.dropWhile fun a => lt a x).head? = some x then l else (l.takeWhile fun a => lt a x) ++ [x] ++ (l.dropWhile fun a => lt a x)
def setL (lt : α → α → Bool) (l : List α) : List α := l.foldl (insBy lt) []
variable {lt : α → α → Bool}
theorem setL_snoc (l : List α) (x : α) : setL lt (l ++ [x]) = insBy lt (setL lt l) x := by simp [setL]
omit [DecidableEq α] in
theorem TLt.asymm (T : TLt lt) {a b : α} (h : lt a b = true) : lt b a = false := by
 cases e : lt b a with
 | false => rfl
 | true => have := T.trans _ _ _ h e; rw [T.irrefl] at this; cases this
theorem insBy_mem {l : List α} {x y : α} : y ∈ insBy lt l x ↔ y ∈ l ∨ y = x := by
 unfold insBy
 split
 ·rename_i h
  have : x ∈ l.dropWhile fun a => lt a x := List.mem_of_mem_head? h
  have hx : x ∈ l := (List.dropWhile_sublist _).subset this
  constructor
  ·exact .inl
  ·rintro (h | rfl)
   ·exact h
   ·exact hx
 have e : l = (l.takeWhile fun a => lt a x) ++ (l.dropWhile fun a => lt a x) := (List.takeWhile_append_dropWhile).symm
 have : y ∈ l ↔ y ∈ (l.takeWhile fun a => lt a x) ∨ y ∈ (l.dropWhile fun a => lt a x) := by
  rw [← List.mem_append, ← e]
 rw [this]
 simp only [List.mem_append, List.mem_singleton]
 constructor
 ·rintro ((h | h) | h)
  ·exact .inl (.inl h)
  ·exact .inr h
  ·exact .inl (.inr h)
 rintro ((h | h) | h)
 ·exact .inl (.inl h)
 ·exact .inr h
 exact .inl (.inr h)
theorem insBy_sorted (T : TLt lt) {l : List α} {x : α} (hs : l.Pairwise fun a b => lt a b = true) : (insBy lt l x).Pairwise fun a b => lt a b = true := by
 unfold insBy
 split
 ·exact hs
 rename_i hne
 have e : l = (l.takeWhile fun a => lt a x) ++ (l.dropWhile fun a => lt a x) := (List.takeWhile_append_dropWhile).symm
 have hs' := hs
 rw [e] at hs'
 obtain ⟨s1, s2, s3⟩ := List.pairwise_append.1 hs'
 have ht : ∀ a ∈ l.takeWhile (fun a => lt a x), lt a x = true := by
  intro a ha
  have := List.all_takeWhile (l := l) (p := fun a => lt a x)
  exact List.all_eq_true.1 this a ha
 have hd : ∀ b ∈ l.dropWhile (fun a => lt a x), lt x b = true := by
  cases hD : l.dropWhile (fun a => lt a x) with
  | nil => simp
  | cons c D =>
   have hc : ¬ lt c x = true := by
    have := List.head?_dropWhile_not (fun a => lt a x) l
    rw [hD] at this; simpa using this
   have hcx : c ≠ x := by
    intro q; rw [hD, q] at hne; exact hne rfl
   have h1 : lt x c = true := (T.total x c (Ne.symm hcx)).resolve_right hc
   intro b hb
   rcases List.mem_cons.1 hb with rfl | hb
   ·exact h1
   ·rw [hD] at s2
    exact T.trans _ _ _ h1 ((List.pairwise_cons.1 s2).1 b hb)
 rw [List.append_assoc]
 refine List.pairwise_append.2 ⟨s1, List.pairwise_append.2 ⟨by simp, s2, ?_⟩, ?_⟩
 ·intro a ha b hb
  simp at ha; subst ha
  exact hd b hb
 intro a ha b hb
 rcases List.mem_append.1 hb with hb | hb
 ·simp at hb; subst hb; exact ht a ha
 exact s3 a ha b hb
theorem setL_sorted (T : TLt lt) (l : List α) : (setL lt l).Pairwise fun a b => lt a b = true := by
 induction l using zgp with
 | nil => exact List.Pairwise.nil
 | snoc l d ih => rw [setL_snoc]; exact insBy_sorted T ih
theorem setL_mem {l : List α} {y : α} : y ∈ setL lt l ↔ y ∈ l := by
 induction l using zgp with
 | nil => simp [setL]
 | snoc l d ih => rw [setL_snoc, insBy_mem, ih]; simp
omit [DecidableEq α] in
theorem strict_eq (T : TLt lt) {a b : List α} (ha : a.Pairwise fun x y => lt x y = true) (hb : b.Pairwise fun x y => lt x y = true) (h : ∀ x, x ∈ a ↔ x ∈ b) : a = b := by
 have na : a.Nodup := ha.imp (fun h e => by subst e; rw [T.irrefl] at h; cases h)
 have nb : b.Nodup := hb.imp (fun h e => by subst e; rw [T.irrefl] at h; cases h)
 refine List.Perm.eq_of_pairwise (le := fun x y => lt x y = true) (fun x y _ _ h1 h2 => by have := T.asymm h1; rw [h2] at this; cases this) ha hb ((List.perm_ext_iff_of_nodup na nb).2 h)
theorem setL_len (T : TLt lt) (l : List α) : (setL lt l).length ≤ l.length := by
 induction l using zgp with
 | nil => simp [setL]
 | snoc l d ih =>
  rw [setL_snoc, insBy]
  split
  ·simp; omega
  ·have e := congrArg List.length (List.takeWhile_append_dropWhile (p := fun a => lt a d) (l := setL lt l))
   simp only [List.length_append] at e ⊢
   simp only [List.length_cons, List.length_nil]; omega
theorem compactL_mem {l : List α} : ∀ {y : α}, y ∈ zcp l ↔ y ∈ l := by
 induction l using zgp with
 | nil => simp [zcp]
 | snoc l d ih =>
  intro y
  rw [zgW, zhg]
  split
  ·rename_i h
   rw [ih]
   have : d ∈ zcp l := List.mem_of_getLast? h
   rw [ih] at this
   constructor
   ·intro h; simp [h]
   ·intro h
    rcases List.mem_append.1 h with h | h
    ·exact h
    ·simp at h; subst h; exact this
  ·simp [ih]
theorem compactL_sorted (T : TLt lt) {l : List α} (hs : l.Pairwise fun a b => lt b a = false) : (zcp l).Pairwise fun a b => lt a b = true := by
 induction l using zgp with
 | nil => exact List.Pairwise.nil
 | snoc l d ih =>
  obtain ⟨s1, _, s3⟩ := List.pairwise_append.1 hs
  rw [zgW, zhg]
  split
  ·exact ih s1
  ·rename_i hne
   refine List.pairwise_append.2 ⟨ih s1, by simp, fun a ha b hb => ?_⟩
   simp at hb; subst hb
   have hal : a ∈ l := compactL_mem.1 ha
   have h1 := s3 a hal b (by simp)
   by_cases e : a = b
   ·exfalso
    subst e
    rw [compactL_last] at hne
    cases hL : l.getLast? with
    | none => rw [List.getLast?_eq_none_iff] at hL; subst hL; cases hal
    | some z =>
     rw [hL] at hne
     have hz : z ∈ l := List.mem_of_getLast? hL
     have h2 := s3 z hz a (by simp)
     -- a comes ahead of z, or is it
     have h3 : lt z a = false := by
      obtain ⟨i, hi⟩ := List.mem_iff_getElem?.1 hal
      rw [List.getLast?_eq_getElem?] at hL
      obtain ⟨i1, i2⟩ := List.getElem?_eq_some_iff.1 hi
      obtain ⟨z1, z2⟩ := List.getElem?_eq_some_iff.1 hL
      rcases Nat.lt_or_ge i (l.length - 1) with h | h
      ·have := List.pairwise_iff_getElem.1 s1 i (l.length - 1) i1 z1 h
       rw [i2, z2] at this; exact this
      ·have : i = l.length - 1 := by omega
       subst this
       rw [i2] at z2; subst z2; exact T.irrefl _
     by_cases e2 : z = a
     ·exact hne (by rw [e2])
     ·rcases T.total z a e2 with q | q
      ·rw [q] at h3; cases h3
      ·rw [q] at h2; cases h2
   ·rcases T.total a b e with q | q
    ·exact q
    ·rw [q] at h1; cases h1
theorem setOf_compact (T : TLt lt) {xs ys : List α} (hp : ys.Perm xs) (hs : ys.Pairwise fun a b => lt b a = false) : zcp ys = setL lt xs :=
 strict_eq T (compactL_sorted T hs) (setL_sorted T xs) (fun x => by rw [compactL_mem, setL_mem]; exact hp.mem_iff)
end
theorem sLt_eq (a b : Str) : sLt a b = decide (a < b) := Go.Proofs.bytesLess_eq a b
theorem sLt_T : TLt sLt := by
 refine ⟨fun a => ?_, fun a b c => ?_, fun a b h => ?_⟩
 ·rw [sLt_eq]; simp [List.lt_irrefl]
 ·rw [sLt_eq, sLt_eq, sLt_eq]; simp only [decide_eq_true_eq]; exact fun h1 h2 => List.lt_trans h1 h2
 rw [sLt_eq, sLt_eq]; simp only [decide_eq_true_eq]
 by_cases h1 : a < b
 ·exact .inl h1
 by_cases h2 : b < a
 ·exact .inr h2
 exact absurd (List.le_antisymm (List.not_lt.1 h2) (List.not_lt.1 h1)) h
def headsN (t : Text) (x : Lexicon) : List Head := if zaR t x = 0 then setL headLt (headsL t x) else []
def underP (t : Text) (x : Lexicon) (hd : Head) : List Place := (zfS t).filter fun p => decide (ziv t x p = hd)
def underE (t : Text) (x : Lexicon) (hd : Head) : Int := if zaR t x = 0 then (if zea hd = true then (if underP t x hd = [] then 6 else 0) else 2) else zaR t x
def underR (t : Text) (x : Lexicon) (hd : Head) : List Place := if underE t x hd = 0 then underP t x hd else []
def underN (t : Text) (x : Lexicon) (hd : Head) : List Entry := if underE t x hd = 0 then (zbF t x).filter fun y => !decide (y.head ≠ hd) else []
def formsR (t : Text) (x : Lexicon) (hd : Head) : List Str := if underE t x hd = 0 then setL sLt ((underP t x hd).map (zcs t)) else []
theorem entries_len {t : Text} (ht : zbm t = true) (x : Lexicon) : (zbF t x).length ≤ 600 := by rw [zbF, List.length_map]; exact places_len ht
theorem setOf_sort (l : List Str) : zcp (l.mergeSort fun a b => decide (a ≤ b)) = setL sLt l := by
 refine setOf_compact sLt_T (List.mergeSort_perm _ _) ?_
 have h := List.pairwise_mergeSort (le := fun a b : Str => decide (a ≤ b)) (by intro a b c h1 h2; simp only [decide_eq_true_eq] at *; exact List.le_trans h1 h2) (by intro a b; simp only [Bool.or_eq_true, decide_eq_true_eq]; exact List.le_total a b) l
 refine h.imp fun h => ?_
 rw [sLt_eq]; simp only [decide_eq_true_eq] at h; simpa using h
end Go.Pk

namespace Go.Pk
open Go Go.RowKit
def zdC (es : List Entry) (w : Str) : Option Head := (es.find? fun y => decide (y.word = w)).map (·.head)
def homAt (es : List Entry) (y : Entry) : List Str := match zdC es y.word with
 | some h => if h ≠ y.head then [y.word] else []
 | none => []
def homsN (es : List Entry) : Nat → List Str
 | 0 => []
 | n + 1 => homsN es n ++ (match es[n]? with
  | some y => homAt (es.take n) y
  | none => [])
theorem homsN_succ {es : List Entry} {n : Nat} {y : Entry} (h : es[n]? = some y) : homsN es (n + 1) = homsN es n ++ homAt (es.take n) y := by simp only [homsN, h]
theorem zhI (es : List Entry) : ∀ n, (homsN es n).length ≤ n
 | 0 => by simp [homsN]
 | n + 1 => by
  have ih := zhI es n
  simp only [homsN, List.length_append]
  split
  ·unfold homAt
   split
   ·split <;> simp <;> omega
   ·simp; omega
  ·simp; omega
theorem hdFirst_snoc (es : List Entry) (y : Entry) (w : Str) : zdC (es ++ [y]) w = match zdC es w with
  | some h => some h
  | none => if y.word = w then some y.head else none := by
 unfold zdC
 rw [List.find?_append]
 cases h : es.find? fun y => decide (y.word = w) with
 | some z => simp
 | none =>
  by_cases e : y.word = w <;> simp [e]
theorem hdFirst_put {es : List Entry} {n : Nat} {y : Entry} (h : es[n]? = some y) {m : List (Str × Head)} (hm : ∀ w, look m w = zdC (es.take n) w) (hc : ∀ z, zdC (es.take n) y.word = some z → z = y.head) : ∀ w, look (putM m y.word y.head) w = zdC (es.take (n + 1)) w := by
 intro w
 rw [ziI, zbf h, hdFirst_snoc, hm]
 by_cases e : w = y.word
 ·subst e
  simp only [if_true]
  cases q : zdC (es.take n) y.word with
  | some z => rw [hc z q]
  | none => rfl
 rw [if_neg e]
 cases q : zdC (es.take n) w with
 | some z => rfl
 | none => simp only []; rw [if_neg (fun q => e q.symm)]
theorem hdFirst_keep {es : List Entry} {n : Nat} {y : Entry} (h : es[n]? = some y) {m : List (Str × Head)} (hm : ∀ w, look m w = zdC (es.take n) w) {z : Head} (hc : zdC (es.take n) y.word = some z) : ∀ w, look m w = zdC (es.take (n + 1)) w := by
 intro w
 rw [zbf h, hdFirst_snoc, hm]
 cases q : zdC (es.take n) w with
 | some z => rfl
 | none =>
  simp only []
  by_cases e : y.word = w
  ·subst e; rw [hc] at q; cases q
  ·rw [if_neg e]
def pairAt (es : List Entry) (i j : Nat) : List Str := match es[i]?, es[j]? with
 | some a, some b => if a.word = b.word ∧ a.head ≠ b.head then [a.word] else []
 | _, _ => []
def pairRow (es : List Entry) (i : Nat) : List Str := (List.range i).flatMap (pairAt es i)
def pairsN (es : List Entry) (n : Nat) : List Str := (List.range n).flatMap (pairRow es)
def homR (t : Text) (x : Lexicon) : List Str := if zaR t x = 0 then setL sLt (homsN (zbF t x) (zbF t x).length) else []
def lessX (x : Lexicon) (n : Int) : Lexicon := { x with decisions := x.decisions.filter fun d => decide (d.number ≠ n) }
theorem lexiconB_of {t : Text} {x y : Lexicon} (h : zaR t x = 0) (hr : y.rules = x.rules) (hd : ∀ d ∈ y.decisions, zaj t d = true) (hl : y.decisions.length ≤ 20) (hn : (y.decisions.map (·.number)).Nodup) : zaR t y = 0 := by
 obtain ⟨h1, h2⟩ := zhU h
 have h3 : zcB t y = true := by
  simp only [zcB, Bool.and_eq_true, decide_eq_true_eq, List.all_eq_true] at h2 ⊢
  exact ⟨⟨⟨⟨by rw [hr]; exact h2.1.1.1.1, hl⟩, by rw [hr]; exact h2.1.1.2⟩, hd⟩, hn⟩
 simp [zaR, h1, h3]
theorem lexicon_12 {t : Text} {x : Lexicon} (h : zaR t x = 0) : x.rules.length ≤ 12 := by
 have h1 := (zhU h).2
 simp only [zcB, Bool.and_eq_true, decide_eq_true_eq] at h1
 exact h1.1.1.1.1
def idleB (t : Text) (x : Lexicon) (n : Int) : Bool := decide ((lessX x n).decisions.length < x.decisions.length) && decide (headsL t (lessX x n) = headsL t x)
def natI (k : Nat) : Int := (k : Int) + 1
def idleK (t : Text) (x : Lexicon) (k : Nat) : List Int := ((List.range k).map natI).filter (idleB t x)
def idleR (t : Text) (x : Lexicon) : List Int := idleK t x 999
def idleN (t : Text) (x : Lexicon) : List Int := if zaR t x = 0 then idleR t x else []
def idleP (t : Text) (x : Lexicon) (d : Decision) : Bool := decide (zbF t (lessX x d.number) = zbF t x)
def moreX (x : Lexicon) (d : Decision) : Lexicon := { x with decisions := x.decisions ++ [d] }
def ascD (l : List Decision) : List Decision := l.mergeSort fun a b => decide (a.number ≤ b.number)
def addX (x : Lexicon) (d : Decision) : Lexicon := { x with decisions := ascD (x.decisions ++ [d]) }
def addE (t : Text) (x : Lexicon) (d : Decision) : Int := if zaR t x ≠ 0 then zaR t x else if x.decisions.length = 20 then 9 else if zaR t (moreX x d) ≠ 0 then 41 else 0
def zfa : Lexicon := ⟨[], []⟩
def addN (t : Text) (x : Lexicon) (d : Decision) : Lexicon := if addE t x d = 0 then addX x d else zfa
theorem ascD_perm (l : List Decision) : (ascD l).Perm l := List.mergeSort_perm _ _
theorem ascD_sorted (l : List Decision) : (ascD l).Pairwise fun a b => a.number ≤ b.number := by
 have h := List.pairwise_mergeSort (le := fun a b : Decision => decide (a.number ≤ b.number)) (by intro a b c h1 h2; simp at *; omega) (by intro a b; simp; omega) l
 exact h.imp (fun h => by simpa using h)
theorem ascD_eq {l ys : List Decision} (hp : ys.Perm l) (hs : ys.Pairwise fun a b => a.number ≤ b.number) (hn : (l.map (·.number)).Nodup) : ys = ascD l := by
 refine List.Perm.eq_of_pairwise (le := fun a b : Decision => a.number ≤ b.number) ?_ hs (ascD_sorted l) (hp.trans (ascD_perm l).symm)
 intro a b ha hb h1 h2
 exact nodup_key hn (hp.mem_iff.1 ha) ((ascD_perm l).mem_iff.1 hb) (by omega)
theorem addE_zero {t : Text} {x : Lexicon} {d : Decision} (h : addE t x d = 0) : zaR t x = 0 ∧ ¬ x.decisions.length = 20 ∧ zaR t (moreX x d) = 0 := by
 unfold addE at h
 split at h
 ·rename_i q; exact absurd h q
 rename_i q
 split at h
 ·cases h
 rename_i q2
 split at h
 ·cases h
 rename_i q3
 exact ⟨by simpa using q, q2, by simpa using q3⟩
theorem addX_check {t : Text} {x : Lexicon} {d : Decision} (h : zaR t (moreX x d) = 0) : zaR t (addX x d) = 0 := by
 have hp := ascD_perm (x.decisions ++ [d])
 refine lexiconB_of h rfl (fun e he => lexicon_dec h e (hp.mem_iff.1 he)) ?_ ?_
 ·have := zhV h
  rw [show (addX x d).decisions.length = (moreX x d).decisions.length from hp.length_eq]; exact this
 exact (hp.map _).nodup_iff.2 (zhT h).1
def changesP (t : Text) (x : Lexicon) (d : Decision) : List Place := (zfS t).filter fun p => decide (ziv t (addX x d) p ≠ ziv t x p)
def changesR (t : Text) (x : Lexicon) (d : Decision) : List Place := if addE t x d = 0 then changesP t x d else []
theorem hom_keep {es : List Entry} {n : Nat} {y : Entry} (h : es[n]? = some y) {m : List (Str × Head)} (hm : ∀ w, look m w = zdC (es.take n) w) (h1 : (look m y.word).isSome = true) : ∀ w, look m w = zdC (es.take (n + 1)) w := by
 obtain ⟨z, hz⟩ := Option.isSome_iff_exists.1 h1
 exact hdFirst_keep h hm ((hm _).symm.trans hz)
theorem hom_put {es : List Entry} {n : Nat} {y : Entry} (h : es[n]? = some y) {m : List (Str × Head)} (hm : ∀ w, look m w = zdC (es.take n) w) (h1 : (look m y.word).isSome = true → (look m y.word).getD zdq = y.head) : ∀ w, look (putM m y.word y.head) w = zdC (es.take (n + 1)) w := by
 refine hdFirst_put h hm fun z hz => ?_
 rw [← hm] at hz
 rw [hz] at h1
 exact h1 rfl
theorem homAt_yes {es : List Entry} {y : Entry} {m : List (Str × Head)} (hm : ∀ w, look m w = zdC es w) (h1 : (look m y.word).isSome = true) (h2 : (look m y.word).getD zdq ≠ y.head) : homAt es y = [y.word] := by
 obtain ⟨z, hz⟩ := Option.isSome_iff_exists.1 h1
 rw [hz] at h2
 rw [hm] at hz
 simp only [homAt, hz]
 exact if_pos h2
theorem homAt_no {es : List Entry} {y : Entry} {m : List (Str × Head)} (hm : ∀ w, look m w = zdC es w) (h1 : (look m y.word).isSome = true → (look m y.word).getD zdq = y.head) : homAt es y = [] := by
 unfold homAt
 rw [← hm]
 cases hz : look m y.word with
 | none => rfl
 | some z =>
  rw [hz] at h1
  simp only []
  exact if_neg (fun q => q (h1 rfl))
theorem entries_length (t : Text) (x : Lexicon) : (zbF t x).length = (zfS t).length := by rw [zbF, List.length_map]
theorem addE_bad {t : Text} {x : Lexicon} {d : Decision} (h : ¬ zaR t x = 0) : addE t x d = zaR t x ∧ addN t x d = zfa := by
 have e : addE t x d = zaR t x := if_pos h
 exact ⟨e, by rw [addN, e]; exact if_neg h⟩
theorem addE_full {t : Text} {x : Lexicon} {d : Decision} (h : zaR t x = 0) (h2 : x.decisions.length = 20) : addE t x d = 9 ∧ addN t x d = zfa := by
 have e : addE t x d = 9 := by rw [addE, if_neg (fun q => q h), if_pos h2]
 exact ⟨e, by rw [addN, e]; rfl⟩
theorem addE_err {t : Text} {x : Lexicon} {d : Decision} (h : zaR t x = 0) (h2 : ¬ x.decisions.length = 20) (h3 : ¬ zaR t (moreX x d) = 0) : addE t x d = 41 ∧ addN t x d = zfa := by
 have e : addE t x d = 41 := by rw [addE, if_neg (fun q => q h), if_neg h2, if_pos h3]
 exact ⟨e, by rw [addN, e]; rfl⟩
theorem addE_ok {t : Text} {x : Lexicon} {d : Decision} (h : zaR t x = 0) (h2 : ¬ x.decisions.length = 20) (h3 : zaR t (moreX x d) = 0) : addE t x d = 0 ∧ addN t x d = addX x d := by
 have e : addE t x d = 0 := by rw [addE, if_neg (fun q => q h), if_neg h2, if_neg (fun q => q h3)]
 exact ⟨e, by rw [addN, e]; rfl⟩
end Go.Pk

namespace Go.Pk
open Go Go.RowKit
def insK (ds : List Decision) (i k : Nat) (y : Decision) : List Decision := ds.take k ++ y :: ((ds.take i).drop k ++ ds.drop (i + 1))
def sortedTo (ds : List Decision) (i : Nat) : Prop := (ds.take i).Pairwise fun a b => a.number ≤ b.number
end Go.Pk

namespace Go.Pk
open Go Go.RowKit
def winV (x : Lexicon) (p : Place) (wd : Str) : Decision :=
 if (zaS ((x.decisions.filter (zdr x)).filter fun d => zer d p wd)).number = 0 then { zcw with to := ⟨((zdF x.rules 4 wd).getLast?).getD [], 0⟩ } else zaS ((x.decisions.filter (zdr x)).filter fun d => zer d p wd)
theorem standM_perm (x : Lexicon) : ((zeP x).map (·.2)).Perm (x.decisions.filter (zdr x)) := by
 have : (zeP x).map (·.2) = (zdb x).filter (zdr x) := by simp [zeP, zfE, List.map_map, Function.comp_def]
 rw [this]
 exact (zdH x).filter _
theorem winV_eq {x : Lexicon} (h : OkD x) : winD x = winV x := by
 funext p wd
 have hp : (conD x p wd).Perm ((x.decisions.filter (zdr x)).filter fun d => zer d p wd) := (standM_perm x).filter _
 have e : zaS (conD x p wd) = zaS ((x.decisions.filter (zdr x)).filter fun d => zer d p wd) := by
  refine bestOf_perm hp ?_ ?_
  ·intro y hy
   exact (h.2 _ (List.mem_filter.1 (List.mem_filter.1 hy).1).1).1
  ·exact ((List.filter_sublist.trans List.filter_sublist).map _).nodup h.1
 rw [winD, winV, e]
def headV (t : Text) (x : Lexicon) (p : Place) : Head := (winV x p (zcs t p)).to
theorem headV_eq {t : Text} {x : Lexicon} (h : OkD x) : ziv t x = headV t x := by
 funext p
 rw [ziv, headV, winV_eq h]
def entryV (t : Text) (x : Lexicon) (p : Place) : Entry := ⟨p, zcs t p, headV t x p⟩
def headsV (t : Text) (x : Lexicon) : List Head := (zfS t).map (headV t x)
def entriesV (t : Text) (x : Lexicon) : List Entry := (zfS t).map (entryV t x)
theorem entriesV_eq {t : Text} {x : Lexicon} (h : OkD x) : zbF t x = entriesV t x := by
 rw [zbF, entriesV]
 refine List.map_congr_left fun p _ => ?_
 rw [entryAt, entryV, headV_eq h]
def underV (t : Text) (x : Lexicon) (hd : Head) : List Place := (zfS t).filter fun p => decide (headV t x p = hd)
def homV (t : Text) (x : Lexicon) : List Str := setL sLt (homsN (entriesV t x) (zfS t).length)
theorem homV_eq {t : Text} {x : Lexicon} (h : zaR t x = 0) : homR t x = homV t x := by
 rw [homR, if_pos h, homV, entries_length, entriesV_eq (zhT h)]
def idleV (t : Text) (x : Lexicon) (n : Int) : Bool := decide ((lessX x n).decisions.length < x.decisions.length) && decide (headsV t (lessX x n) = headsV t x)
def changesV (t : Text) (x y : Lexicon) : List Place := (zfS t).filter fun p => decide (headV t y p ≠ headV t x p)
theorem addX_eq {x : Lexicon} {d : Decision} {ys : List Decision} (hp : ys.Perm (x.decisions ++ [d])) (hs : ys.Pairwise fun a b => a.number ≤ b.number) (hn : ((x.decisions ++ [d]).map (·.number)).Nodup) : addX x d = ⟨x.rules, ys⟩ := by
 rw [addX, ← ascD_eq hp hs hn]
def wThe : Str := [116, 104, 101]
def wSea : Str := [115, 101, 97]
def wSee : Str := [115, 101, 101]
def wIs : Str := [105, 115]
def wOld : Str := [111, 108, 100]
def wOlde : Str := [111, 108, 100, 101]
def wAnd : Str := [97, 110, 100]
def wAge : Str := [97, 103, 101]
def zhP : Text := ⟨[⟨7, [[wThe, wSea, wIs, wOld], [wOld, wThe, wSea]]⟩, ⟨3, [[wSea, wAnd, wSea]]⟩]⟩
def rulesE : List Rule := [⟨[115], [], 2⟩, ⟨[108, 100], [108, 100, 101], 1⟩]
def d1E : Decision := ⟨1, 1, wSea, zdE, ⟨wSea, 1⟩, 0⟩
def d2E : Decision := ⟨2, 2, wOld, ⟨0, 1, 0⟩, ⟨wAge, 3⟩, 0⟩
def d3E : Decision := ⟨3, 3, [], ⟨1, 0, 2⟩, ⟨wSee, 2⟩, 0⟩
def d4E : Decision := ⟨4, 1, wSea, zdE, ⟨wSee, 2⟩, 0⟩
def d5E : Decision := ⟨5, 4, [], zdE, zdq, 3⟩
def lexE (more : List Decision) : Lexicon := ⟨rulesE, [d1E, d2E, d3E] ++ more⟩
theorem askR_eq {t : Text} {x : Lexicon} {p : Place} (hx : zaR t x = 0) (hp : zbE t p = true) : askR t x p = winV x p (zcs t p) := by rw [askR, if_pos ⟨hx, hp⟩, winV_eq (zhT hx)]
end Go.Pk

namespace Go.Pk
open Go Go.RowKit
def countV (x : Lexicon) (p : Place) (wd : Str) : List Decision := (x.decisions.filter (zdr x)).filter fun d => zer d p wd
end Go.Pk

namespace Go.Pk
open Go Go.RowKit
def standS (x : Lexicon) : List Int := (standingR x).map (·.number)
def cntQ {α : Type} (q : α → Bool) (l : List α) (i : Nat) : Nat := ((l.take i).filter q).length
end Go.Pk

namespace Go.Pk
open Go Go.RowKit
def voidD (n o : Int) : Decision := ⟨n, 4, [], zdE, zdq, o⟩
section
variable {t : Text} {x : Lexicon} {d : Decision} {most : Int}
end
end Go.Pk

namespace Go.Pk
open Go Go.RowKit
def zRule : Rule := ⟨[], [], 0⟩
def chooseN (l : List Int) (i : Nat) : Int := (l[i % l.length]?).getD 0
theorem tmod_nat {i : Int} {n : Nat} (hi : 0 ≤ i) : i.tmod (n : Int) = ((i.toNat % n : Nat) : Int) := by
 obtain ⟨m, rfl⟩ := Int.eq_ofNat_of_zero_le hi
 rw [Int.tmod_eq_emod_of_nonneg hi, Int.toNat_natCast, Int.natCast_emod]
end Go.Pk

namespace Go.Pk
open Go Go.RowKit
theorem at_word {t : Text} {p : Place} (ht : zbm t = true) : (if zbm t = true then (zgF t p).getD [] else []) = zcs t p := by rw [if_pos ht]; rfl
theorem at_err {t : Text} {p : Place} (ht : zbm t = true) (hp : zbE t p = true) : (if (zbm t && zbE t p) = true then (0 : Int) else if zbm t = true then 12 else 10) = 0 := by rw [if_pos (by rw [ht, hp]; rfl)]
def trM (l : List Int) : List (Int × Bool) := l.map fun n => (n, true)
def wonF (l : List Decision) (n : Int) : Decision := l.foldl (fun a d => if d.number = n then d else a) zcw
theorem any_snoc {α : Type} {q : α → Bool} {l : List α} {k : Nat} {a : α} (h : l[k]? = some a) : (l.take (k + 1)).any q = ((l.take k).any q || q a) := by rw [zbf h, List.any_append]; simp
def someS (x : Lexicon) (p : Place) (wd : Str) (d : Decision) : Bool := decide (d.number ∈ standS x) && zer d p wd
def mostN (l : List Decision) : Int := l.foldl (fun a d => max a d.number) 0
theorem mostN_snoc {l : List Decision} {k : Nat} {d : Decision} (h : l[k]? = some d) : mostN (l.take (k + 1)) = max (mostN (l.take k)) d.number := by rw [mostN, zbf h, List.foldl_append]; rfl
theorem fold_max : ∀ (l : List Decision) (a : Int), a ≤ l.foldl (fun a d => max a d.number) a ∧ ∀ d ∈ l, d.number ≤ l.foldl (fun a d => max a d.number) a
 | [], a => ⟨Int.le_refl _, fun d hd => by cases hd⟩
 | e :: l, a => by
  have ⟨h1, h2⟩ := fold_max l (max a e.number)
  rw [List.foldl_cons]
  refine ⟨by omega, fun d hd => ?_⟩
  rcases List.mem_cons.1 hd with rfl | hd
  ·omega
  ·exact h2 d hd
theorem fold_max_le : ∀ (l : List Decision) (a b : Int), a ≤ b → (∀ d ∈ l, d.number ≤ b) → l.foldl (fun a d => max a d.number) a ≤ b
 | [], a, b, h, _ => h
 | e :: l, a, b, h, h2 => by
  rw [List.foldl_cons]
  exact fold_max_le l _ b (by have := h2 e List.mem_cons_self; omega) fun d hd => h2 d (List.mem_cons_of_mem _ hd)
theorem mostN_pos (l : List Decision) : 0 ≤ mostN l := (fold_max l 0).1
theorem all_snoc {α : Type} {P : α → Prop} {l : List α} {k : Nat} {a : α} (h : ∀ o ∈ l.take k, P o) (ha : l[k]? = some a) (hp : P a) : ∀ o ∈ l.take (k + 1), P o := by
 intro o ho
 rw [zbf ha, List.mem_append] at ho
 rcases ho with ho | ho
 ·exact h o ho
 simp at ho; rw [ho]; exact hp
theorem small_of {t : Text} {x : Lexicon} (h : zaR t x = 0) : zfd x = true := by
 have h1 := (zhU h).2
 simp only [zcB, Bool.and_eq_true, List.all_eq_true, decide_eq_true_eq] at h1
 obtain ⟨⟨⟨⟨a, b⟩, c⟩, d⟩, _⟩ := h1
 simp only [zfd, Bool.and_eq_true, List.all_eq_true, decide_eq_true_eq]
 refine ⟨⟨⟨by omega, by omega⟩, fun r hr => ?_⟩, fun e he => ?_⟩
 ·have q := c r hr
  simp only [zgZ, Bool.and_eq_true, zcH, inB, decide_eq_true_eq] at q
  simp only [smallR, Bool.and_eq_true, decide_eq_true_eq]
  omega
 have q := d e he
 simp only [zaj, Bool.and_eq_true] at q
 have q2 := q.2
 simp only [smallD, Bool.and_eq_true, decide_eq_true_eq]
 split at q2
 ·simp only [Bool.and_eq_true, zea] at q2
  have a := zhL q2.1.1.1; have b := zhL q2.1.2.1; omega
 split at q2
 ·simp only [Bool.and_eq_true, zea] at q2
  have a := zhL q2.1.1.1; have b := zhL q2.1.2.1; omega
 split at q2
 ·simp only [Bool.and_eq_true, zea, decide_eq_true_eq] at q2
  have b := zhL q2.1.2.1
  have a := q2.1.1.1
  rw [a]; simp; omega
 split at q2
 ·simp only [Bool.and_eq_true, decide_eq_true_eq] at q2
  have a := q2.1.1.1; have b := q2.1.2
  rw [a, b]; simp [zdq]
 cases q2
def chQ (t : Text) (x : Lexicon) (d : Decision) (p : Place) : Bool := decide (ziv t (addX x d) p ≠ ziv t x p)
section
variable {t : Text} {x : Lexicon} {d : Decision}
def cdQ (x y : Lexicon) (p : Place) (wd : Str) (o : Decision) : Bool := (decide (o.number ∈ standS x) != decide (o.number ∈ standS y)) && zer o p wd
theorem addN_check (h : addE t x d = 0) : zaR t (addN t x d) = 0 := by
 rw [show addN t x d = addX x d by rw [addN, if_pos h]]
 exact addX_check (addE_zero h).2.2
end
end Go.Pk

namespace Go.Pk
open Go Go.RowKit
def zText : Text := ⟨[]⟩
end Go.Pk

namespace Go.Pk
open Go Go.RowKit
theorem St.setAt {h0 h : Heap} {w0 w : World} {A C : Own} {b : Nat} {o : Obj} (st : St h0 w0 h w (A ++ [(b, o)] :: C)) (o' : Obj) : St h0 w0 h (w.putObj b o') (A ++ [(b, o')] :: C) := by
 have := st.set (k := A.length) (b := b) (o := o) o' (by simp)
 have e : (A ++ [(b, o)] :: C).set A.length [(b, o')] = A ++ [(b, o')] :: C := by
  rw [List.set_append_right _ _ (Nat.le_refl _), Nat.sub_self, List.set_cons_zero]
 rw [e] at this; exact this
theorem St.at {h0 h : Heap} {w0 w : World} {A C : Own} {b : Nat} {o : Obj} (st : St h0 w0 h w (A ++ [(b, o)] :: C)) : w.heap[b]? = some o := st.get (k := A.length) (by simp)
def Yields (P : Program) (l : Nat) (args : Array Value) (w : World) (R : Value → World → Prop) : Prop :=
 ∃ fn tmps assign body, (Instr.yield l args).run P w = .ok (.round l fn tmps assign body) w ∧ RoundIn Fence.wide 0 P l fn tmps assign body w fun e w' => ∃ v, e = .returned v ∧ R v w'
theorem OpsL.yields {P : Program} {n : Nat} {ops : Array Oper} {rest : List Oper} {K : Env → World → Prop} {σ : Env} {w : World} {o : Oper} {x : Operand} {args : Array Operand} {ats : Array TypeId} {l : Nat} {vs : List Value}
  (ho : o.op = .call ⟨.value x, args, ats⟩) (hg : o.guard = none) (hd : zfN n o.dst = true) (hx : ev σ x = .func (.yield l) #[] #[]) (hv : args.toList.map (ev σ) = vs)
  (h : Yields P l vs.toArray w fun v w' => OpsL P n ops rest K (updO σ o.dst v) w') : OpsL P n ops (o :: rest) K σ w := by
 obtain ⟨fn, tmps, assign, body, hr, hR⟩ := h
 refine OpsL.round (l := l) (f := fn) (tmps := tmps) (assign := assign) (body := body) (w' := w) hg hd ?_ hR
 subst hv
 have e : args.map (ev σ) = (args.toList.map (ev σ)).toArray := amap (ev σ) args
 rw [← e] at hr
 unfold execOp
 simp [ho, resolve, hx, invoke, callFunc, hr, go_sem]
theorem St.tl {h0 h : Heap} {w0 w : World} {o : List (Nat × Obj)} {own : Own} (st : St h0 w0 h w (o :: own)) : St h0 w0 h w own := by
 have s := st.drop 0
 rw [List.set_cons_zero] at s
 exact ⟨s.le, s.new, s.sub, s.below, fun p hp => s.mine p (by simpa using hp), by simpa using s.nodup⟩
theorem Yields.mono {P : Program} {l : Nat} {args : Array Value} {w : World} {R R' : Value → World → Prop} (h : Yields P l args w R) (hr : ∀ v w', R v w' → R' v w') : Yields P l args w R' := by
 obtain ⟨fn, tmps, assign, body, hrun, hR⟩ := h
 exact ⟨fn, tmps, assign, body, hrun, RoundIn.mono hR fun e w' ⟨v, he, h⟩ => ⟨v, he, hr v w' h⟩⟩
theorem zeH {P : Program} {n : Nat} {ops : Array Oper} {rest : List Oper} {K : Env → World → Prop} {σ : Env} {w : World} {o : Oper} {x : Operand} {args : Array Operand} {ats : Array TypeId} {l : Nat} {vs : List Value} {h0 h1 : Heap} {w0 : World} {B : Own} {J1 J2 : Heap → Own → Prop}
  (ho : o.op = .call ⟨.value x, args, ats⟩) (hg : o.guard = none) (hd : zfN n o.dst = true) (hx : ev σ x = .func (.yield l) #[] #[]) (hv : args.toList.map (ev σ) = vs)
  (h : Yields P l vs.toArray w fun v w2 => ∃ h2 rest2, Le h1 h2 ∧ St h0 w0 h2 w2 (B ++ rest2) ∧ ((v = .bool true ∧ J1 h2 rest2) ∨ (v = .bool false ∧ J2 h2 rest2)))
  (hk : ∀ b w2 h2 rest2, Le h1 h2 → St h0 w0 h2 w2 (B ++ rest2) → (b = true → J1 h2 rest2) → (b = false → J2 h2 rest2) → OpsL P n ops rest K (updO σ o.dst (.bool b)) w2) : OpsL P n ops (o :: rest) K σ w := by
 refine OpsL.yields ho hg hd hx hv (h.mono ?_)
 rintro v w2 ⟨h2, rest2, le, st, ⟨rfl, hj⟩ | ⟨rfl, hj⟩⟩
 ·exact hk true w2 h2 rest2 le st (fun _ => hj) (fun e => by cases e)
 ·exact hk false w2 h2 rest2 le st (fun e => by cases e) (fun _ => hj)
theorem zcQ {P : Program} {n : Nat} {ops : Array Oper} {rest : List Oper} {K : Env → World → Prop} {σ : Env} {w w0 : World} {h0 h : Heap} {own : Own} {o : Oper} {f : FuncId} {x : Operand} {fs cs : List Value} {args : Array Operand} {ats : Array TypeId} {vs : List Value} {Φ : Heap → World → Value → Prop} (st : St h0 w0 h w own) (ho : o.op = .call ⟨.value x, args, ats⟩) (hx : ev σ x = .func (.func f) fs.toArray cs.toArray) (hg : o.guard = none) (hd : zfN n o.dst = true) (hf : ∀ a w, (callFunc f a).run P w = .ok (.enter f a) w)
  (hv : fs ++ args.toList.map (ev σ) ++ cs = vs) (hc : Calls P f vs.toArray w (Rets h w Φ))
  (hk : ∀ v w' h', Le h h' → St h0 w0 h' w' own → Φ h' w' v → OpsL P n ops rest K (updO σ o.dst v) w') : OpsL P n ops (o :: rest) K σ w := by
 refine zay hg hd (zca ho hx hf hv) (hc.mono ?_)
 rintro e w' ⟨h', v, rfl, s, hΦ⟩
 exact ⟨v, rfl, hk v w' h' s.le (st.call0 s) hΦ⟩
def Gives {α : Type} (P : Program) (gf : FuncId) (caps : List Value) (A : Heap → Value → α → Prop) (S : List α → Prop) (h0 : Heap) (w0 : World) (h : Heap) : Prop :=
 ∀ (l : Nat) (J Jx : List α → Heap → Own → Prop),
  (∀ xs h1 h2 o, J xs h1 o → Le h1 h2 → J xs h2 o) → (∀ xs h1 h2 o, Jx xs h1 o → Le h1 h2 → Jx xs h2 o) →
  (∀ pre x h1 w1 B rest u, Le h h1 → J pre h1 rest → St h0 w0 h1 w1 (B ++ rest) → A h1 u x → Yields P l #[u] w1 fun v w2 => ∃ h2 rest2, Le h1 h2 ∧ St h0 w0 h2 w2 (B ++ rest2) ∧ ((v = .bool true ∧ J (pre ++ [x]) h2 rest2) ∨ (v = .bool false ∧ Jx (pre ++ [x]) h2 rest2))) →
  ∀ h1 w rest, Le h h1 → J [] h1 rest → St h0 w0 h1 w rest →
   Calls P gf (.func (.yield l) #[] #[] :: caps).toArray w fun e w' => ∃ h' rest' v, e = .returned v ∧ Le h1 h' ∧ St h0 w0 h' w' rest' ∧ ((∃ xs, S xs ∧ J xs h' rest') ∨ (∃ pre, Jx pre h' rest'))

structure FitsD (ds : List Deferred) (n : Nat) (a : Act) (σ : Env) : Prop where
 size : a.tmps.size = n
 defers : a.defers = ds
 at_ : ∀ i, a.tmps.getD i undef = σ i
abbrev VS := List Deferred × Env
theorem FitsD.bare {ds : List Deferred} {n : Nat} {a : Act} {σ : Env} (h : FitsD ds n a σ) : Fits n { a with defers := [] } σ := ⟨h.size, rfl, h.at_⟩
theorem FitsD.eval {ds : List Deferred} {n : Nat} {a : Act} {σ : Env} (h : FitsD ds n a σ) : a.eval = ev σ := by
 funext x; cases x <;> simp only [Act.eval, ev]; exact h.at_ _
def V (F : Fence) (P : Program) (n : Nat) (c : Code) (Q : Exit → VS → World → Prop) (s : VS) (w : World) : Prop :=
 ∀ k a, FitsD s.1 n a s.2 → c.wpIn F k P (fun e a' w' => ∃ s' : VS, FitsD s'.1 n a' s'.2 ∧ Q e s' w') a w
def ThenV (K : VS → World → Prop) (Q : Exit → VS → World → Prop) : Exit → VS → World → Prop
 | .normal, σ, w => K σ w
 | e, σ, w => Q e σ w
def BlkV (id : Nat) (Q : Exit → VS → World → Prop) : Exit → VS → World → Prop
 | .exit id', σ, w => if id' = id then Q .normal σ w else Q (.exit id') σ w
 | e, σ, w => Q e σ w
theorem zaU {K : VS → World → Prop} {Q : Exit → VS → World → Prop} {s : VS} {w : World} (h : K s w) : ThenV K Q .normal s w := h
theorem ThenV.exit {K : VS → World → Prop} {Q : Exit → VS → World → Prop} {s : VS} {w : World} {id : Nat} (h : Q (.exit id) s w) : ThenV K Q (.exit id) s w := h
theorem ThenV.ret {K : VS → World → Prop} {Q : Exit → VS → World → Prop} {s : VS} {w : World} (h : Q .ret s w) : ThenV K Q .ret s w := h
theorem zdi {id : Nat} {Q : Exit → VS → World → Prop} {s : VS} {w : World} (h : Q .normal s w) : BlkV id Q .normal s w := h
theorem BlkV.ret {id : Nat} {Q : Exit → VS → World → Prop} {s : VS} {w : World} (h : Q .ret s w) : BlkV id Q .ret s w := h
section
variable {F : Fence} {P : Program} {n : Nat} {Q : Exit → VS → World → Prop} {s : VS} {w : World}
theorem V.skip (h : Q .normal s w) : V F P n .skip Q s w := fun _ _ ha => wpIn_skip ⟨s, ha, h⟩
theorem V.label {l : Nat} (h : Q .normal s w) : V F P n (.label l) Q s w := fun _ _ ha => wpIn_label ⟨s, ha, h⟩
theorem V.exit {id : Nat} (h : Q (.exit id) s w) : V F P n (.exit id) Q s w := fun _ _ ha => wpIn_exit ⟨s, ha, h⟩
theorem V.ret (h : Q .ret s w) : V F P n .ret Q s w := fun _ _ ha => wpIn_ret ⟨s, ha, h⟩
theorem zdl {x y : Code} (h : V F P n x (ThenV (V F P n y Q) Q) s w) : V F P n (.seq x y) Q s w := by
 intro k a ha
 refine wpIn_seq (wpIn_mono (h k a ha) ?_)
 rintro e a' w' ⟨s', hf, q⟩
 cases e <;> first | exact q k a' hf | exact ⟨s', hf, q⟩
theorem zgX {id : Nat} {c : Code} (h : V F P n c (BlkV id Q) s w) : V F P n (.block id c) Q s w := by
 intro k a ha
 refine wpIn_block (wpIn_mono (h k a ha) ?_)
 rintro e a' w' ⟨s', hf, q⟩
 cases e with
 | exit id' =>
  simp only [BlkV] at q
  simp only [Exit.inBlock]
  split
  ·rename_i h; rw [if_pos h] at q; exact ⟨s', hf, q⟩
  ·rename_i h; rw [if_neg h] at q; exact ⟨s', hf, q⟩
 | _ => exact ⟨s', hf, q⟩
theorem V.cond {c : Operand} {x y : Code} {t : Bool} (hc : ev s.2 c = .bool t) (ht : t = true → V F P n x Q s w) (hf : t = false → V F P n y Q s w) : V F P n (.cond c x y) Q s w := by
 intro k a ha
 exact wpIn_cond_split (t := t) (by rw [ha.eval]; exact hc) (fun e => ht e k a ha) (fun e => hf e k a ha)
def noDefer : List Oper → Bool
 | [] => true
 | o :: l => (match o.op with | .defer _ => false | _ => true) && noDefer l
theorem noDefer_one {o : Oper} (h : (match o.op with | .defer _ => false | _ => true) = true) : ∀ c, o.op ≠ .defer c := by
 intro c e; rw [e] at h; cases h
theorem listIn_of {ops : Array Oper} {ds : List Deferred} {q : Exit → Act → World → Prop} {q' : Exit → Act → World → Prop} {r : Option Nat} (hq : ∀ e a1 a2 w, a2.tmps = a1.tmps → a2.defers = a1.defers ++ ds → q e a1 w → q' e a2 w) (hn : ∀ e a w, q e a w → e = .normal) {k : Nat} :
  ∀ (l : List Oper) (a1 a2 : Act) (w : World), noDefer l = true → a2.tmps = a1.tmps → a2.defers = a1.defers ++ ds → wpListIn Fence.wide 0 P ops q l a1 w → wpListIn { Fence.wide with round := r } k P ops q' l a2 w
 | [], a1, a2, w, _, h1, h2, h => hq _ _ _ _ h1 h2 h
 | o :: l, a1, a2, w, hd, h1, h2, h => by
  simp only [noDefer, Bool.and_eq_true] at hd
  have ih := fun a1 a2 w => listIn_of (r := r) (ops := ops) hq hn (k := k) l a1 a2 w hd.2
  have hev : a2.eval = a1.eval := by funext x; cases x <;> simp only [Act.eval, h1]
  unfold wpListIn at h ⊢
  rw [h1]
  have hp1 : ∀ (d : Option Tmp) (v : Value), (a2.put d v).tmps = (a1.put d v).tmps := by
   intro d v; cases d <;> simp [Act.put, h1]
  have hp2 : ∀ (d : Option Tmp) (v : Value), (a2.put d v).defers = (a1.put d v).defers ++ ds := by
   intro d v; cases d <;> simp [Act.put, h2]
  split
  ·rename_i hw
   rw [if_pos hw] at h
   obtain ⟨_, h⟩ := h
   refine ⟨fun _ _ => trivial, ?_⟩
   rw [Oper.semAt_eq _ _ _ (noDefer_one hd.1), hev]
   have h : o.uponIn Fence.wide 0 P a1 _ _ ((execOp a1.eval o).run P w) := h
   cases hr : (execOp a1.eval o).run P w with
   | ok nx w' =>
    rw [hr] at h
    cases nx with
    | value v => exact ih _ _ _ (hp1 _ _) (hp2 _ _) h
    | skip => exact ih _ _ _ (hp1 _ _) (hp2 _ _) h
    | defer d =>
     refine ih _ _ _ ?_ ?_ h
     ·cases o.dst <;> simp [Act.put, h1]
     ·cases o.dst <;> simp [Act.put, h2]
    | enter f args =>
     refine ⟨fun hh => absurd hh (by simp [Fence.wide]), ?_⟩
     have h2' := (callsIn_wide (n := k - 1)).2 (callsIn_wide.1 h.2)
     have h3 : CallsIn { Fence.wide with round := r } (k - 1) P f args w' _ := h2'
     refine CallsIn.mono h3 ?_
     intro e w'' he
     cases e with
     | returned v => exact ih _ _ _ (hp1 _ _) (hp2 _ _) he
     | panicked c => exact absurd (hn _ _ _ he) (by simp)
     | outgrown => obtain ⟨_, _, he⟩ := he; exact absurd (hn _ _ _ he) (by simp)
    | round l f tmps assign body =>
     refine ⟨fun hh => absurd hh (by simp [Fence.wide]), ?_⟩
     have h3 : RoundIn { Fence.wide with round := r } (k - 1) P l f tmps assign body w' _ := ⟨trivial, fun c cs _ => h.2.2 c cs (room_wide _)⟩
     refine RoundIn.mono h3 ?_
     intro e w'' he
     cases e with
     | returned v => exact ih _ _ _ (hp1 _ _) (hp2 _ _) he
     | panicked c => exact absurd (hn _ _ _ he) (by simp)
     | outgrown => obtain ⟨_, _, he⟩ := he; exact absurd (hn _ _ _ he) (by simp)
    | row rw_ args =>
     refine ⟨fun hh => absurd hh (by simp [Fence.wide]), ?_⟩
     have h3 : RowsIn { Fence.wide with round := r } (k - 1) P rw_ args w' _ := fun c cs _ => h.2 c cs (room_wide _)
     refine RowsIn.mono h3 ?_
     intro v w'' he
     exact ih _ _ _ (hp1 _ _) (hp2 _ _) he
    | _ => exact h.elim
   | halt x w' =>
    rw [hr] at h
    cases x with
    | panic v => exact absurd (hn _ _ _ h) (by simp)
    | _ => exact h.elim
  ·rename_i hw
   rw [if_neg hw] at h
   obtain ⟨_, h⟩ := h
   exact ⟨fun _ _ => trivial, ih _ _ _ (hp1 _ _) (hp2 _ _) h⟩
theorem zbo {r : Option Nat} {ds : List Deferred} {σ : Env} {id : Nat} {l : List Oper} (hnd : noDefer l = true) (h : OpsL P n l.toArray l (fun σ w => Q .normal (ds, σ) w) σ w) : V { Fence.wide with round := r } P n (.region id l.toArray false) Q (ds, σ) w := by
 intro k a ha
 refine wpIn_region_lit (listIn_of (ds := ds) ?_ ?_ l { a with defers := [] } a w hnd rfl (by simpa using ha.defers) (h _ ha.bare))
 ·rintro e a1 a2 w h1 h2 ⟨rfl, σ', hf, q⟩
  refine ⟨(ds, σ'), ⟨by rw [h1]; exact hf.size, by rw [h2, hf.defers]; rfl, by rw [h1]; exact hf.at_⟩, q⟩
 rintro e a w ⟨rfl, _⟩; rfl
end
theorem V.mono {F : Fence} {P : Program} {n : Nat} {Q Q' : Exit → VS → World → Prop} {s : VS} {w : World} {c : Code} (h : V F P n c Q s w) (hq : ∀ e s w, Q e s w → Q' e s w) : V F P n c Q' s w :=
 fun k a ha => wpIn_mono (h k a ha) fun _ _ _ ⟨s', hf, q⟩ => ⟨s', hf, hq _ _ _ q⟩
theorem V.ofW {P : Program} {n : Nat} {c : Code} {Q : Exit → VS → World → Prop} {σ : Env} {w : World} (h : W P n c (fun e σ' w' => Q e ([], σ') w') σ w) : V Fence.wide P n c Q ([], σ) w := by
 intro k a ha
 have hf : Fits n a σ := ⟨ha.size, ha.defers, ha.at_⟩
 refine (wpIn_wide (n := k)).2 (Code.wp_mono ?_ (h a hf))
 rintro e a' w' ⟨σ', hf', q⟩
 exact ⟨([], σ'), ⟨hf'.size, hf'.defers, hf'.at_⟩, q⟩
def RPost {α : Type} (I : List α → Heap → Own → Prop) (Ix : Code → List α → Heap → Own → Prop) (h0 : Heap) (w0 : World) (h2 : Heap) (xs : List α) (tail : Own) : Exit → VS → World → Prop := fun e _ w4 =>
 ∃ h3 own3, Le h2 h3 ∧ St h0 w0 h3 w4 (own3 ++ tail) ∧ (match e with
  | .normal => I xs h3 own3
  | .ret => Ix .ret xs h3 own3
  | .exit id => Ix (.exit id) xs h3 own3
  | .goto t => Ix (.goto t) xs h3 own3
  | _ => False)
def APost {α : Type} (F : Fence) (P : Program) (n : Nat) (body : Code) (I : List α → Heap → Own → Prop) (Ix : Code → List α → Heap → Own → Prop) (h0 : Heap) (w0 : World) (h1 : Heap) (xs : List α) (tail : Own) : Exit → VS → World → Prop := fun e s w2 =>
 e = .normal ∧ ∃ h2 own2, Le h1 h2 ∧ St h0 w0 h2 w2 (own2 ++ tail) ∧ ∀ tail' w3, St h0 w0 h2 w3 (own2 ++ tail') → V F P n body (RPost I Ix h0 w0 h2 xs tail') s w3
theorem APost.mk {α : Type} {F : Fence} {P : Program} {n : Nat} {body : Code} {I : List α → Heap → Own → Prop} {Ix : Code → List α → Heap → Own → Prop} {h0 h1 h2 : Heap} {w0 : World} {xs : List α} {own2 tail : Own} {s : VS} {w2 : World} (le : Le h1 h2) (st : St h0 w0 h2 w2 (own2 ++ tail))
  (hb : ∀ tail' w3, St h0 w0 h2 w3 (own2 ++ tail') → V F P n body (RPost I Ix h0 w0 h2 xs tail') s w3) : APost F P n body I Ix h0 w0 h1 xs tail .normal s w2 := ⟨rfl, h2, own2, le, st, hb⟩
theorem zdZ {α : Type} {I : List α → Heap → Own → Prop} {Ix : Code → List α → Heap → Own → Prop} {h0 h2 h3 : Heap} {w0 : World} {xs : List α} {own3 tail : Own} {s : VS} {w4 : World} (le : Le h2 h3) (st : St h0 w0 h3 w4 (own3 ++ tail)) (hI : I xs h3 own3) : RPost I Ix h0 w0 h2 xs tail .normal s w4 := ⟨h3, own3, le, st, hI⟩
theorem RPost.exit {α : Type} {I : List α → Heap → Own → Prop} {Ix : Code → List α → Heap → Own → Prop} {h0 h2 h3 : Heap} {w0 : World} {xs : List α} {own3 tail : Own} {s : VS} {w4 : World} {id : Nat} (le : Le h2 h3) (st : St h0 w0 h3 w4 (own3 ++ tail)) (hI : Ix (.exit id) xs h3 own3) : RPost I Ix h0 w0 h2 xs tail (.exit id) s w4 := ⟨h3, own3, le, st, hI⟩
theorem perm_end {α : Type} (A B C : List α) : (B ++ (A ++ C)).Perm (A ++ (C ++ B)) := by
 rw [← List.append_assoc A C B]; exact List.perm_append_comm
def GivesG {α : Type} (P : Program) (gf : FuncId) (caps : List Value) (A : List α → Heap → List Value → α → Prop) (S : List α → Prop) (h0 : Heap) (w0 : World) (h : Heap) : Prop :=
 ∀ (l : Nat) (J Jx : List α → Heap → Own → Prop),
  (∀ xs h1 h2 o, J xs h1 o → Le h1 h2 → J xs h2 o) → (∀ xs h1 h2 o, Jx xs h1 o → Le h1 h2 → Jx xs h2 o) →
  (∀ pre x h1 w1 B rest us, Le h h1 → J pre h1 rest → St h0 w0 h1 w1 (B ++ rest) → A pre h1 us x → Yields P l us.toArray w1 fun v w2 => ∃ h2 rest2, Le h1 h2 ∧ St h0 w0 h2 w2 (B ++ rest2) ∧ ((v = .bool true ∧ J (pre ++ [x]) h2 rest2) ∨ (v = .bool false ∧ Jx (pre ++ [x]) h2 rest2))) →
  ∀ h1 w rest, Le h h1 → J [] h1 rest → St h0 w0 h1 w rest →
   Calls P gf (.func (.yield l) #[] #[] :: caps).toArray w fun e w' => ∃ h' rest' v, e = .returned v ∧ Le h1 h' ∧ St h0 w0 h' w' rest' ∧ ((∃ xs, S xs ∧ J xs h' rest') ∨ (∃ pre, Jx pre h' rest'))
theorem V.rangeFuncG {α : Type} {P : Program} {n : Nat} {Q : Exit → VS → World → Prop} {A : List α → Heap → List Value → α → Prop} {g : Operand} {ps : Array Tmp} {up : List Value → Env} {assign body : Code} {σ : Env} {w : World} {gf : FuncId} {caps : List Value} {S : List α → Prop} {h0 h : Heap} {w0 : World} {own : Own}
  (st : St h0 w0 h w own) (hg : ev σ g = .func (.func gf) #[] caps.toArray) (eg : ∀ a w, (callFunc gf a).run P w = .ok (.enter gf a) w) (hput : ∀ (a : Act) pre us h x, FitsD [] n a σ → A pre h us x → FitsD [] n ({ tmps := (ps.zip us.toArray).foldl (fun tmps (x : Nat × Value) => tmps.setIfInBounds x.1 x.2) a.tmps, defers := [] } : Act) (up us)) (hsz : ∀ pre us h x, A pre h us x → us.toArray.size = ps.size)
  (seq : GivesG P gf caps A S h0 w0 h) (I : List α → Heap → Own → Prop) (Ix : Code → List α → Heap → Own → Prop)
  (hI : ∀ xs h1 h2 o, I xs h1 o → Le h1 h2 → I xs h2 o) (hIx : ∀ c xs h1 h2 o, Ix c xs h1 o → Le h1 h2 → Ix c xs h2 o) (h00 : I [] h own)
  (hround : ∀ (l : Nat) pre x h1 w1 own1 tail us, Le h h1 → I pre h1 own1 → St h0 w0 h1 w1 (own1 ++ tail) → A pre h1 us x →
   V { Fence.wide with round := some l } P n assign (APost { Fence.wide with round := some l } P n body I Ix h0 w0 h1 (pre ++ [x]) tail) ([], up us) w1)
  (hdone : ∀ D xs h' w' own', Le h h' → S xs → I xs h' own' → St h0 w0 h' w' (own' ++ [[(D, .deferred (some []))]]) → Q .normal ([{ target := .collected D, args := #[] }], σ) w')
  (hstop : ∀ D c pre h' w' own', Le h h' → Ix c pre h' own' → St h0 w0 h' w' (own' ++ [[(D, .deferred (some []))]]) → V Fence.wide P n c Q ([{ target := .collected D, args := #[] }], σ) w') :
  V Fence.wide P n (.rangeFunc g ps assign body) Q ([], σ) w := by
 intro k a ha
 refine wpIn_rangeFunc ?_
 intro fn _
 obtain ⟨D, hD⟩ : ∃ D, D = w.heap.size := ⟨_, rfl⟩
 obtain ⟨l, hl⟩ : ∃ l, l = w.heap.size + 1 := ⟨_, rfl⟩
 obtain ⟨rec, hrec⟩ : ∃ rec : LoopState → Option Code → Loop, rec = fun st pe => { state := st, pending := pe, fn, tmps := a.tmps, params := ps, assign, body, defers := D } := ⟨_, rfl⟩
 have st1 := (st.alloc (.deferred (some []))).alloc (.loop (rec .ready none))
 have hsz' : (w.alloc (.deferred (some []))).heap.size = l := by rw [hl]; simp
 rw [hsz', ← hD] at st1
 have hxa : a.eval = ev σ := ha.eval
 obtain ⟨w1, ew1⟩ : ∃ w1, w1 = (w.alloc (.deferred (some []))).alloc (.loop (rec .ready none)) := ⟨_, rfl⟩
 rw [← ew1] at st1
 have e1 : (Instr.enterLoop fn a.tmps ps assign body none).run P w = .ok (l, [({ target := .collected D, args := #[] } : Deferred)]) w1 := by
  rw [ew1, hrec, hl, hD]; exact run_enterLoop_outer _ _ _ _ _
 refine ⟨l, [({ target := .collected D, args := #[] } : Deferred)], w1, ({ target := .fn (.func gf) caps.toArray, args := #[.func (.yield l) #[] #[]] } : Deferred), w1, gf, #[.func (.yield l) #[] #[]] ++ caps.toArray, w1, ?_, ?_, fun _ _ => trivial, ?_, fun hh => absurd hh (by simp [Fence.wide]), ?_⟩
 ·exact e1
 ·simp only [resolve, hxa, hg]
  simp [go_sem, rangeCall, ev]
 ·simp [invoke, go_sem, eg]
 ·
  have con := seq l (fun pre h1 rest => ∃ own1, I pre h1 own1 ∧ rest = own1 ++ [[(D, .deferred (some []))], [(l, .loop (rec .ready none))]])
   (fun pre h1 rest => ∃ own1 c, Ix c pre h1 own1 ∧ rest = own1 ++ [[(D, .deferred (some []))], [(l, .loop (rec .done (some c)))]])
   (by rintro xs h1 h2 o ⟨own1, hi, rfl⟩ le; exact ⟨own1, hI _ _ _ _ hi le, rfl⟩) (by rintro xs h1 h2 o ⟨own1, c, hi, rfl⟩ le; exact ⟨own1, c, hIx _ _ _ _ _ hi le, rfl⟩) ?_ h _ _ (Le.refl h) ⟨own, h00, rfl⟩ (by simpa using st1)
  ·refine (callsIn_wide.2 ?_)
   have e0 : (.func (.yield l) #[] #[] :: caps : List Value).toArray = #[.func (.yield l) #[] #[]] ++ caps.toArray := by simp
   rw [e0] at con
   refine con.mono ?_
   rintro e w2 ⟨h', rest', v, rfl, le, st2, hout⟩
   have tk : ∀ {own1 : Own} {r : Loop}, St h0 w0 h' w2 (own1 ++ [[(D, .deferred (some []))], [(l, .loop r)]]) → ∀ o', St h0 w0 h' (w2.putObj l o') (own1 ++ [[(D, .deferred (some []))]]) := by
    intro own1 r s o'
    have s2 : St h0 w0 h' w2 ((own1 ++ [[(D, .deferred (some []))]]) ++ [(l, .loop r)] :: []) := by simpa using s
    have s3 := (s2.setAt o').take (own1 ++ [[(D, Obj.deferred (some []))]]).length
    rwa [List.take_left'] at s3
    rfl
   rcases hout with ⟨xs, hS, own1, hi, rfl⟩ | ⟨pre, own1, c, hi, rfl⟩
   ·have hlr : w2.heap[l]? = some (.loop (rec .ready none)) := St.at (A := own1 ++ [[(D, .deferred (some []))]]) (C := []) (by simpa using st2)
    have hend := run_endLoop (P := P) hlr (by rw [hrec]; simp)
    rw [hrec] at hend
    refine ⟨none, _, hend, ⟨([{ target := .collected D, args := #[] }], σ), ⟨ha.size, by simp [ha.defers], ha.at_⟩, hdone D xs h' _ own1 le hS hi (tk st2 _)⟩⟩
   ·have hlr : w2.heap[l]? = some (.loop (rec .done (some c))) := St.at (A := own1 ++ [[(D, .deferred (some []))]]) (C := []) (by simpa using st2)
    have hend := run_endLoop (P := P) hlr (by rw [hrec]; simp)
    rw [hrec] at hend
    refine ⟨some c, _, hend, ?_⟩
    exact hstop D c pre h' _ own1 le hi (tk st2 _) k _ ⟨ha.size, by simp [ha.defers], ha.at_⟩
  ·rintro pre x h1 w1 B rest us le ⟨own1, hi, rfl⟩ s1 hA
   have hlr : w1.heap[l]? = some (.loop (rec .ready none)) := St.at (A := B ++ (own1 ++ [[(D, .deferred (some []))]])) (C := []) (by simpa using s1)
   have hy := run_yield (P := P) (args := us.toArray) hlr (by rw [hrec]; exact hsz pre us h1 x hA)
   rw [hrec] at hy
   refine ⟨fn, _, assign, body, hy, roundIn_of_wpIn trivial ?_⟩
   -- the caller's entries first
   have s2 : St h0 w0 h1 w1 (own1 ++ ([[(D, .deferred (some []))], [(l, .loop (rec .ready none))]] ++ B)) := s1.perm (perm_end own1 B _)
   have hfit := hput { tmps := a.tmps, defers := [] } pre us h1 x ⟨ha.size, rfl, ha.at_⟩ hA
   have hr := hround l pre x h1 w1 own1 _ us le hi s2 hA 0 _ hfit
   refine wpIn_mono hr ?_
   rintro e a2 w2 ⟨s', hf2, rfl, h2, own2, le2, s3, hbody⟩
   have s3' : St h0 w0 h2 w2 ((own2 ++ [[(D, .deferred (some []))]]) ++ [(l, .loop (rec .ready none))] :: B) := by simpa using s3
   have hl2 := s3'.at
   have hbr := run_beginRound (P := P) hl2 (by rw [hrec])
   refine ⟨_, hbr, ?_⟩
   have s4 := s3'.setAt (.loop { rec .ready none with state := .busy })
   have s4' := s4
   rw [show (own2 ++ [[(D, .deferred (some []))]]) ++ [(l, .loop { rec .ready none with state := .busy })] :: B = own2 ++ ([[(D, .deferred (some []))], [(l, .loop { rec .ready none with state := .busy })]] ++ B) by simp] at s4'
   refine wpIn_mono (hbody _ _ s4' 0 a2 hf2) ?_
   have fin : ∀ (jump : Option Code) (h3 : Heap) (own3 : Own) (w4 : World), St h0 w0 h3 w4 (own3 ++ ([[(D, .deferred (some []))], [(l, .loop { rec .ready none with state := .busy })]] ++ B)) →
     ∃ w5, (Instr.endRound l jump).run P w4 = .ok (.bool jump.isNone) w5 ∧ St h0 w0 h3 w5 (B ++ (own3 ++ [[(D, .deferred (some []))], [(l, .loop (rec (if jump.isNone then .ready else .done) jump))]])) := by
    intro jump h3 own3 w4 s5
    have s5' : St h0 w0 h3 w4 ((own3 ++ [[(D, .deferred (some []))]]) ++ [(l, .loop { rec .ready none with state := .busy })] :: B) := by simpa using s5
    refine ⟨_, run_endRound (P := P) jump s5'.at, ?_⟩
    have s6 := s5'.setAt (.loop (rec (if jump.isNone then .ready else .done) jump))
    rw [show (own3 ++ [[(D, .deferred (some []))]]) ++ [(l, .loop (rec (if jump.isNone then .ready else .done) jump))] :: B = own3 ++ ([[(D, .deferred (some []))], [(l, .loop (rec (if jump.isNone then .ready else .done) jump))]] ++ B) by simp] at s6
    have s7 := s6.perm (perm_end own3 B _).symm
    rw [hrec] at s7 ⊢
    exact s7
   rintro e a4 w4 ⟨s'', hf4, h3, own3, le3, s5, hm⟩
   cases e with
   | normal =>
    obtain ⟨w5, hr5, s6⟩ := fin none h3 own3 w4 s5
    exact ⟨_, w5, hr5, _, rfl, h3, _, le2.trans le3, s6, .inl ⟨rfl, own3, hm, rfl⟩⟩
   | ret =>
    obtain ⟨w5, hr5, s6⟩ := fin (some .ret) h3 own3 w4 s5
    exact ⟨_, w5, hr5, _, rfl, h3, _, le2.trans le3, s6, .inr ⟨rfl, own3, .ret, hm, rfl⟩⟩
   | exit id =>
    obtain ⟨w5, hr5, s6⟩ := fin (some (.exit id)) h3 own3 w4 s5
    exact ⟨_, w5, hr5, _, rfl, h3, _, le2.trans le3, s6, .inr ⟨rfl, own3, .exit id, hm, rfl⟩⟩
   | goto t =>
    obtain ⟨w5, hr5, s6⟩ := fin (some (.goto t)) h3 own3 w4 s5
    exact ⟨_, w5, hr5, _, rfl, h3, _, le2.trans le3, s6, .inr ⟨rfl, own3, .goto t, hm, rfl⟩⟩
   | panic ch => exact hm.elim
   | outgrown => exact hm.elim
theorem V.rangeFunc {α : Type} {P : Program} {n : Nat} {Q : Exit → VS → World → Prop} {A : Heap → Value → α → Prop} {g : Operand} {p : Tmp} {assign body : Code} {σ : Env} {w : World} {gf : FuncId} {caps : List Value} {S : List α → Prop} {h0 h : Heap} {w0 : World} {own : Own}
  (st : St h0 w0 h w own) (hg : ev σ g = .func (.func gf) #[] caps.toArray) (eg : ∀ a w, (callFunc gf a).run P w = .ok (.enter gf a) w) (hp : Nat.blt p n = true)
  (seq : Gives P gf caps A S h0 w0 h) (I : List α → Heap → Own → Prop) (Ix : Code → List α → Heap → Own → Prop)
  (hI : ∀ xs h1 h2 o, I xs h1 o → Le h1 h2 → I xs h2 o) (hIx : ∀ c xs h1 h2 o, Ix c xs h1 o → Le h1 h2 → Ix c xs h2 o) (h00 : I [] h own)
  (hround : ∀ (l : Nat) pre x h1 w1 own1 tail u, Le h h1 → I pre h1 own1 → St h0 w0 h1 w1 (own1 ++ tail) → A h1 u x →
   V { Fence.wide with round := some l } P n assign (APost { Fence.wide with round := some l } P n body I Ix h0 w0 h1 (pre ++ [x]) tail) ([], upd σ p u) w1)
  (hdone : ∀ D xs h' w' own', Le h h' → S xs → I xs h' own' → St h0 w0 h' w' (own' ++ [[(D, .deferred (some []))]]) → Q .normal ([{ target := .collected D, args := #[] }], σ) w')
  (hstop : ∀ D c pre h' w' own', Le h h' → Ix c pre h' own' → St h0 w0 h' w' (own' ++ [[(D, .deferred (some []))]]) → V Fence.wide P n c Q ([{ target := .collected D, args := #[] }], σ) w') :
  V Fence.wide P n (.rangeFunc g #[p] assign body) Q ([], σ) w := by
 refine V.rangeFuncG (A := fun _ h us x => ∃ u, us = [u] ∧ A h u x) (up := fun us => upd σ p (us.headD undef)) st hg eg ?_ (by rintro _ _ _ _ ⟨u, rfl, _⟩; rfl) ?_ I Ix hI hIx h00 ?_ hdone hstop
 ·rintro a pre us h x hf ⟨u, rfl, _⟩
  have h2 := hf.bare.put (d := some p) (by exact hp) u
  have e1 : (#[p].zip [u].toArray).foldl (fun tmps (x : Nat × Value) => tmps.setIfInBounds x.1 x.2) a.tmps = a.tmps.setIfInBounds p u := by simp
  show FitsD [] n ({ tmps := (#[p].zip [u].toArray).foldl (fun tmps (x : Nat × Value) => tmps.setIfInBounds x.1 x.2) a.tmps, defers := [] } : Act) (upd σ p u)
  rw [e1]; exact ⟨h2.size, rfl, h2.at_⟩
 ·intro l J Jx hm hxm hY
  exact seq l J Jx hm hxm fun pre x h1 w1 B rest u a b c d => hY pre x h1 w1 B rest [u] a b c ⟨u, rfl, d⟩
 ·rintro l pre x h1 w1 own1 tail us a b c ⟨u, rfl, d⟩
  exact hround l pre x h1 w1 own1 tail u a b c d
def Taken (P : Program) : List Deferred → World → (World → Prop) → Prop
 | [], w, K => K w
 | d :: ds, w, K => ∃ D, d.target = .collected D ∧ w.heap[D]? = some (.deferred (some [])) ∧ Taken P ds (w.putObj D (.deferred none)) K
def PostV (fn : Func) (P : Program) (R : Ending → World → Prop) : Exit → VS → World → Prop
 | .normal, s, w | .ret, s, w => Taken P s.1 w fun w' => Post fn P R .ret s.2 w'
 | _, _, _ => False
theorem V.calls {P : Program} {f : FuncId} {fn : Func} {c : Code} {n : Nat} {args : List Value} {w : World} {R : Ending → World → Prop}
  (hf : P.funcs[f]? = some fn) (hb : fn.body = some c) (hn : fn.ntmps = n) (hl : Nat.ble args.length n = true)
  (h : V Fence.wide P n c (PostV fn P R) ([], start args) w) : Calls P f args.toArray w R := by
 have hl' : args.length ≤ n := by simpa using hl
 refine (callsIn_wide (n := 0)).1 (callsIn_of_wp_marks hf hb trivial ?_)
 have hfit : FitsD [] n { tmps := args.toArray ++ Array.replicate (fn.ntmps - args.toArray.size) undef, defers := [] } (start args) := by
  refine ⟨by simp [hn]; omega, rfl, fun i => ?_⟩
  rw [← start_eq]
  simp only [Array.getD_eq_getD_getElem?, List.getD_eq_getElem?_getD]
  by_cases hi : i < args.length
  ·rw [Array.getElem?_append_left (by simpa using hi)]; simp
  ·rw [Array.getElem?_append_right (by simpa using hi), List.getElem?_eq_none (by omega)]
   by_cases hj : i - args.toArray.size < fn.ntmps - args.toArray.size
   ·rw [Array.getElem?_replicate, if_pos hj]; rfl
   ·rw [Array.getElem?_replicate, if_neg hj]
 have key : ∀ (ds : List Deferred) (w : World) (tmps : Array Value) (σ : Env), (∀ i, tmps.getD i undef = σ i) → Taken P ds w (fun w' => Post fn P R .ret σ w') → LeavesInM Fence.wide 0 P fn tmps R ds .returning w := by
  intro ds
  induction ds with
  | nil =>
   intro w tmps σ ht h
   exact h tmps ht
  | cons d ds ih =>
   intro w tmps σ ht h
   obtain ⟨D, hd, hD, h⟩ := h
   exact ⟨by simp, .inl ⟨D, _, hd, run_takeDeferred hD, ih _ _ _ ht h⟩⟩
 refine wpIn_mono (h 0 _ hfit) ?_
 rintro e a' w' ⟨s', hf', hq⟩
 cases e with
 | normal => show LeavesInM _ _ _ _ _ _ a'.defers _ _; rw [hf'.defers]; exact key _ _ _ _ hf'.at_ hq
 | ret => show LeavesInM _ _ _ _ _ _ a'.defers _ _; rw [hf'.defers]; exact key _ _ _ _ hf'.at_ hq
 | exit id => exact hq.elim
 | goto l => exact hq.elim
 | panic ch => exact hq.elim
 | outgrown => exact hq.elim
theorem PostV.zero {fn : Func} {P : Program} {R : Ending → World → Prop} {σ : Env} {w : World} (h : Post fn P R .ret σ w) : PostV fn P R .ret ([], σ) w := h
theorem zhJ {fn : Func} {P : Program} {R : Ending → World → Prop} {σ : Env} {w w0 : World} {h0 h : Heap} {own : Own} {D : Nat} (st : St h0 w0 h w (own ++ [[(D, .deferred (some []))]])) (hk : ∀ w', St h0 w0 h w' own → Post fn P R .ret σ w') : PostV fn P R .ret ([{ target := .collected D, args := #[] }], σ) w := by
 have s2 : St h0 w0 h w (own ++ [(D, .deferred (some []))] :: []) := st
 refine ⟨D, rfl, s2.at, hk _ ?_⟩
 have s3 := (s2.setAt (.deferred none)).take own.length
 rwa [List.take_left'] at s3
 rfl
end Go.Pk

namespace Go.Pk
open Go Go.RowKit
theorem St.mid {h0 h : Heap} {w0 w : World} {A rest : Own} {o : List (Nat × Obj)} (st : St h0 w0 h w ((A ++ rest) ++ [o])) : St h0 w0 h w (A ++ o :: rest) := by
 refine st.perm ?_
 rw [List.append_assoc]
 exact (List.perm_append_comm (l₁ := rest) (l₂ := [o])).append_left A
theorem St.over {h0 h h' : Heap} {w0 w w' : World} {own rest : Own} (a : St h0 w0 h w rest) (b : St h w h' w' own) : St h0 w0 h' w' rest := a.call0 (b.take 0)
theorem St.keep {h0 h h' : Heap} {w0 w w' : World} {own rest : Own} (a : St h0 w0 h w rest) (b : St h w h' w' own) : St h0 w0 h' w' (own ++ rest) := (a.call b).perm List.perm_append_comm
def GivesA {α : Type} (P : Program) (gf : FuncId) (caps : List Value) (A : List α → Heap → Value → α → Prop) (S : List α → Prop) (h : Heap) : Prop :=
 ∀ h0 w0 h', Le h h' → GivesG P gf caps (fun pre h us x => ∃ u, us = [u] ∧ A pre h u x) S h0 w0 h'
theorem GivesA.up {α : Type} {P : Program} {gf : FuncId} {caps : List Value} {A : List α → Heap → Value → α → Prop} {S : List α → Prop} {h h' : Heap} (g : GivesA P gf caps A S h) (le : Le h h') : GivesA P gf caps A S h' :=
 fun h0 w0 h1 l1 => g h0 w0 h1 (le.trans l1)
theorem zhE {α : Type} {P : Program} {n : Nat} {Q : Exit → VS → World → Prop} {A : List α → Heap → Value → α → Prop} {g : Operand} {p : Tmp} {assign body : Code} {σ : Env} {w : World} {gf : FuncId} {caps : List Value} {S : List α → Prop} {h0 h : Heap} {w0 : World} {own : Own}
  (st : St h0 w0 h w own) (hg : ev σ g = .func (.func gf) #[] caps.toArray) (eg : ∀ a w, (callFunc gf a).run P w = .ok (.enter gf a) w) (hp : Nat.blt p n = true)
  (seq : GivesG P gf caps (fun pre h us x => ∃ u, us = [u] ∧ A pre h u x) S h0 w0 h) (I : List α → Heap → Own → Prop) (Ix : Code → List α → Heap → Own → Prop)
  (hI : ∀ xs h1 h2 o, I xs h1 o → Le h1 h2 → I xs h2 o) (hIx : ∀ c xs h1 h2 o, Ix c xs h1 o → Le h1 h2 → Ix c xs h2 o) (h00 : I [] h own)
  (hround : ∀ (l : Nat) pre x h1 w1 own1 tail u, Le h h1 → I pre h1 own1 → St h0 w0 h1 w1 (own1 ++ tail) → A pre h1 u x →
   V { Fence.wide with round := some l } P n assign (APost { Fence.wide with round := some l } P n body I Ix h0 w0 h1 (pre ++ [x]) tail) ([], upd σ p u) w1)
  (hdone : ∀ D xs h' w' own', Le h h' → S xs → I xs h' own' → St h0 w0 h' w' (own' ++ [[(D, .deferred (some []))]]) → Q .normal ([{ target := .collected D, args := #[] }], σ) w')
  (hstop : ∀ D c pre h' w' own', Le h h' → Ix c pre h' own' → St h0 w0 h' w' (own' ++ [[(D, .deferred (some []))]]) → V Fence.wide P n c Q ([{ target := .collected D, args := #[] }], σ) w') :
  V Fence.wide P n (.rangeFunc g #[p] assign body) Q ([], σ) w := by
 refine V.rangeFuncG (up := fun us => upd σ p (us.headD undef)) st hg eg ?_ (by rintro _ _ _ _ ⟨u, rfl, _⟩; rfl) seq I Ix hI hIx h00 ?_ hdone hstop
 ·rintro a pre us h x hf ⟨u, rfl, _⟩
  have h2 := hf.bare.put (d := some p) (by exact hp) u
  have e1 : (#[p].zip [u].toArray).foldl (fun tmps (x : Nat × Value) => tmps.setIfInBounds x.1 x.2) a.tmps = a.tmps.setIfInBounds p u := by simp
  show FitsD [] n ({ tmps := (#[p].zip [u].toArray).foldl (fun tmps (x : Nat × Value) => tmps.setIfInBounds x.1 x.2) a.tmps, defers := [] } : Act) (upd σ p u)
  rw [e1]; exact ⟨h2.size, rfl, h2.at_⟩
 ·rintro l pre x h1 w1 own1 tail us a b c ⟨u, rfl, d⟩
  exact hround l pre x h1 w1 own1 tail u a b c d
end Go.Pk

namespace Go.Pk
open Go Go.RowKit
def zhF : Question := ⟨zdE, []⟩
def zVoter : Voter := ⟨0, 0, []⟩
def zSpan : Span := ⟨0, 0⟩
def zcY (hs : List Head) (k : Nat) : Bool := match hs[k]? with | some h => zea h && (decide (k = 0) || headLt ((hs[k - 1]?).getD zdq) h) | none => true
def headsOk (hs : List Head) : Bool := (List.range hs.length).all (zcY hs)
def zdN (p : Poll) (i : Nat) : Bool := match p.questions[i]? with
 | some q => zbE p.text q.at_ && (decide (i = 0) || zeh ((p.questions[i - 1]?).getD zhF).at_ q.at_) && inB q.heads.length 2 3 && headsOk q.heads
 | none => true
def zeU (p : Poll) (v : Voter) (k : Nat) : Bool := match v.votes[k]?, p.questions[k]? with | some n, some q => inB n (-1) ((q.heads.length : Int) - 1) | _, _ => true
def zhy (p : Poll) (v : Voter) : Bool := (List.range v.votes.length).all (zeU p v)
def zfp (p : Poll) (v : Voter) : Bool := inB v.id 0 9999 && inB v.wrong 0 6 && decide (v.votes.length = p.questions.length) && zhy p v
def zdM (p : Poll) (i : Nat) : Bool := match p.voters[i]? with | some v => zfp p v && (p.voters.take i).all fun u => decide (u.id ≠ v.id) | none => true
def zcJ (p : Poll) : Bool := decide (p.questions.length ≤ 6) && decide (p.voters.length ≤ 6) && (List.range p.questions.length).all (zdN p) && (List.range p.voters.length).all (zdM p)
def zbM (p : Poll) : Int := if zaR p.text p.lexicon ≠ 0 then zaR p.text p.lexicon else if zcJ p = true then 0 else 70
def zfo (v : Voter) (hs : List Int) (k : Nat) : Bool := match v.votes[k]?, hs[k]? with | some a, some b => decide (0 ≤ a) && decide (a ≠ b) | _, _ => false
def zcF (v : Voter) (hs : List Int) : Nat := ((List.range hs.length).filter (zfo v hs)).length
def inAt (p : Poll) (hs : List Int) (k : Nat) : Bool := match hs[k]?, p.questions[k]? with | some n, some q => inB n 0 ((q.heads.length : Int) - 1) | _, _ => true
def zhO (p : Poll) (hs : List Int) : Bool := decide (hs.length = p.questions.length) && (List.range hs.length).all (inAt p hs) && p.voters.all fun v => decide ((zcF v hs : Int) ≤ v.wrong)
def candL : List Nat → List (List Int)
 | [] => [[]]
 | n :: ns => (List.range n).flatMap fun (h : Nat) => (candL ns).map fun t => (h : Int) :: t
def zdg (p : Poll) : List Nat := p.questions.map (·.heads.length)
def zM (p : Poll) : List (List Int) := (candL (zdg p)).filter (zhO p)
theorem wrongN_snoc (v : Voter) (hs : List Int) (h : Int) : zcF v (hs ++ [h]) = zcF v hs + if (match v.votes[hs.length]? with | some a => decide (0 ≤ a) && decide (a ≠ h) | none => false) = true then 1 else 0 := by
 rw [zcF, List.length_append, List.length_cons, List.length_nil, Nat.zero_add, List.range_succ, List.filter_append, List.length_append]
 congr 1
 ·rw [zcF]
  congr 1
  refine List.filter_congr fun k hk => ?_
  have hk := List.mem_range.1 hk
  simp only [zfo]
  rw [List.getElem?_append_left hk]
 have e : zfo v (hs ++ [h]) hs.length = (match v.votes[hs.length]? with | some a => decide (0 ≤ a) && decide (a ≠ h) | none => false) := by
  simp only [zfo]
  have e1 : (hs ++ [h])[hs.length]? = some h := by simp
  rw [e1]
  cases v.votes[hs.length]? <;> rfl
 rw [List.filter_cons, e, List.filter_nil]
 generalize (match v.votes[hs.length]? with | some a => decide (0 ≤ a) && decide (a ≠ h) | none => false) = c
 cases c <;> rfl
theorem wrongN_pre (v : Voter) : ∀ (t hs : List Int), zcF v hs ≤ zcF v (hs ++ t)
 | [], hs => by simp
 | a :: t, hs => by
  have h1 := wrongN_pre v t (hs ++ [a])
  have h2 := wrongN_snoc v hs a
  rw [List.append_assoc] at h1
  have : zcF v hs ≤ zcF v (hs ++ [a]) := by omega
  exact Nat.le_trans this h1
theorem flat_congr {α β : Type} {f g : α → List β} : ∀ {l : List α}, (∀ a ∈ l, f a = g a) → l.flatMap f = l.flatMap g
 | [], _ => rfl
 | a :: l, h => by rw [List.flatMap_cons, List.flatMap_cons, h a List.mem_cons_self, flat_congr fun b hb => h b (List.mem_cons_of_mem _ hb)]
theorem filter_flat {α β : Type} (q : β → Bool) (f : α → List β) : ∀ l : List α, (l.flatMap f).filter q = l.flatMap fun a => (f a).filter q
 | [] => rfl
 | a :: l => by rw [List.flatMap_cons, List.flatMap_cons, List.filter_append, filter_flat q f l]
theorem map_flat {α β γ : Type} (g : β → γ) (f : α → List β) : ∀ l : List α, (l.flatMap f).map g = l.flatMap fun a => (f a).map g
 | [] => rfl
 | a :: l => by rw [List.flatMap_cons, List.flatMap_cons, List.map_append, map_flat g f l]
def zco (p : Poll) (now : List Int) : List (List Int) := ((candL ((zdg p).drop now.length)).map (now ++ ·)).filter (zhO p)
theorem truthsFrom_nil (p : Poll) : zco p [] = zM p := by simp [zco, zM]
theorem truthsFrom_next {p : Poll} {now : List Int} {n : Nat} (hn : (zdg p)[now.length]? = some n) : zco p now = (List.range n).flatMap fun (h : Nat) => zco p (now ++ [(h : Int)]) := by
 rw [zco, zgN hn, candL, map_flat, filter_flat]
 refine flat_congr fun h _ => ?_
 rw [zco]
 congr 1
 rw [List.map_map, List.length_append, List.length_cons, List.length_nil, Nat.zero_add]
 refine List.map_congr_left fun t _ => ?_
 simp
theorem truthsFrom_all {p : Poll} {now : List Int} (hn : now.length = p.questions.length) : zco p now = if zhO p now = true then [now] else [] := by
 have e : (zdg p).drop now.length = [] := List.drop_eq_nil_of_le (by rw [zdg, List.length_map]; omega)
 rw [zco, e, candL]
 simp only [List.map_cons, List.map_nil, List.append_nil, List.filter_cons, List.filter_nil]
theorem truthsFrom_none {p : Poll} {now : List Int} {v : Voter} (hv : v ∈ p.voters) (hw : v.wrong < (zcF v now : Int)) : zco p now = [] := by
 rw [zco, List.filter_eq_nil_iff]
 intro hs hh
 obtain ⟨t, _, rfl⟩ := List.mem_map.1 hh
 simp only [zhO, Bool.and_eq_true, List.all_eq_true, decide_eq_true_eq, not_and]
 intro _ q
 have h1 := q v hv
 have h2 := wrongN_pre v t now
 omega
theorem zdf {P : Nat → Bool} {k : Nat} (h : ∀ j, j < k → P j = true) (hk : P k = true) : ∀ j, j < k + 1 → P j = true := by
 intro j hj
 by_cases e : j = k
 ·subst e; exact hk
 exact h j (by omega)
theorem zgJ {P : Nat → Bool} {n k : Nat} (h : ∀ j, j < k → P j = true) (hk : n ≤ k) : (List.range n).all P = true := by
 rw [List.all_eq_true]
 intro j hj
 exact h j (by have := List.mem_range.1 hj; omega)
theorem range_no {P : Nat → Bool} {n k : Nat} (h : P k = false) (hk : k < n) : (List.range n).all P = false := by
 rw [List.all_eq_false]
 exact ⟨k, List.mem_range.2 hk, by simp [h]⟩
theorem all_snocB {α : Type} {q : α → Bool} {l : List α} {k : Nat} {a : α} (h : l[k]? = some a) : (l.take (k + 1)).all q = ((l.take k).all q && q a) := by rw [zbf h, List.all_append]; simp
theorem headsOk_no {hs : List Head} {k : Nat} (h : zcY hs k = false) : headsOk hs = false := by
 refine range_no h ?_
 refine Classical.byContradiction fun q => ?_
 simp [zcY, List.getElem?_eq_none (show hs.length ≤ k by omega)] at h
theorem votesOk_no {p : Poll} {v : Voter} {k : Nat} (h : zeU p v k = false) : zhy p v = false := by
 refine range_no h ?_
 refine Classical.byContradiction fun q => ?_
 simp [zeU, List.getElem?_eq_none (show v.votes.length ≤ k by omega)] at h
theorem poll_q {p : Poll} {i : Nat} (h : zdN p i = false) : zcJ p = false := by
 have : (List.range p.questions.length).all (zdN p) = false := by
  refine range_no h ?_
  refine Classical.byContradiction fun q => ?_
  simp [zdN, List.getElem?_eq_none (show p.questions.length ≤ i by omega)] at h
 rw [zcJ, this]; simp
theorem poll_v {p : Poll} {i : Nat} (h : zdM p i = false) : zcJ p = false := by
 have : (List.range p.voters.length).all (zdM p) = false := by
  refine range_no h ?_
  refine Classical.byContradiction fun q => ?_
  simp [zdM, List.getElem?_eq_none (show p.voters.length ≤ i by omega)] at h
 rw [zcJ, this]; simp
theorem poll_true {p : Poll} {i j : Nat} (h1 : p.questions.length ≤ 6) (h2 : p.voters.length ≤ 6) (h3 : ∀ k, k < i → zdN p k = true) (hi : p.questions.length ≤ i) (h4 : ∀ k, k < j → zdM p k = true) (hj : p.voters.length ≤ j) : zcJ p = true := by
 rw [zcJ, zgJ h3 hi, zgJ h4 hj, decide_eq_true h1, decide_eq_true h2]; rfl
theorem zgL {p : Poll} (h : zcJ p = true) {i : Nat} {q : Question} (hq : p.questions[i]? = some q) : zbE p.text q.at_ = true ∧ 2 ≤ q.heads.length ∧ q.heads.length ≤ 3 ∧ headsOk q.heads = true := by
 simp only [zcJ, Bool.and_eq_true, List.all_eq_true] at h
 have h1 := h.1.2 i (List.mem_range.2 (List.getElem?_eq_some_iff.1 hq).1)
 simp only [zdN, hq, Bool.and_eq_true, inB, decide_eq_true_eq] at h1
 refine ⟨h1.1.1.1, by omega, by omega, h1.2⟩
theorem zgK {p : Poll} (h : zcJ p = true) {v : Voter} (hv : v ∈ p.voters) : 0 ≤ v.wrong ∧ v.wrong ≤ 6 ∧ v.votes.length = p.questions.length ∧ zhy p v = true := by
 obtain ⟨i, hi⟩ := List.mem_iff_getElem?.1 hv
 simp only [zcJ, Bool.and_eq_true, List.all_eq_true] at h
 have h1 := h.2 i (List.mem_range.2 (List.getElem?_eq_some_iff.1 hi).1)
 simp only [zdM, hi, zfp, Bool.and_eq_true, inB, decide_eq_true_eq] at h1
 obtain ⟨⟨⟨⟨_, h2⟩, h3⟩, h4⟩, _⟩ := h1
 exact ⟨h2.1, h2.2, h3, h4⟩
theorem zcO {p : Poll} (h : zcJ p = true) : p.questions.length ≤ 6 ∧ p.voters.length ≤ 6 := by
 simp only [zcJ, Bool.and_eq_true, decide_eq_true_eq] at h
 exact ⟨h.1.1.1, h.1.1.2⟩
theorem true_len {p : Poll} {hs : List Int} (h : zhO p hs = true) : hs.length = p.questions.length := by
 simp only [zhO, Bool.and_eq_true, decide_eq_true_eq] at h; exact h.1.1
theorem true_in {p : Poll} {hs : List Int} (h : zhO p hs = true) {k : Nat} {a : Int} {q : Question} (ha : hs[k]? = some a) (hq : p.questions[k]? = some q) : 0 ≤ a ∧ a < (q.heads.length : Int) := by
 simp only [zhO, Bool.and_eq_true, List.all_eq_true] at h
 have := h.1.2 k (List.mem_range.2 (List.getElem?_eq_some_iff.1 ha).1)
 simp only [inAt, ha, hq, inB, Bool.and_eq_true, decide_eq_true_eq] at this
 omega
theorem true_yes {p : Poll} {hs : List Int} {i k : Nat} (h1 : hs.length = p.questions.length) (h2 : ∀ j, j < i → inAt p hs j = true) (hi : hs.length ≤ i) (h3 : ∀ v ∈ p.voters.take k, (zcF v hs : Int) ≤ v.wrong) (hk : p.voters.length ≤ k) : zhO p hs = true := by
 rw [List.take_of_length_le hk] at h3
 have : (p.voters.all fun v => decide ((zcF v hs : Int) ≤ v.wrong)) = true := List.all_eq_true.2 fun v hv => decide_eq_true (h3 v hv)
 rw [zhO, zgJ h2 hi, this, decide_eq_true h1]; rfl
def zhK (v : Voter) (hs : List Int) (k : Nat) : Nat := ((List.range k).filter (zfo v hs)).length
theorem wrongK_succ (v : Voter) (hs : List Int) (k : Nat) : zhK v hs (k + 1) = zhK v hs k + if zfo v hs k = true then 1 else 0 := by
 rw [zhK, List.range_succ, List.filter_append, List.length_append, List.filter_cons, List.filter_nil, zhK]
 split <;> rfl
theorem wrongK_le (v : Voter) (hs : List Int) (k : Nat) : zhK v hs k ≤ k := by
 have := List.length_filter_le (zfo v hs) (List.range k)
 rw [List.length_range] at this; exact this
theorem poll_q2 {p : Poll} {i k : Nat} {q : Question} (hq : p.questions[i]? = some q) (h : zcY q.heads k = false) : zcJ p = false := by
 refine poll_q (i := i) ?_
 simp only [zdN, hq, headsOk_no h, Bool.and_false]
theorem poll_v2 {p : Poll} {i k : Nat} {v : Voter} (hv : p.voters[i]? = some v) (h : zeU p v k = false) : zcJ p = false := by
 refine poll_v (i := i) ?_
 simp only [zdM, hv, zfp, votesOk_no h, Bool.and_false, Bool.false_and]
theorem poll_v3 {p : Poll} {i k : Nat} {v u : Voter} (hv : p.voters[i]? = some v) (hu : p.voters[k]? = some u) (hk : k < i) (h : u.id = v.id) : zcJ p = false := by
 refine poll_v (i := i) ?_
 have : ((p.voters.take i).all fun u => decide (u.id ≠ v.id)) = false := by
  refine List.all_eq_false.2 ⟨u, ?_, by simp [h]⟩
  exact List.mem_of_getElem? (i := k) (by rw [List.getElem?_take_of_lt hk]; exact hu)
 simp only [zdM, hv, this, Bool.and_false]
theorem wrongAt_neg {v : Voter} {xs : List Int} {k : Nat} {a : Int} (ha : v.votes[k]? = some a) (h : ¬ 0 ≤ a) : zfo v xs k = false := by
 simp only [zfo, ha]
 cases xs[k]? with
 | none => rfl
 | some c => simp [h]
theorem zfT {v : Voter} {xs : List Int} {k : Nat} {a c : Int} (ha : v.votes[k]? = some a) (hc : xs[k]? = some c) : zfo v xs k = (decide (0 ≤ a) && decide (a ≠ c)) := by simp only [zfo, ha, hc]
end Go.Pk

namespace Go.Pk
open Go Go.RowKit
def allE (p : Poll) (so : Bool) : Int := if zbM p ≠ 0 then zbM p else if so = false then 2 else if zM p = [] then 8 else 0
def allL (p : Poll) (so : Bool) : List (List Int) := if allE p so = 0 then zM p else []
theorem zcb {p : Poll} (h : zbM p = 0) : zaR p.text p.lexicon = 0 ∧ zcJ p = true := by
 unfold zbM at h
 split at h
 ·rename_i q; exact absurd h q
 rename_i q
 split at h
 ·rename_i q2; exact ⟨by simpa using q, q2⟩
 cases h
theorem zgQ {p : Poll} {so : Bool} (h : allE p so = 0) : zbM p = 0 ∧ so = true ∧ zM p ≠ [] ∧ allL p so = zM p := by
 have h0 := h
 unfold allE at h
 split at h
 ·rename_i q; exact absurd h q
 rename_i q
 split at h
 ·cases h
 rename_i q2
 split at h
 ·cases h
 rename_i q3
 exact ⟨by simpa using q, by simpa using q2, q3, by rw [allL, if_pos h0]⟩
def prodL : List Nat → Nat
 | [] => 1
 | n :: ns => n * prodL ns
theorem candL_len : ∀ ns : List Nat, (candL ns).length = prodL ns
 | [] => rfl
 | n :: ns => by
  rw [candL, prodL, List.length_flatMap]
  simp only [List.length_map, candL_len ns]
  induction n with
  | zero => simp
  | succ n ih => rw [List.range_succ, List.map_append, List.sum_append, ih, Nat.succ_mul]; simp
def cntH (l : List (List Int)) (q : Nat) (h : Int) : Nat := (l.filter fun t => decide (t[q]? = some h)).length
def worstK (l : List (List Int)) (q : Nat) : Nat → Int
 | 0 => 0
 | k + 1 => maxI (worstK l q k) (cntH l q (k : Int))
def zda (l : List (List Int)) (q : Nat) : Int := worstK l q 3
theorem cntH_snoc {l : List (List Int)} {i : Nat} {t : List Int} {q : Nat} {h : Int} (ht : l[i]? = some t) : cntH (l.take (i + 1)) q h = cntH (l.take i) q h + if t[q]? = some h then 1 else 0 := by
 rw [cntH, zbf ht, List.filter_append, List.length_append, List.filter_cons, List.filter_nil, cntH]
 congr 1
 by_cases e : t[q]? = some h <;> simp [e]
theorem zfs (l : List (List Int)) (q : Nat) (h : Int) : cntH l q h ≤ l.length := List.length_filter_le _ _
end Go.Pk

namespace Go.Pk
open Go Go.RowKit
theorem sizes_len (p : Poll) : (zdg p).length = p.questions.length := by rw [zdg, List.length_map]
theorem sizes_ok {p : Poll} (h : zcJ p = true) : ∀ n ∈ zdg p, 2 ≤ n ∧ n ≤ 3 := by
 intro n hn
 obtain ⟨q, hq, rfl⟩ := List.mem_map.1 hn
 obtain ⟨i, hi⟩ := List.mem_iff_getElem?.1 hq
 have := zgL h hi
 exact ⟨this.2.1, this.2.2.1⟩
theorem prod_pow : ∀ {ns : List Nat}, (∀ n ∈ ns, n ≤ 3) → prodL ns ≤ 3 ^ ns.length
 | [], _ => Nat.le_refl _
 | n :: ns, h => by
  rw [prodL, List.length_cons, Nat.pow_succ, Nat.mul_comm]
  exact Nat.mul_le_mul (prod_pow fun m hm => h m (List.mem_cons_of_mem _ hm)) (h n List.mem_cons_self)
theorem prod_le {p : Poll} (h : zcJ p = true) : prodL (zdg p) ≤ 729 := by
 refine Nat.le_trans (prod_pow fun n hn => (sizes_ok h n hn).2) ?_
 have : (zdg p).length ≤ 6 := by rw [sizes_len]; exact (zcO h).1
 exact Nat.pow_le_pow_right (by omega) this
theorem zep {p : Poll} (hp : zcJ p = true) : (zM p).length ≤ 729 := by
 refine Nat.le_trans (List.length_filter_le _ _) ?_
 rw [candL_len]; exact prod_le hp
end Go.Pk

namespace Go.Pk
open Go Go.RowKit
def ltL : List Int → List Int → Bool
 | a :: s, b :: t => if a = b then ltL s t else decide (a < b)
 | _, _ => false
def zjo (a b : List Int) : Bool := if a.length ≠ b.length then decide (a.length < b.length) else ltL a b
def alikeL (a b l : List Int) : Bool := l.all fun k => decide (a[k.toNat]? = b[k.toNat]?)
def ziW (ts : List (List Int)) (l : List Int) (i : Nat) : Bool := match ts[i]? with | some t => (ts.take i).all fun u => !alikeL t u l | none => true
def ziV (ts : List (List Int)) (l : List Int) : Bool := (List.range ts.length).all (ziW ts l)
theorem tells_no {ts : List (List Int)} {l : List Int} {i : Nat} (h : ziW ts l i = false) : ziV ts l = false := by
 refine range_no h ?_
 refine Classical.byContradiction fun q => ?_
 simp [ziW, List.getElem?_eq_none (show ts.length ≤ i by omega)] at h
def zbS (s : Int) (n : Nat) : List Int := ((List.range n).filter fun (i : Nat) => decide (bitN s (i : Int) = 1)).map fun (i : Nat) => (i : Int)
theorem zjb (s : Int) (n : Nat) : zbS s (n + 1) = zbS s n ++ if bitN s (n : Int) = 1 then [(n : Int)] else [] := by
 rw [zbS, List.range_succ, List.filter_append, List.map_append, List.filter_cons, List.filter_nil, zbS]
 by_cases h : bitN s (n : Int) = 1 <;> simp [h]
theorem zij (s : Int) (n : Nat) : (zbS s n).length ≤ n := by
 rw [zbS, List.length_map]
 have := List.length_filter_le (fun i : Nat => decide (bitN s (i : Int) = 1)) (List.range n)
 rwa [List.length_range] at this
def askK (ts : List (List Int)) (n : Nat) : Nat → Option (List Int)
 | 0 => none
 | k + 1 => if ((match askK ts n k with | none => true | some b => zjo (zbS (k : Int) n) b) && ziV ts (zbS (k : Int) n)) = true then some (zbS (k : Int) n) else askK ts n k
def ziR (p : Poll) : List Int := if allE p true = 0 then (askK (zM p) p.questions.length (2 ^ p.questions.length)).getD [] else []
def zhc (ts : List (List Int)) : Nat → Nat
 | 0 => 0
 | k + 1 => if zda ts (k + 1) < zda ts (zhc ts k) then k + 1 else zhc ts k
def nextE (p : Poll) : Int := if allE p true ≠ 0 then allE p true else if (zM p).length = 1 then 6 else 0
def nextR (p : Poll) : Int := if nextE p = 0 then (zhc (zM p) (p.questions.length - 1) : Int) else 0
theorem zdB {p : Poll} {t : List Int} (h : t ∈ zM p) : t.length = p.questions.length := true_len (List.mem_filter.1 h).2
theorem truth_in {p : Poll} {t : List Int} (h : t ∈ zM p) {k : Nat} {a : Int} {q : Question} (ha : t[k]? = some a) (hq : p.questions[k]? = some q) : 0 ≤ a ∧ a < (q.heads.length : Int) := true_in (List.mem_filter.1 h).2 ha hq
def openB (ts : List (List Int)) (q : Nat) (h : Int) : Bool := ts.any fun t => decide (t[q]? = some h)
def zht (ts : List (List Int)) (q n : Nat) : List Int := ((List.range n).filter fun (h : Nat) => openB ts q (h : Int)).map fun (h : Nat) => (h : Int)
theorem openK_succ (ts : List (List Int)) (q n : Nat) : zht ts q (n + 1) = zht ts q n ++ if openB ts q (n : Int) = true then [(n : Int)] else [] := by
 rw [zht, List.range_succ, List.filter_append, List.map_append, List.filter_cons, List.filter_nil, zht]
 by_cases h : openB ts q (n : Int) = true <;> simp [h]
theorem openK_len (ts : List (List Int)) (q n : Nat) : (zht ts q n).length ≤ n := by
 rw [zht, List.length_map]
 have := List.length_filter_le (fun h : Nat => openB ts q (h : Int)) (List.range n)
 rwa [List.length_range] at this
def openR (p : Poll) (question : Int) : List Int := if allE p (inB question 0 ((p.questions.length : Int) - 1)) = 0 then zht (zM p) question.toNat (((p.questions[question.toNat]?).getD zhF).heads.length) else []
def zfb (vs : List Voter) (q n : Nat) : List Int := (List.range n).map fun (h : Nat) => (((vs.filter fun v => decide (v.votes[q]? = some (h : Int))).length : Nat) : Int)
theorem zgd (vs : List Voter) (q n : Nat) : (zfb vs q n).length = n := by simp [zfb]
theorem tally_zero (q n : Nat) : List.replicate n (0 : Int) = zfb [] q n := by
 refine List.ext_getElem (by simp [zgd]) fun i h1 h2 => ?_
 simp [zfb]
theorem tally_at (vs : List Voter) (q : Nat) {n h : Nat} (hh : h < n) : (zfb vs q n)[h]? = some (((vs.filter fun v => decide (v.votes[q]? = some (h : Int))).length : Nat) : Int) := by
 rw [zfb, List.getElem?_map, List.getElem?_range hh]; rfl
theorem tally_skip {vs : List Voter} {q n i : Nat} {v : Voter} {a : Int} (hv : vs[i]? = some v) (ha : v.votes[q]? = some a) (h : a < 0) : zfb (vs.take (i + 1)) q n = zfb (vs.take i) q n := by
 rw [zfb, zfb]
 refine List.map_congr_left fun k _ => ?_
 rw [zbf hv, List.filter_append, List.length_append, List.filter_cons, List.filter_nil, ha, if_neg (by simp; omega)]
 rfl
theorem tally_set {vs : List Voter} {q n i : Nat} {v : Voter} {a x : Int} (hv : vs[i]? = some v) (ha : v.votes[q]? = some a) (h : 0 ≤ a) (hx : (zfb (vs.take i) q n)[a.toNat]? = some x) : (zfb (vs.take i) q n).set a.toNat (x + 1) = zfb (vs.take (i + 1)) q n := by
 have hl := (List.getElem?_eq_some_iff.1 hx).1
 rw [zgd] at hl
 rw [tally_at _ _ hl] at hx
 refine List.ext_getElem? fun k => ?_
 by_cases hk : k < n
 ·rw [tally_at _ _ hk, zbf hv, List.filter_append, List.length_append, List.filter_cons, List.filter_nil, ha]
  by_cases e : k = a.toNat
  ·subst e
   rw [List.getElem?_set_self (by rw [zgd]; exact hk), ← Option.some.inj hx, if_pos (by simp; omega)]
   simp
  ·rw [List.getElem?_set_ne (Ne.symm e), tally_at _ _ hk, if_neg (by simp; omega)]
   simp
 rw [List.getElem?_eq_none (by rw [List.length_set, zgd]; omega), List.getElem?_eq_none (by rw [zgd]; omega)]
def zis (p : Poll) (question : Int) : Int := if zbM p ≠ 0 then zbM p else if inB question 0 ((p.questions.length : Int) - 1) = true then 0 else 2
def tallyR (p : Poll) (question : Int) : List Int := if zis p question = 0 then zfb p.voters question.toNat (((p.questions[question.toNat]?).getD zhF).heads.length) else []
theorem zeY {s b : Int} (h0 : 0 ≤ s) (h1 : s ≤ 1000000) : 0 ≤ s / 2 ^ b.toNat ∧ s / 2 ^ b.toNat ≤ 1000000 := by
 have hp : (0 : Int) < 2 ^ b.toNat := by
  have : 0 < (2 : Nat) ^ b.toNat := Nat.pow_pos (by omega)
  exact_mod_cast this
 exact ⟨Int.ediv_nonneg h0 (by omega), Int.le_trans (Int.ediv_le_self _ h0) h1⟩
theorem pow_le {n : Nat} (h : n ≤ 6) : 2 ^ n ≤ 64 ∧ (2 : Int) ^ ((n : Int)).toNat = ((2 ^ n : Nat) : Int) := by
 refine ⟨Nat.le_trans (Nat.pow_le_pow_right (by omega) h) (by decide), ?_⟩
 rw [Int.toNat_natCast]; exact_mod_cast rfl
theorem votes_in {p : Poll} {v : Voter} (h : zhy p v = true) {k : Nat} {a : Int} {q : Question} (ha : v.votes[k]? = some a) (hq : p.questions[k]? = some q) : -1 ≤ a ∧ a < (q.heads.length : Int) := by
 rw [zhy, List.all_eq_true] at h
 have := h k (List.mem_range.2 (List.getElem?_eq_some_iff.1 ha).1)
 simp only [zeU, ha, hq, inB, Bool.and_eq_true, decide_eq_true_eq] at this
 omega
theorem tally_small {vs : List Voter} {q n h : Nat} {x : Int} (hx : (zfb vs q n)[h]? = some x) : 0 ≤ x ∧ x ≤ (vs.length : Int) := by
 have hl := (List.getElem?_eq_some_iff.1 hx).1
 rw [zgd] at hl
 rw [tally_at _ _ hl] at hx
 have := List.length_filter_le (fun v : Voter => decide (v.votes[q]? = some (h : Int))) vs
 have := Option.some.inj hx
 omega
end Go.Pk

namespace Go.Pk
open Go Go.RowKit
def setAt (ts : List (List Int)) (a0 : List Int) (k : Nat) : Int := match a0[k]? with | some h => if (ts.all fun t => decide (t[k]? = some h)) = true then h else -1 | none => -1
def setK (ts : List (List Int)) (a0 : List Int) : List Int := (List.range a0.length).map (setAt ts a0)
def zcU (ts : List (List Int)) : List Int := match ts[0]? with | some a0 => setK ts a0 | none => []
theorem zfL (ts : List (List Int)) (a0 : List Int) : (setK ts a0).length = a0.length := by simp [setK]
theorem ziE {ts : List (List Int)} {a0 : List Int} {k : Nat} (hk : k < a0.length) : (setK ts a0)[k]? = some (setAt ts a0 k) := by rw [setK, List.getElem?_map, List.getElem?_range hk]; rfl
def setM (ts : List (List Int)) (a0 : List Int) (i k : Nat) : List Int := (setK (ts.take (i + 1)) a0).take k ++ (setK (ts.take i) a0).drop k
theorem setM_len (ts : List (List Int)) (a0 : List Int) (i k : Nat) : (setM ts a0 i k).length = a0.length := by
 rw [setM, List.length_append, List.length_take, List.length_drop, zfL, zfL]; omega
theorem setM_zero (ts : List (List Int)) (a0 : List Int) (i : Nat) : setM ts a0 i 0 = setK (ts.take i) a0 := by simp [setM]
theorem setM_end {ts : List (List Int)} {a0 : List Int} {i k : Nat} (hk : a0.length ≤ k) : setM ts a0 i k = setK (ts.take (i + 1)) a0 := by
 rw [setM, List.take_of_length_le (by rw [zfL]; omega), List.drop_eq_nil_of_le (by rw [zfL]; omega), List.append_nil]
theorem setM_at {ts : List (List Int)} {a0 : List Int} {i k : Nat} (hk : k < a0.length) : setM ts a0 i (k + 1) = (setM ts a0 i k).set k (setAt (ts.take (i + 1)) a0 k) := by
 have h1 : (setK (ts.take (i + 1)) a0)[k]? = some (setAt (ts.take (i + 1)) a0 k) := ziE hk
 have h2 : (setK (ts.take i) a0)[k]? = some (setAt (ts.take i) a0 k) := ziE hk
 have hl : ((setK (ts.take (i + 1)) a0).take k).length = k := by rw [List.length_take, zfL]; omega
 rw [setM, zbf h1, setM, List.set_append_right _ _ (by omega), hl, Nat.sub_self, zgN h2, List.set_cons_zero, List.append_assoc]; rfl
theorem setAt_snoc {ts : List (List Int)} {a0 t : List Int} {i k : Nat} {h x : Int} (ht : ts[i]? = some t) (h0 : a0[k]? = some h) (hx : t[k]? = some x) : setAt (ts.take (i + 1)) a0 k = if x = h then setAt (ts.take i) a0 k else -1 := by
 simp only [setAt, h0]
 rw [zbf ht, List.all_append, List.all_cons, List.all_nil, Bool.and_true, hx]
 by_cases e : x = h
 ·simp [e]
 simp [e]
theorem setM_same {ts : List (List Int)} {a0 t : List Int} {i k : Nat} {h x : Int} (ht : ts[i]? = some t) (h0 : a0[k]? = some h) (hx : t[k]? = some x) (e : x = h) : setM ts a0 i (k + 1) = setM ts a0 i k := by
 have hk : k < a0.length := (List.getElem?_eq_some_iff.1 h0).1
 rw [setM_at hk, setAt_snoc ht h0 hx, if_pos e]
 refine List.ext_getElem? fun j => ?_
 by_cases ej : j = k
 ·subst ej
  rw [List.getElem?_set_self (by rw [setM_len]; exact hk), setM, List.getElem?_append_right (by rw [List.length_take]; omega), List.length_take, zfL, Nat.min_eq_left (by omega), Nat.sub_self, List.getElem?_drop, Nat.add_zero, ziE hk]
 rw [List.getElem?_set_ne (Ne.symm ej)]
theorem setM_else {ts : List (List Int)} {a0 t : List Int} {i k : Nat} {h x : Int} (ht : ts[i]? = some t) (h0 : a0[k]? = some h) (hx : t[k]? = some x) (e : ¬ x = h) : setM ts a0 i (k + 1) = (setM ts a0 i k).set k (-1) := by
 rw [setM_at (List.getElem?_eq_some_iff.1 h0).1, setAt_snoc ht h0 hx, if_neg e]
def zbz (p : Poll) : List Int := if allE p true = 0 then zcU (zM p) else []
def spanK (v : Voter) (ts : List (List Int)) : Span := ts.foldl (fun s t => ⟨minI s.lo (zcF v t), maxI s.hi (zcF v t)⟩) ⟨6, 0⟩
theorem spanK_snoc {v : Voter} {ts : List (List Int)} {i : Nat} {t : List Int} (ht : ts[i]? = some t) : spanK v (ts.take (i + 1)) = ⟨minI (spanK v (ts.take i)).lo (zcF v t), maxI (spanK v (ts.take i)).hi (zcF v t)⟩ := by rw [spanK, zbf ht, List.foldl_append]; rfl
def zeT (p : Poll) (voter : Int) : Span := if allE p (inB voter 0 ((p.voters.length : Int) - 1)) = 0 then spanK ((p.voters[voter.toNat]?).getD zVoter) (zM p) else zSpan
end Go.Pk

namespace Go.Pk
open Go Go.RowKit
section
variable {P : Program} {σ : Env} {w : World} {ty : TypeId} {pos : String} {aft : Array Edge} {g : Option (Nat × Bool)} {dst : Option Tmp}
theorem r_sgtr {t t' : TypeId} {x y : Operand} {a b : Str} (hx : ev σ x = strV a) (hy : ev σ y = strV b) : Run P σ w ⟨dst, .binOp .gtr t x y t', ty, pos, aft, g⟩ (.bool (!(Op.bytesLess a b || decide (a = b)))) w := by
 simp only [strV] at hx hy
 simp [Run, execOp, hx, hy, eqGuard, binOp, Op.stringOp, beq_str]
theorem zgq {t e : TypeId} {x ix : Operand} {i : Int} {k m n : Nat} {vs us : List Value} (hx : ev σ x = .agg vs.toArray) (hi : ev σ ix = .int .i64 i) (hk : i = (k : Int)) (hlt : Nat.blt k n = true) (hu : P.underlying t = some (.array n e)) (ha : ∀ w, (isAgg e).run P w = .ok true w) (hz : ∀ w, (sizeOf e).run P w = .ok m w) (hv : (vs.drop (k * m)).take m = us) :
  Run P σ w ⟨dst, .index t x ix, ty, pos, aft, g⟩ (.agg us.toArray) w := by
 subst hk hv
 have h1 : k < n := by rwa [Nat.blt_eq] at hlt
 simp [Run, execOp, hx, hi, Instr.index, asIntOf, run_underlying hu, h1, part, ha, hz]
end
def cmpT (a b : Str) : Int := if sLt a b = true then -1 else if a = b then 0 else 1
def orL : List Int → Int
 | [] => 0
 | a :: l => if a ≠ 0 then a else orL l
theorem orL_drop {l : List Int} {k : Nat} {a : Int} (h : l[k]? = some a) : orL (l.drop k) = if a ≠ 0 then a else orL (l.drop (k + 1)) := by rw [zgN h]; rfl
theorem places_lt (a b : Place) : decide (orL [cmpI a.chapter b.chapter, cmpI a.line b.line, cmpI a.word b.word] < 0) = zeh a b := by
 rcases a with ⟨a1, a2, a3⟩; rcases b with ⟨b1, b2, b3⟩
 simp only [orL, cmpI, zeh, ne_eq]
 rw [Bool.eq_iff_iff, decide_eq_true_eq]
 by_cases h1 : a1 = b1 <;> by_cases h2 : a2 = b2 <;> simp only [h1, h2, not_true_eq_false, not_false_eq_true, if_true, if_false, decide_eq_true_eq, Int.lt_irrefl] <;> (repeat' split) <;> omega
theorem heads_lt (a b : Head) : decide (orL [cmpT a.stem b.stem, cmpI a.mark b.mark] < 0) = headLt a b := by
 rcases a with ⟨s1, m1⟩; rcases b with ⟨s2, m2⟩
 simp only [orL, cmpT, cmpI, headLt, ne_eq]
 rw [Bool.eq_iff_iff, decide_eq_true_eq]
 by_cases h1 : sLt s1 s2 = true
 ·simp [h1]
 simp only [h1, if_false, Bool.or_eq_true, Bool.and_eq_true, decide_eq_true_eq, false_or, Bool.false_eq_true]
 by_cases h2 : s1 = s2
 ·subst h2
  simp only [if_true, not_true_eq_false, if_false, true_and]
  (repeat' split) <;> omega
 simp [h2]
def zej (p : Poll) (i : Nat) (q : Question) : Bool := zbE p.text q.at_ && (decide (i = 0) || zeh ((p.questions[i - 1]?).getD zhF).at_ q.at_) && inB q.heads.length 2 3
def zfG (p : Poll) (i : Nat) (q : Question) (k : Nat) : Bool := zej p i q && (List.range k).all (zcY q.heads)
theorem zii (p : Poll) (i : Nat) (q : Question) (k : Nat) : zfG p i q (k + 1) = (zfG p i q k && zcY q.heads k) := by
 simp only [zfG, List.range_succ, List.all_append, List.all_cons, List.all_nil, Bool.and_true, Bool.and_assoc]
theorem questK_zero (p : Poll) (i : Nat) (q : Question) : zfG p i q 0 = zej p i q := by simp [zfG]
theorem quest_eq {p : Poll} {i k : Nat} {q : Question} (hq : p.questions[i]? = some q) (hk : q.heads.length = k) : zdN p i = zfG p i q k := by
 subst hk
 simp only [zdN, hq, zfG, zej, headsOk]
section
variable {p : Poll} {i k : Nat} {q q1 : Question} {hd h1 : Head}
theorem q_init0 (a : (if zbE p.text q.at_ = true then (0 : Int) else 12) = 0) (b : zcK [(q.heads.length : Int)] 2 3 = true) (c : (i : Int) = 0) : true = zej p i q := by
 have a : zbE p.text q.at_ = true := by
  cases e : zbE p.text q.at_
  ·rw [e] at a; simp at a
  ·rfl
 rw [inAll_one] at b
 simp only [zej, a, b, decide_eq_true (show i = 0 by omega), Bool.and_true, Bool.true_or]
theorem q_init1 (a : (if zbE p.text q.at_ = true then (0 : Int) else 12) = 0) (b : zcK [(q.heads.length : Int)] 2 3 = true) (c : ¬ (i : Int) = 0) (d : p.questions[i - 1]? = some q1) : decide (orL [cmpI q1.at_.chapter q.at_.chapter, cmpI q1.at_.line q.at_.line, cmpI q1.at_.word q.at_.word] < 0) = zej p i q := by
 have a : zbE p.text q.at_ = true := by
  cases e : zbE p.text q.at_
  ·rw [e] at a; simp at a
  ·rfl
 rw [inAll_one] at b
 simp only [zej, a, b, decide_eq_false (show ¬ i = 0 by omega), Bool.and_true, Bool.true_and, Bool.false_or, places_lt, d, Option.getD_some]
theorem q_init2 (b : zcK [(q.heads.length : Int)] 2 3 = false) : false = zej p i q := by
 rw [inAll_one] at b
 simp only [zej, b, Bool.and_false]
theorem q_init3 (a : ¬ (if zbE p.text q.at_ = true then (0 : Int) else 12) = 0) : false = zej p i q := by
 have a : zbE p.text q.at_ = false := by
  cases e : zbE p.text q.at_
  ·rfl
  ·rw [e] at a; simp at a
 simp only [zej, a, Bool.false_and]
theorem q_step0 (a : zfG p i q k = true) (b : zea hd = true) (c : (k : Int) = 0) (d : q.heads[k]? = some hd) : true = (zfG p i q k && zcY q.heads k) := by
 simp only [a, zcY, d, b, decide_eq_true (show k = 0 by omega), Bool.true_or, Bool.and_true]
theorem q_step1 (a : zfG p i q k = true) (b : zea hd = true) (c : ¬ (k : Int) = 0) (d : q.heads[k]? = some hd) (e : q.heads[k - 1]? = some h1) : decide (orL [cmpT h1.stem hd.stem, cmpI h1.mark hd.mark] < 0) = (zfG p i q k && zcY q.heads k) := by
 simp only [a, zcY, d, b, e, decide_eq_false (show ¬ k = 0 by omega), Bool.false_or, Bool.true_and, heads_lt, Option.getD_some]
theorem q_step2 (b : zea hd = false) (d : q.heads[k]? = some hd) : false = (zfG p i q k && zcY q.heads k) := by
 simp only [zcY, d, b, Bool.false_and, Bool.and_false]
theorem q_step3 (a : zfG p i q k = false) : false = (zfG p i q k && zcY q.heads k) := by simp only [a, Bool.false_and]
end
def zcg (p : Poll) (v : Voter) (i : Nat) : Nat → Bool
 | 0 => inB v.id 0 9999
 | 1 => inB v.wrong 0 6
 | 2 => decide (v.votes.length = p.questions.length)
 | 3 => zhy p v
 | _ => !((p.voters.take i).any fun u => decide (u.id = v.id))
theorem ask_all {p : Poll} {v : Voter} {i k : Nat} (hv : p.voters[i]? = some v) (h : ∀ m, m < k → zcg p v i m = true) (hk : 5 ≤ k) : zdM p i = true := by
 have h0 := h 0 (by omega); have h1 := h 1 (by omega); have h2 := h 2 (by omega); have h3 := h 3 (by omega); have h4 := h 4 (by omega)
 simp only [zcg] at h0 h1 h2 h3 h4
 simp only [zdM, hv, zfp, h0, h1, h2, h3, Bool.and_true, Bool.true_and]
 rw [List.all_eq_true]
 intro u hu
 simp only [Bool.not_eq_true', List.any_eq_false, decide_eq_true_eq] at h4
 exact decide_eq_true (h4 u hu)
theorem ask_no {p : Poll} {v : Voter} {i k : Nat} (hv : p.voters[i]? = some v) (h : zcg p v i k = false) : zcJ p = false := by
 refine poll_v (i := i) ?_
 simp only [zdM, hv, zfp]
 match k, h with
 | 0, h => simp only [zcg] at h; simp [h]
 | 1, h => simp only [zcg] at h; simp [h]
 | 2, h => simp only [zcg] at h; simp [h]
 | 3, h => simp only [zcg] at h; simp [h]
 | k + 4, h =>
  simp only [zcg, Bool.not_eq_false', List.any_eq_true, decide_eq_true_eq] at h
  obtain ⟨u, hu, e⟩ := h
  have : ((p.voters.take i).all fun u => decide (u.id ≠ v.id)) = false := List.all_eq_false.2 ⟨u, hu, by simp [e]⟩
  rw [this, Bool.and_false]
theorem asked_len {p : Poll} {v u : Voter} {j : Nat} (hv : p.voters[j]? = some v) (h : zcg p v j 2 = true) : u.votes.length = p.questions.length ∨ p.voters[((j : Int)).toNat]? ≠ some u := by
 by_cases e : p.voters[((j : Int)).toNat]? = some u
 ·rw [Int.toNat_natCast, hv] at e
  cases e
  exact .inl (by simpa [zcg] using h)
 exact .inr e
theorem zgi {p : Poll} (h0 : zaR p.text p.lexicon = 0) (h : zcJ p = false) : zbM p = 70 := by simp [zbM, h0, h]
theorem check_yes {p : Poll} (h0 : zaR p.text p.lexicon = 0) (h : zcJ p = true) : zbM p = 0 := by simp [zbM, h0, h]
theorem quest_no {p : Poll} {i : Nat} {q : Question} (hq : p.questions[i]? = some q) (h : zej p i q = false) : zdN p i = false := by
 simp only [zdN, hq]
 show (zej p i q && headsOk q.heads) = false
 rw [h]; rfl
theorem quest_ok {p : Poll} {i : Nat} {q : Question} (h : zej p i q = true) : zbE p.text q.at_ = true ∧ (decide (i = 0) || zeh ((p.questions[i - 1]?).getD zhF).at_ q.at_) = true ∧ inB q.heads.length 2 3 = true := by
 simp only [zej, Bool.and_eq_true] at h
 exact ⟨h.1.1, h.1.2, h.2⟩
def voteB (p : Poll) (v : Voter) : Bool := inB v.id 0 9999 && inB v.wrong 0 6 && decide (v.votes.length = p.questions.length)
theorem vote_no {p : Poll} {i : Nat} {v : Voter} (hv : p.voters[i]? = some v) (h : voteB p v = false) : zdM p i = false := by
 simp only [zdM, hv, zfp]
 show ((voteB p v && zhy p v) && _) = false
 rw [h]; rfl
theorem vote_ok {p : Poll} {v : Voter} (h : voteB p v = true) : inB v.id 0 9999 = true ∧ inB v.wrong 0 6 = true ∧ v.votes.length = p.questions.length := by
 simp only [voteB, Bool.and_eq_true, decide_eq_true_eq] at h
 exact ⟨h.1.1, h.1.2, h.2⟩
end Go.Pk

namespace Go.Pk
open Go Go.RowKit
def zff (now : List Int) (v : Voter) : Int := v.wrong - (zcF v now : Int)
def leftL (p : Poll) (now : List Int) : List Int := p.voters.map (zff now)
def zgg (p : Poll) (now : List Int) (h : Int) (i : Nat) : List Int := (p.voters.take i).map (zff (now ++ [h])) ++ (p.voters.drop i).map (zff now)
structure NowOk (p : Poll) (now : List Int) : Prop where
 len : now.length ≤ p.questions.length
 ins : ∀ k, k < now.length → inAt p now k = true
 wr : ∀ v ∈ p.voters, (zcF v now : Int) ≤ v.wrong
theorem now_nil {p : Poll} (hp : zcJ p = true) : NowOk p [] := by
 refine ⟨Nat.zero_le _, fun k hk => absurd hk (by simp), fun v hv => ?_⟩
 have := zgK hp hv
 have e : zcF v [] = 0 := rfl
 rw [e]; omega
theorem now_true {p : Poll} {now : List Int} (h : NowOk p now) (hl : now.length = p.questions.length) : zhO p now = true :=
 true_yes (i := now.length) (k := p.voters.length) hl h.ins (Nat.le_refl _) (fun v hv => h.wr v (List.mem_of_mem_take hv)) (Nat.le_refl _)
theorem now_snoc {p : Poll} {now : List Int} {q : Question} {h : Nat} (hn : NowOk p now) (hq : p.questions[now.length]? = some q) (hh : h < q.heads.length) (hw : ∀ v ∈ p.voters, (zcF v (now ++ [(h : Int)]) : Int) ≤ v.wrong) : NowOk p (now ++ [(h : Int)]) := by
 have hlt := (List.getElem?_eq_some_iff.1 hq).1
 refine ⟨by simp; omega, fun k hk => ?_, hw⟩
 rw [List.length_append, List.length_cons, List.length_nil] at hk
 by_cases e : k < now.length
 ·have := hn.ins k e
  simp only [inAt, List.getElem?_append_left e] at this ⊢
  exact this
 obtain rfl : k = now.length := by omega
 simp only [inAt, hq, List.getElem?_append_right (Nat.le_refl _), Nat.sub_self, List.getElem?_cons_zero, inB, Bool.and_eq_true, decide_eq_true_eq]
 omega
theorem ziJ (p : Poll) (now : List Int) : (leftL p now).length = p.voters.length := by simp [leftL]
theorem zgM (p : Poll) (now : List Int) (h : Int) (i : Nat) : (zgg p now h i).length = p.voters.length := by simp [zgg]; omega
theorem leftM_zero (p : Poll) (now : List Int) (h : Int) : zgg p now h 0 = leftL p now := by simp [zgg, leftL]
theorem leftM_all {p : Poll} (now : List Int) (h : Int) {i : Nat} (hi : p.voters.length ≤ i) : zgg p now h i = leftL p (now ++ [h]) := by
 rw [zgg, List.take_of_length_le hi, List.drop_eq_nil_of_le hi]; simp [leftL]
theorem leftM_at {p : Poll} {now : List Int} {h : Int} {i : Nat} {v : Voter} (hv : p.voters[i]? = some v) : (zgg p now h i)[i]? = some (zff now v) := by
 have hlt := (List.getElem?_eq_some_iff.1 hv).1
 rw [zgg, List.getElem?_append_right (by simp; omega)]
 simp [List.length_take, Nat.min_eq_left (Nat.le_of_lt hlt), hv]
theorem leftM_next {p : Poll} {now : List Int} {h : Int} {i : Nat} {v : Voter} (hv : p.voters[i]? = some v) : zgg p now h (i + 1) = (zgg p now h i).set i (zff (now ++ [h]) v) := by
 have hlt := (List.getElem?_eq_some_iff.1 hv).1
 rw [zgg, zgg, zbf hv, zgN hv, List.map_append, List.map_cons, List.map_nil, List.map_cons, List.set_append_right _ _ (by simp; omega), List.length_map, List.length_take, Nat.min_eq_left (Nat.le_of_lt hlt), Nat.sub_self, List.set_cons_zero, List.append_assoc]
 rfl
theorem leftV_same {now : List Int} {h a : Int} {v : Voter} (ha : v.votes[now.length]? = some a) (hc : a < 0 ∨ a = h) : zcF v (now ++ [h]) = zcF v now := by
 rw [wrongN_snoc, ha, if_neg, Nat.add_zero]
 simp only [Bool.and_eq_true, decide_eq_true_eq]
 rintro ⟨h1, h2⟩
 rcases hc with hc | hc
 ·omega
 exact h2 hc
theorem leftV_less {now : List Int} {h a : Int} {v : Voter} (ha : v.votes[now.length]? = some a) (h1 : ¬ a < 0) (h2 : ¬ a = h) : zcF v (now ++ [h]) = zcF v now + 1 := by
 rw [wrongN_snoc, ha, if_pos]
 simp only [Bool.and_eq_true, decide_eq_true_eq]
 exact ⟨by omega, h2⟩
theorem leftM_skip {p : Poll} {now : List Int} {h a : Int} {i : Nat} {v : Voter} (hv : p.voters[i]? = some v) (ha : v.votes[now.length]? = some a) (hc : a < 0 ∨ a = h) : zgg p now h (i + 1) = zgg p now h i := by
 rw [leftM_next hv]
 have e : zff (now ++ [h]) v = zff now v := by rw [zff, zff, leftV_same ha hc]
 rw [e]
 have q := leftM_at (now := now) (h := h) hv
 refine List.ext_getElem? fun j => ?_
 rw [List.getElem?_set]
 split
 ·rename_i ej
  subst ej
  rw [q, if_pos (List.getElem?_eq_some_iff.1 q).1]
 rfl
theorem leftM_less {p : Poll} {now : List Int} {h a : Int} {i : Nat} {v : Voter} (hv : p.voters[i]? = some v) (ha : v.votes[now.length]? = some a) (h1 : ¬ a < 0) (h2 : ¬ a = h) : zgg p now h (i + 1) = (zgg p now h i).set i (zff now v - 1) := by
 rw [leftM_next hv]
 have e : zff (now ++ [h]) v = zff now v - 1 := by rw [zff, zff, leftV_less ha h1 h2]; omega
 rw [e]
theorem left_neg {now : List Int} {h a z : Int} {v : Voter} (ha : v.votes[now.length]? = some a) (h1 : ¬ a < 0) (h2 : ¬ a = h) (hz : z = zff now v - 1) (hn : z < 0) : v.wrong < (zcF v (now ++ [h]) : Int) := by
 rw [leftV_less ha h1 h2]; rw [zff] at hz; omega
theorem left_pos {now : List Int} {h a z : Int} {v : Voter} (ha : v.votes[now.length]? = some a) (h1 : ¬ a < 0) (h2 : ¬ a = h) (hz : z = zff now v - 1) (hn : ¬ z < 0) : (zcF v (now ++ [h]) : Int) ≤ v.wrong := by
 rw [leftV_less ha h1 h2]; rw [zff] at hz; omega
theorem left_skip {p : Poll} {now : List Int} {h a : Int} {v : Voter} (hn : NowOk p now) (hv : v ∈ p.voters) (ha : v.votes[now.length]? = some a) (hc : a < 0 ∨ a = h) : (zcF v (now ++ [h]) : Int) ≤ v.wrong := by
 rw [leftV_same ha hc]; exact hn.wr v hv
theorem left_at {p : Poll} {now : List Int} {h x : Int} {i : Nat} {v : Voter} (hv : p.voters[i]? = some v) (hx : (zgg p now h i)[i]? = some x) : x = zff now v := by
 rw [leftM_at hv] at hx; exact (Option.some.inj hx).symm
theorem left_bound {p : Poll} {now : List Int} {v : Voter} (hp : zcJ p = true) (hn : NowOk p now) (hv : v ∈ p.voters) : 0 ≤ zff now v ∧ zff now v ≤ 6 := by
 have h1 := zgK hp hv
 have h2 := hn.wr v hv
 rw [zff]; omega
theorem set_at {l : List Int} {i : Nat} {x z : Int} (h : (l.set i x)[i]? = some z) : z = x := by
 rw [List.getElem?_set] at h
 simp only [if_true] at h
 split at h
 ·exact (Option.some.inj h).symm
 cases h
def zho (p : Poll) (i : Nat) : List Int := (p.voters.take i).map (·.wrong) ++ List.replicate (p.voters.length - i) 0
theorem startL_zero (p : Poll) : zho p 0 = List.replicate p.voters.length 0 := by simp [zho]
theorem startL_len {p : Poll} {i : Nat} (h : i ≤ p.voters.length) : (zho p i).length = p.voters.length := by simp [zho]; omega
theorem startL_set {p : Poll} {i : Nat} {v : Voter} (hv : p.voters[i]? = some v) : (zho p i).set i v.wrong = zho p (i + 1) := by
 have hlt := (List.getElem?_eq_some_iff.1 hv).1
 rw [zho, zho, zbf hv, List.set_append_right _ _ (by simp; omega), List.length_map, List.length_take, Nat.min_eq_left (Nat.le_of_lt hlt), Nat.sub_self, show p.voters.length - i = (p.voters.length - (i + 1)) + 1 by omega, List.replicate_succ, List.set_cons_zero, List.map_append, List.append_assoc]
 rfl
theorem startL_all {p : Poll} {i : Nat} (h : p.voters.length ≤ i) : zho p i = leftL p [] := by
 rw [zho, List.take_of_length_le h, show p.voters.length - i = 0 by omega, leftL]
 simp only [List.replicate_zero, List.append_nil]
 refine List.map_congr_left fun v _ => ?_
 have e : zcF v [] = 0 := rfl
 rw [zff, e]; simp
def zgT (p : Poll) (now : List Int) (k : Nat) : List (List Int) := (List.range k).flatMap fun (h : Nat) => zco p (now ++ [(h : Int)])
theorem ziT (p : Poll) (now : List Int) (k : Nat) : zgT p now (k + 1) = zgT p now k ++ zco p (now ++ [(k : Int)]) := by
 rw [zgT, List.range_succ, List.flatMap_append, List.flatMap_cons, List.flatMap_nil, List.append_nil]; rfl
theorem truthsK_all {p : Poll} {now : List Int} {q : Question} {k : Nat} (hq : p.questions[now.length]? = some q) (hk : q.heads.length = k) : zco p now = zgT p now k := by
 subst hk
 exact truthsFrom_next (by simp [zdg, hq])
def OnWay (p : Poll) (done : List (List Int)) (now : List Int) : Prop := ∃ tl, zM p = done ++ zco p now ++ tl
theorem onway_nil (p : Poll) : OnWay p [] [] := ⟨[], by rw [truthsFrom_nil]; simp⟩
theorem onway_next {p : Poll} {done : List (List Int)} {now : List Int} {q : Question} {k : Nat} (h : OnWay p done now) (hq : p.questions[now.length]? = some q) (hk : k < q.heads.length) : OnWay p (done ++ zgT p now k) (now ++ [(k : Int)]) := by
 obtain ⟨tl, h⟩ := h
 rw [truthsK_all hq rfl] at h
 have e : zgT p now q.heads.length = zgT p now k ++ zco p (now ++ [(k : Int)]) ++ ((List.range (q.heads.length - (k + 1))).map (k + 1 + ·)).flatMap fun (h : Nat) => zco p (now ++ [(h : Int)]) := by
  rw [← ziT]
  simp only [zgT]
  rw [← List.flatMap_append]
  congr 1
  conv => lhs; rw [show q.heads.length = (k + 1) + (q.heads.length - (k + 1)) by omega]
  rw [List.range_add]
 rw [e] at h
 exact ⟨((List.range (q.heads.length - (k + 1))).map (k + 1 + ·)).flatMap (fun (h : Nat) => zco p (now ++ [(h : Int)])) ++ tl, by rw [h]; simp only [List.append_assoc]⟩
theorem onway_at {p : Poll} {done : List (List Int)} {now : List Int} (h : OnWay p done now) (hn : zco p now = [now]) : (zM p)[done.length]? = some now := by
 obtain ⟨tl, h⟩ := h
 rw [h, hn]; simp
theorem truths_one {p : Poll} {now : List Int} (h : NowOk p now) (hl : now.length = p.questions.length) : zco p now = [now] := by
 rw [truthsFrom_all hl, if_pos (now_true h hl)]
end Go.Pk

namespace Go.Pk
open Go Go.RowKit
theorem intLt_T : TLt (fun a b : Int => decide (a < b)) := by
 refine ⟨fun a => by simp, fun a b c h1 h2 => ?_, fun a b h => ?_⟩
 ·simp only [decide_eq_true_eq] at *; omega
 simp only [decide_eq_true_eq]; omega
def choiceAt (q : Nat) (t : List Int) : Int := (t[q]?).getD 0
theorem ziw {q : Nat} {t : List Int} {a : Int} (h : t[q]? = some a) : choiceAt q t = a := by rw [choiceAt, h]; rfl
theorem openK_sorted (ts : List (List Int)) (q : Nat) : ∀ n, (zht ts q n).Pairwise fun a b => decide (a < b) = true
 | 0 => by simp [zht]
 | n + 1 => by
  rw [openK_succ, List.pairwise_append]
  refine ⟨openK_sorted ts q n, by split <;> simp, fun a ha b hb => ?_⟩
  split at hb
  ·rw [List.mem_singleton] at hb
   subst hb
   simp only [zht, List.mem_map, List.mem_filter, List.mem_range] at ha
   obtain ⟨k, ⟨hk, _⟩, rfl⟩ := ha
   simp; omega
  ·cases hb
theorem open_sorted {ts : List (List Int)} {q n : Nat} (h : ∀ t ∈ ts, ∃ a, t[q]? = some a ∧ 0 ≤ a ∧ a < (n : Int)) : zcp ((ts.map (choiceAt q)).mergeSort fun a b => decide (a ≤ b)) = zht ts q n := by
 rw [setOf_compact intLt_T (List.mergeSort_perm _ _)]
 ·refine strict_eq intLt_T (setL_sorted intLt_T _) (openK_sorted ts q n) fun x => ?_
  rw [setL_mem]
  simp only [zht, List.mem_map, List.mem_filter, List.mem_range, openB, List.any_eq_true, decide_eq_true_eq]
  constructor
  ·rintro ⟨t, ht, rfl⟩
   obtain ⟨a, ha, h0, h1⟩ := h t ht
   refine ⟨a.toNat, ⟨by omega, t, ht, ?_⟩, ?_⟩
   ·rw [ha]; congr 1; omega
   ·rw [ziw ha]; omega
  ·rintro ⟨k, ⟨_, t, ht, e⟩, rfl⟩
   exact ⟨t, ht, ziw e⟩
 have := List.pairwise_mergeSort (le := fun a b : Int => decide (a ≤ b)) (by intro a b c h1 h2; simp only [decide_eq_true_eq] at *; omega) (by intro a b; simp only [Bool.or_eq_true, decide_eq_true_eq]; omega) (ts.map (choiceAt q))
 exact this.imp fun {a b} h => by simp only [decide_eq_true_eq, decide_eq_false_iff_not] at *; omega
theorem truth_at {p : Poll} {t : List Int} {q : Nat} {x : Question} (h : t ∈ zM p) (hx : p.questions[q]? = some x) : ∃ a, t[q]? = some a ∧ 0 ≤ a ∧ a < (x.heads.length : Int) := by
 have hl := zdB h
 have hlt := (List.getElem?_eq_some_iff.1 hx).1
 refine ⟨_, List.getElem?_eq_getElem (by omega), ?_⟩
 exact truth_in h (List.getElem?_eq_getElem (by omega)) hx
theorem setK_nil (ts : List (List Int)) (a0 : List Int) : setK (ts.take 0) a0 = a0 := by
 refine List.ext_getElem (zfL _ _) fun k h1 h2 => ?_
 have := ziE (ts := ts.take 0) h2
 rw [List.getElem?_eq_getElem h1] at this
 have e := Option.some.inj this
 rw [e, setAt, List.getElem?_eq_getElem h2]
 simp
def zhp (q : Question) : Bool := decide (q.heads.length ≤ 6) && q.heads.all fun h => decide (h.stem.length ≤ 40)
def smallV (v : Voter) : Bool := decide (v.votes.length ≤ 20)
def zdV (p : Poll) : Bool := zfe p.text && zfd p.lexicon && decide (p.questions.length ≤ 10) && decide (p.voters.length ≤ 10) && p.questions.all zhp && p.voters.all smallV
theorem smallP_q {p : Poll} (h : zdV p = true) {i : Nat} {q : Question} (hq : p.questions[i]? = some q) : q.heads.length ≤ 6 := by
 simp only [zdV, Bool.and_eq_true, List.all_eq_true] at h
 have := h.1.2 q (List.mem_of_getElem? hq)
 simp only [zhp, Bool.and_eq_true, decide_eq_true_eq] at this
 exact this.1
theorem smallP_v {p : Poll} (h : zdV p = true) {i : Nat} {v : Voter} (hv : p.voters[i]? = some v) : v.votes.length ≤ 20 := by
 simp only [zdV, Bool.and_eq_true, List.all_eq_true] at h
 have := h.2 v (List.mem_of_getElem? hv)
 simpa [smallV] using this
theorem smallP_len {p : Poll} (h : zdV p = true) : zfe p.text = true ∧ zfd p.lexicon = true ∧ p.questions.length ≤ 10 ∧ p.voters.length ≤ 10 := by
 simp only [zdV, Bool.and_eq_true, decide_eq_true_eq] at h
 exact ⟨h.1.1.1.1.1, h.1.1.1.1.2, h.1.1.1.2, h.1.1.2⟩
theorem small_yes {p : Poll} {i j : Nat} (h1 : zfe p.text = true) (h2 : zfd p.lexicon = true) (h3 : p.questions.length ≤ 10) (h4 : p.voters.length ≤ 10) (hA : (p.questions.take i).all zhp = true) (hi : p.questions.length ≤ i) (hV : (p.voters.take j).all smallV = true) (hj : p.voters.length ≤ j) : zdV p = true := by
 rw [List.take_of_length_le hi] at hA
 rw [List.take_of_length_le hj] at hV
 simp only [zdV, h1, h2, hA, hV, decide_eq_true h3, decide_eq_true h4, Bool.and_true]
theorem small_no (p : Poll) (h : zfe p.text = false ∨ zfd p.lexicon = false ∨ 10 < p.questions.length ∨ 10 < p.voters.length) : zdV p = false := by
 cases e : zdV p with
 | false => rfl
 | true =>
  have h2 := smallP_len e
  rcases h with h | h | h | h
  ·rw [h2.1] at h; cases h
  ·rw [h2.2.1] at h; cases h
  ·omega
  ·omega
theorem small_noq {p : Poll} {i : Nat} {q : Question} (hq : p.questions[i]? = some q) (h : zhp q = false) : zdV p = false := by
 have : p.questions.all zhp = false := List.all_eq_false.2 ⟨q, List.mem_of_getElem? hq, by simp [h]⟩
 simp only [zdV, this, Bool.and_false, Bool.false_and]
theorem small_nov {p : Poll} {i : Nat} {v : Voter} (hv : p.voters[i]? = some v) (h : 20 < v.votes.length) : zdV p = false := by
 have : p.voters.all smallV = false := List.all_eq_false.2 ⟨v, List.mem_of_getElem? hv, by simp [smallV]; omega⟩
 simp only [zdV, this, Bool.and_false]
theorem small_q6 {q : Question} (h : 6 < q.heads.length) : zhp q = false := by simp [zhp]; intros; omega
theorem small_qh {q : Question} {k : Nat} {hd : Head} (hh : q.heads[k]? = some hd) (h : 40 < hd.stem.length) : zhp q = false := by
 have : (q.heads.all fun h => decide (h.stem.length ≤ 40)) = false := List.all_eq_false.2 ⟨hd, List.mem_of_getElem? hh, by simp; omega⟩
 simp only [zhp, this, Bool.and_false]
theorem small_qy {q : Question} {k : Nat} (h : q.heads.length ≤ 6) (hB : ((q.heads.take k).all fun h => decide (h.stem.length ≤ 40)) = true) (hk : q.heads.length ≤ k) : zhp q = true := by
 rw [List.take_of_length_le hk] at hB
 simp only [zhp, hB, decide_eq_true h, Bool.and_true]
end Go.Pk

namespace Go.Pk
open Go Go.RowKit
def maxL : List Int → Int
 | [] => 0
 | a :: l => l.foldl maxI a
theorem maxL_take {l : List Int} {k : Nat} {x : Int} (h : l[k]? = some x) (hk : 1 ≤ k) : maxL (l.take (k + 1)) = maxI (maxL (l.take k)) x := by
 cases l with
 | nil => simp at h
 | cons a l =>
  obtain ⟨m, rfl⟩ : ∃ m, k = m + 1 := ⟨k - 1, by omega⟩
  simp only [List.getElem?_cons_succ] at h
  simp only [List.take_succ_cons, maxL]
  rw [zbf h, List.foldl_append]; rfl
theorem maxL_one {l : List Int} {x : Int} (h : l[0]? = some x) : maxL (l.take 1) = x := by
 cases l with
 | nil => simp at h
 | cons a l => simp at h; subst h; rfl
theorem worst3 (ts : List (List Int)) (q : Nat) {a b c : Int} (ha : a = (cntH ts q 0 : Nat)) (hb : b = (cntH ts q 1 : Nat)) (hc : c = (cntH ts q 2 : Nat)) : maxL [a, b, c] = zda ts q := by
 subst ha hb hc
 show maxI (maxI (cntH ts q 0 : Int) (cntH ts q 1 : Int)) (cntH ts q 2 : Int) = maxI (maxI (maxI 0 (cntH ts q 0 : Int)) (cntH ts q 1 : Int)) (cntH ts q 2 : Int)
 have e : maxI 0 (cntH ts q 0 : Int) = (cntH ts q 0 : Int) := by unfold maxI; split <;> omega
 rw [e]
theorem cmpL_lt : ∀ {a b : List Int}, a.length = b.length → decide (cmpL a b < 0) = ltL a b
 | [], [], _ => rfl
 | x :: a, y :: b, h => by
  have ih := cmpL_lt (a := a) (b := b) (by simpa using h)
  simp only [cmpL, ltL, cmpI]
  by_cases e : x = y
  ·subst e; simp; rw [← ih]
  ·rw [if_neg e]
   by_cases h1 : x < y
   ·simp [h1]
   ·have h2 : y < x := by omega
    simp [h1, h2]
 | [], _ :: _, h => by simp at h
 | _ :: _, [], h => by simp at h
theorem before_eq (a b : List Int) : decide (orL [(a.length : Int) - (b.length : Int), cmpL a b] < 0) = zjo a b := by
 unfold zjo
 by_cases e : a.length = b.length
 ·rw [if_neg (by omega), ← cmpL_lt e]
  simp only [orL, show (a.length : Int) - (b.length : Int) = 0 by omega, ne_eq, not_true_eq_false, if_false]
  by_cases h : cmpL a b = 0 <;> simp [h]
 rw [if_pos e]
 simp only [orL, ne_eq, show ¬ (a.length : Int) - (b.length : Int) = 0 by omega, not_false_eq_true, if_true]
 rw [Bool.eq_iff_iff, decide_eq_true_eq, decide_eq_true_eq]; omega
theorem members_none {s : Int} {n k : Nat} (h0 : 0 ≤ s) (h1 : s < 2 ^ n) (hk : n ≤ k) : bitN s (k : Int) = 0 := by
 have h2 : (2 : Int) ^ n ≤ 2 ^ k := by
  have := Nat.pow_le_pow_right (n := 2) (by omega) hk
  exact_mod_cast this
 rw [bitN, Int.toNat_natCast, Int.ediv_eq_zero_of_lt h0 (by omega)]; rfl
theorem members_top {s : Int} {n : Nat} (h0 : 0 ≤ s) (h1 : s < 2 ^ n) : ∀ d, zbS s (n + d) = zbS s n
 | 0 => rfl
 | d + 1 => by
  rw [← Nat.add_assoc, zjb, if_neg (by rw [members_none h0 h1 (by omega)]; decide), List.append_nil]
  exact members_top h0 h1 d
theorem members_six {s : Int} {n : Nat} (h0 : 0 ≤ s) (h1 : s < 2 ^ n) (hn : n ≤ 6) : zbS s 6 = zbS s n := by
 have := members_top h0 h1 (6 - n)
 rwa [show n + (6 - n) = 6 by omega] at this
def zfY {α : Type} (lt : α → α → Bool) (l : List α) : Option α := l.foldl (fun o x => match o with | none => some x | some b => if lt x b = true then some x else some b) none
def zek {α : Type} (lt : α → α → Bool) (z : α) (l : List α) : α := (zfY lt l).getD z
theorem zfh {α : Type} (lt : α → α → Bool) (l : List α) (x : α) : zfY lt (l ++ [x]) = match zfY lt l with | none => some x | some b => if lt x b = true then some x else some b := by simp [zfY]
theorem zim {α : Type} {lt : α → α → Bool} : ∀ {l : List α}, (zfY lt l).isSome = !l.isEmpty := by
 intro l
 rcases List.eq_nil_or_concat l with rfl | ⟨l, x, rfl⟩
 ·rfl
 rw [List.concat_eq_append, zfh]
 cases zfY lt l with
 | none => simp
 | some b => simp only; split <;> simp
theorem first_one {α : Type} {lt : α → α → Bool} {z x : α} {l : List α} (h : (!l.isEmpty) = false) : zek lt z (l ++ [x]) = x := by
 have e := zim (lt := lt) (l := l)
 rw [h] at e
 rw [zek, zfh]
 cases h2 : zfY lt l with
 | none => rfl
 | some b => rw [h2] at e; cases e
theorem first_new {α : Type} {lt : α → α → Bool} {z x : α} {l : List α} (h : (!l.isEmpty) = true) (hl : lt x (zek lt z l) = true) : zek lt z (l ++ [x]) = x := by
 have e := zim (lt := lt) (l := l)
 rw [h] at e
 rw [zek] at hl ⊢
 rw [zfh]
 cases h2 : zfY lt l with
 | none => rw [h2] at e; cases e
 | some b => rw [h2] at hl; simp only [Option.getD_some] at hl; simp [hl]
theorem first_old {α : Type} {lt : α → α → Bool} {z x : α} {l : List α} (h : (!l.isEmpty) = true) (hl : lt x (zek lt z l) = false) : zek lt z (l ++ [x]) = zek lt z l := by
 have e := zim (lt := lt) (l := l)
 rw [h] at e
 rw [zek] at hl ⊢
 rw [zek, zfh]
 cases h2 : zfY lt l with
 | none => rw [h2] at e; cases e
 | some b => rw [h2] at hl; simp only [Option.getD_some] at hl; simp [hl]
theorem firstO_mem {α : Type} {lt : α → α → Bool} : ∀ {l : List α} {o : Option α} {b : α}, l.foldl (fun o x => match o with | none => some x | some b => if lt x b = true then some x else some b) o = some b → b ∈ l ∨ o = some b
 | [], o, b, h => .inr h
 | x :: l, o, b, h => by
  rw [List.foldl_cons] at h
  rcases firstO_mem h with q | q
  ·exact .inl (List.mem_cons_of_mem _ q)
  ·cases o with
   | none => simp only [Option.some.injEq] at q; subst q; exact .inl List.mem_cons_self
   | some c =>
    simp only at q
    split at q
    ·simp only [Option.some.injEq] at q; subst q; exact .inl List.mem_cons_self
    ·exact .inr q
theorem firstL_mem {α : Type} {lt : α → α → Bool} {z : α} {l : List α} (h : (!l.isEmpty) = true) : zek lt z l ∈ l := by
 have e := zim (lt := lt) (l := l)
 rw [h] at e
 rw [zek]
 cases h2 : zfY lt l with
 | none => rw [h2] at e; cases e
 | some b =>
  rcases firstO_mem h2 with q | q
  ·exact q
  ·cases q
def askC (ts : List (List Int)) (n k : Nat) : List (List Int) := ((List.range k).filter fun (s : Nat) => ziV ts (zbS (s : Int) n)).map fun (s : Nat) => zbS (s : Int) n
theorem askC_succ (ts : List (List Int)) (n k : Nat) : askC ts n (k + 1) = askC ts n k ++ if ziV ts (zbS (k : Int) n) = true then [zbS (k : Int) n] else [] := by
 rw [askC, List.range_succ, List.filter_append, List.map_append, List.filter_cons, List.filter_nil, askC]
 by_cases h : ziV ts (zbS (k : Int) n) = true <;> simp [h]
theorem askK_first (ts : List (List Int)) (n : Nat) : ∀ k, zfY zjo (askC ts n k) = askK ts n k
 | 0 => rfl
 | k + 1 => by
  rw [askC_succ, askK, ← askK_first ts n k]
  by_cases h : ziV ts (zbS (k : Int) n) = true
  ·rw [if_pos h, zfh, h, Bool.and_true]
   cases zfY zjo (askC ts n k) with
   | none => rfl
   | some b => rfl
  ·rw [if_neg h, List.append_nil, Bool.not_eq_true] at *
   rw [h, Bool.and_false]; rfl
def nextC (ts : List (List Int)) (k : Nat) : List Int := ((List.range k).filter fun (q : Nat) => decide (zda ts q < (ts.length : Int))).map fun (q : Nat) => (q : Int)
theorem zja (ts : List (List Int)) (k : Nat) : nextC ts (k + 1) = nextC ts k ++ if zda ts k < (ts.length : Int) then [(k : Int)] else [] := by
 rw [nextC, List.range_succ, List.filter_append, List.map_append, List.filter_cons, List.filter_nil, nextC]
 by_cases h : zda ts k < (ts.length : Int) <;> simp [h]
def worseB (ts : List (List Int)) (a b : Int) : Bool := decide (zda ts a.toNat < zda ts b.toNat)
theorem maxI_le {a b c : Int} (h1 : a ≤ c) (h2 : b ≤ c) : maxI a b ≤ c := by unfold maxI; split <;> omega
theorem worst_le (ts : List (List Int)) (q : Nat) : zda ts q ≤ (ts.length : Int) := by
 have h : ∀ k, worstK ts q k ≤ (ts.length : Int) := by
  intro k
  induction k with
  | zero => simp [worstK]
  | succ k ih => exact maxI_le ih (by have := zfs ts q (k : Int); omega)
 exact h 3
theorem next_first (ts : List (List Int)) : ∀ k, zfY (worseB ts) (nextC ts (k + 1)) = if zda ts (zhc ts k) < (ts.length : Int) then some (zhc ts k : Int) else none
 | 0 => by
  rw [zja]
  by_cases h : zda ts 0 < (ts.length : Int)
  ·simp [h, zhc, nextC, zfY]
  ·simp [h, zhc, nextC, zfY]
 | k + 1 => by
  rw [zja, zhc]
  have ih := next_first ts k
  have h1 := worst_le ts (k + 1)
  have h2 := worst_le ts (zhc ts k)
  by_cases a : zda ts (k + 1) < zda ts (zhc ts k)
  ·rw [if_pos a, if_pos (show zda ts (k + 1) < (ts.length : Int) by omega), zfh, ih]
   by_cases b : zda ts (zhc ts k) < (ts.length : Int)
   ·rw [if_pos b]
    rw [if_pos (show zda ts (k + 1) < (ts.length : Int) by omega)]
    simp only [worseB, Int.toNat_natCast, decide_eq_true a, if_true]
   ·rw [if_neg b, if_pos (show zda ts (k + 1) < (ts.length : Int) by omega)]
  ·rw [if_neg a]
   by_cases b : zda ts (zhc ts k) < (ts.length : Int)
   ·by_cases c : zda ts (k + 1) < (ts.length : Int)
    ·rw [if_pos c, zfh, ih, if_pos b]
     simp only [worseB, Int.toNat_natCast, decide_eq_false a, Bool.false_eq_true, if_false]
    ·rw [if_neg c, List.append_nil, ih]
   ·rw [if_neg (show ¬ zda ts (k + 1) < (ts.length : Int) by omega), List.append_nil, ih]
theorem candL_nodup : ∀ ns : List Nat, (candL ns).Nodup
 | [] => by simp [candL]
 | n :: ns => by
  rw [candL, List.Nodup, List.pairwise_flatMap]
  refine ⟨fun h _ => ?_, ?_⟩
  ·rw [List.pairwise_map]
   exact (candL_nodup ns).imp fun hne e => hne (by simpa using e)
  ·refine (List.nodup_range (n := n)).imp fun hne => ?_
   intro x hx y hy e
   obtain ⟨t, _, rfl⟩ := List.mem_map.1 hx
   obtain ⟨u, _, rfl⟩ := List.mem_map.1 hy
   simp only [List.cons.injEq] at e
   exact hne (by omega)
theorem truths_nodup (p : Poll) : (zM p).Nodup := (candL_nodup _).filter _
theorem cnt_all {ts : List (List Int)} {q : Nat} {h : Int} (e : cntH ts q h = ts.length) {t : List Int} (ht : t ∈ ts) : t[q]? = some h := by
 have := List.length_filter_eq_length_iff.1 e t ht
 simpa using this
theorem worst_all {ts : List (List Int)} {q : Nat} (h : ¬ zda ts q < (ts.length : Int)) (h0 : 0 < ts.length) : ∃ a : Int, ∀ t ∈ ts, t[q]? = some a := by
 have h1 := worst_le ts q
 have h2 : zda ts q = (ts.length : Int) := by omega
 have h3 : zda ts q = maxI (maxI (maxI 0 (cntH ts q 0 : Int)) (cntH ts q 1 : Int)) (cntH ts q 2 : Int) := rfl
 have a0 := zfs ts q 0
 have a1 := zfs ts q 1
 have a2 := zfs ts q 2
 have : cntH ts q 0 = ts.length ∨ cntH ts q 1 = ts.length ∨ cntH ts q 2 = ts.length := by
  have h4 : ∀ a b c : Int, maxI a b = c → a = c ∨ b = c := by intro a b c e; unfold maxI at e; split at e <;> simp [e]
  rw [h3] at h2
  rcases h4 _ _ _ h2 with e | e
  ·rcases h4 _ _ _ e with e | e
   ·rcases h4 _ _ _ e with e | e
    ·omega
    ·left; omega
   ·right; left; omega
  ·right; right; omega
 rcases this with e | e | e
 ·exact ⟨0, fun t ht => cnt_all e ht⟩
 ·exact ⟨1, fun t ht => cnt_all e ht⟩
 exact ⟨2, fun t ht => cnt_all e ht⟩
theorem nextK_small {p : Poll} (hl : 1 < (zM p).length) : zda (zM p) (zhc (zM p) (p.questions.length - 1)) < ((zM p).length : Int) := by
 refine Classical.byContradiction fun hc => ?_
 -- all questions leave all
 have h1 : ∀ k q, q ≤ k → zda (zM p) (zhc (zM p) k) ≤ zda (zM p) q := by
  intro k
  induction k with
  | zero =>
   intro q hq
   obtain rfl : q = 0 := by omega
   exact Int.le_refl _
  | succ k ih =>
   intro q hq
   rw [zhc]
   by_cases a : zda (zM p) (k + 1) < zda (zM p) (zhc (zM p) k)
   ·rw [if_pos a]
    by_cases e : q = k + 1
    ·subst e; exact Int.le_refl _
    ·exact Int.le_trans (Int.le_of_lt a) (ih q (by omega))
   ·rw [if_neg a]
    by_cases e : q = k + 1
    ·subst e; omega
    ·exact ih q (by omega)
 obtain ⟨t0, h0⟩ : ∃ t, (zM p)[0]? = some t := ⟨_, List.getElem?_eq_getElem (by omega)⟩
 obtain ⟨t1, h2⟩ : ∃ t, (zM p)[1]? = some t := ⟨_, List.getElem?_eq_getElem (by omega)⟩
 have m0 := List.mem_of_getElem? h0
 have m1 := List.mem_of_getElem? h2
 have hne : t0 = t1 := by
  refine List.ext_getElem? fun q => ?_
  by_cases hq : q < p.questions.length
  ·obtain ⟨a, ha⟩ := worst_all (ts := zM p) (q := q) (by have := h1 (p.questions.length - 1) q (by omega); omega) (by omega)
   rw [ha t0 m0, ha t1 m1]
  ·rw [List.getElem?_eq_none (by rw [zdB m0]; omega), List.getElem?_eq_none (by rw [zdB m1]; omega)]
 have hn := truths_nodup p
 subst hne
 have e0 := (List.getElem?_eq_some_iff.1 h0).2
 have e1 := (List.getElem?_eq_some_iff.1 h2).2
 have := (List.nodup_iff_pairwise_ne.1 hn)
 rw [List.pairwise_iff_getElem] at this
 exact this 0 1 (by omega) (by omega) (by omega) (by rw [e0, e1])
theorem next_ok {p : Poll} (hl : 1 < (zM p).length) (hq : 0 < p.questions.length) : zek (worseB (zM p)) 0 (nextC (zM p) p.questions.length) = (zhc (zM p) (p.questions.length - 1) : Int) := by
 have h := next_first (zM p) (p.questions.length - 1)
 rw [show p.questions.length - 1 + 1 = p.questions.length by omega, if_pos (nextK_small hl)] at h
 rw [zek, h]; rfl
def zeV (t : List Int) (s : Int) (k j : Nat) : Int := if j < k then (t[j]?).getD 0 * bitN s (j : Int) else 0
def sixK (t : List Int) (s : Int) (k : Nat) : Six := ⟨zeV t s k 0, zeV t s k 1, zeV t s k 2, zeV t s k 3, zeV t s k 4, zeV t s k 5⟩
theorem zhG {t : List Int} {s : Int} {k j : Nat} (h : ¬ j = k) : zeV t s (k + 1) j = zeV t s k j := by
 unfold zeV
 by_cases e : j < k
 ·rw [if_pos e, if_pos (by omega)]
 rw [if_neg e, if_neg (by omega)]
theorem sixAt_new {t : List Int} {s x : Int} {k : Nat} (h : t[k]? = some x) : zeV t s (k + 1) k = x * bitN s (k : Int) := by
 rw [zeV, if_pos (by omega), h]; rfl
theorem bit_01 {s : Int} {j : Int} : bitN s j = 0 ∨ bitN s j = 1 := by rw [bitN]; omega
theorem zgI {t : List Int} {s x : Int} {k j : Nat} (hj : j = k) (h : t[k]? = some x) : zeV t s (k + 1) j = x * bitN s (k : Int) := by subst hj; exact sixAt_new h
theorem sixK_len {t : List Int} {s : Int} (h : t.length ≤ 6) : sixK t s t.length = sixK t s 6 := by
 have e : ∀ j, j < 6 → zeV t s t.length j = zeV t s 6 j := by
  intro j hj
  rw [zeV, zeV, if_pos hj]
  by_cases q : j < t.length
  ·rw [if_pos q]
  ·rw [if_neg q, List.getElem?_eq_none (by omega)]; simp
 simp only [sixK, e 0 (by omega), e 1 (by omega), e 2 (by omega), e 3 (by omega), e 4 (by omega), e 5 (by omega)]
theorem six_alike6 {t u : List Int} {s : Int} (ht : t.length ≤ 6) (hu : t.length = u.length) : alikeL t u (zbS s 6) = decide (sixK t s 6 = sixK u s 6) := by
 have hk : ∀ j : Nat, j < 6 → bitN s (j : Int) = 1 → (zeV t s 6 j = zeV u s 6 j ↔ t[j]? = u[j]?) := by
  intro j hj hb
  rw [zeV, zeV, if_pos hj, if_pos hj, hb, Int.mul_one, Int.mul_one]
  by_cases q : j < t.length
  ·rw [List.getElem?_eq_getElem q, List.getElem?_eq_getElem (by omega)]; simp
  ·rw [List.getElem?_eq_none (by omega), List.getElem?_eq_none (by omega)]; simp
 rw [Bool.eq_iff_iff, decide_eq_true_eq, alikeL, List.all_eq_true]
 have key : (∀ k ∈ zbS s 6, decide (t[k.toNat]? = u[k.toNat]?) = true) ↔ ∀ j, j < 6 → zeV t s 6 j = zeV u s 6 j := by
  constructor
  ·intro h j hj
   rcases bit_01 (s := s) (j := (j : Int)) with b | b
   ·rw [zeV, zeV, if_pos hj, if_pos hj, b, Int.mul_zero, Int.mul_zero]
   ·refine (hk j hj b).2 ?_
    have := h (j : Int) (List.mem_map.2 ⟨j, List.mem_filter.2 ⟨List.mem_range.2 hj, by simpa using b⟩, rfl⟩)
    simpa using this
  ·intro h k hk'
   obtain ⟨j, hj, rfl⟩ := List.mem_map.1 hk'
   have h1 := List.mem_range.1 (List.mem_filter.1 hj).1
   have h2 := (List.mem_filter.1 hj).2
   simp only [decide_eq_true_eq] at h2
   have := (hk j h1 h2).1 (h j h1)
   simpa using this
 rw [key]
 constructor
 ·intro h
  simp only [sixK, h 0 (by omega), h 1 (by omega), h 2 (by omega), h 3 (by omega), h 4 (by omega), h 5 (by omega)]
 intro h j hj
 simp only [sixK, Six.mk.injEq] at h
 obtain ⟨a0, a1, a2, a3, a4, a5⟩ := h
 match j, hj with
 | 0, _ => exact a0
 | 1, _ => exact a1
 | 2, _ => exact a2
 | 3, _ => exact a3
 | 4, _ => exact a4
 | 5, _ => exact a5
 | j + 6, hj => omega
def sixM (ts : List (List Int)) (s : Int) (i : Nat) (x : Six) : Option Bool := if ((ts.take i).any fun u => decide (sixK u s 6 = x)) = true then some true else none
theorem sixM_succ {ts : List (List Int)} {s : Int} {i : Nat} {t : List Int} (ht : ts[i]? = some t) (x : Six) : sixM ts s (i + 1) x = if x = sixK t s 6 then some true else sixM ts s i x := by
 rw [sixM, sixM, any_snoc ht]
 by_cases e : x = sixK t s 6
 ·rw [if_pos e, e]; simp
 rw [if_neg e, decide_eq_false (fun q => e q.symm), Bool.or_false]
theorem tells_next {ts : List (List Int)} {s : Int} {i : Nat} {t : List Int} (hl : ∀ t ∈ ts, t.length ≤ 6) (he : ∀ t ∈ ts, ∀ u ∈ ts, t.length = u.length) (ht : ts[i]? = some t) (h : (sixM ts s i (sixK t s 6)).getD false = false) : ziW ts (zbS s 6) i = true := by
 simp only [ziW, ht, List.all_eq_true]
 intro u hu
 have hm := List.mem_of_getElem? ht
 rw [six_alike6 (hl t hm) (he t hm u (List.mem_of_mem_take hu))]
 rw [sixM] at h
 split at h
 ·cases h
 rename_i q
 simp only [Bool.not_eq_true, List.any_eq_false, decide_eq_true_eq] at q
 simp only [Bool.not_eq_true', decide_eq_false_iff_not]
 exact fun e => q u hu e.symm
theorem tells_stop {ts : List (List Int)} {s : Int} {i : Nat} {t : List Int} (hl : ∀ t ∈ ts, t.length ≤ 6) (he : ∀ t ∈ ts, ∀ u ∈ ts, t.length = u.length) (ht : ts[i]? = some t) (h : (sixM ts s i (sixK t s 6)).getD false = true) : ziV ts (zbS s 6) = false := by
 refine tells_no (i := i) ?_
 simp only [ziW, ht]
 rw [sixM] at h
 split at h
 ·rename_i q
  obtain ⟨u, hu, e⟩ := List.any_eq_true.1 q
  have hm := List.mem_of_getElem? ht
  refine List.all_eq_false.2 ⟨u, hu, ?_⟩
  rw [six_alike6 (hl t hm) (he t hm u (List.mem_of_mem_take hu))]
  simp only [decide_eq_true_eq] at e
  simp [e]
 cases h
theorem sixM_none {ts : List (List Int)} {s : Int} {i : Nat} {x : Six} (h : (sixM ts s i x).getD false = false) : sixM ts s i x = none := by
 rw [sixM] at h ⊢
 split at h
 ·cases h
 rename_i q; rw [if_neg q]
theorem askC_six {ts : List (List Int)} {n : Nat} (hn : n ≤ 6) : ∀ k, k ≤ 2 ^ n → askC ts 6 k = askC ts n k := by
 intro k hk
 rw [askC, askC]
 have e : ∀ s ∈ List.range k, zbS (s : Int) 6 = zbS (s : Int) n := by
  intro s hs
  have := List.mem_range.1 hs
  refine members_six (by omega) ?_ hn
  have h2 : (s : Int) < ((2 ^ n : Nat) : Int) := by omega
  exact_mod_cast h2
 rw [List.filter_congr (q := fun (s : Nat) => ziV ts (zbS (s : Int) n)) fun s hs => by rw [e s hs]]
 exact List.map_congr_left fun s hs => e s (List.mem_filter.1 hs).1
theorem cnt_up {ts : List (List Int)} {i q : Nat} {t : List Int} {a : Int} (ht : ts[i]? = some t) (ha : t[q]? = some a) (h : Int) : ((cntH (ts.take (i + 1)) q h : Nat) : Int) = ((cntH (ts.take i) q h : Nat) : Int) + if a = h then 1 else 0 := by
 rw [cntH_snoc ht, ha]
 by_cases e : a = h <;> simp [e]
theorem next_pos {p : Poll} (h : 1 < (zM p).length) : 0 < p.questions.length := by
 refine Classical.byContradiction fun q => ?_
 have e : p.questions = [] := List.eq_nil_of_length_eq_zero (by omega)
 have h2 : (zM p).length ≤ 1 := by
  rw [zM, zdg, e]
  exact List.length_filter_le _ _
 omega
theorem zgo {p : Poll} (hp : zcJ p = true) {ls : List (List Int)} (hl : ∀ t ∈ ls, t ∈ zM p) {a : Int} (h0 : 0 ≤ a) (h1 : a < (p.questions.length : Int)) : ∀ t ∈ ls, ∃ x, t[a.toNat]? = some x ∧ 0 ≤ x ∧ x < 3 := by
 intro t ht
 obtain ⟨q, hq⟩ : ∃ q, p.questions[a.toNat]? = some q := ⟨_, List.getElem?_eq_getElem (by omega)⟩
 obtain ⟨x, hx, h2, h3⟩ := truth_at (hl t ht) hq
 have := (zgL hp hq).2.2.1
 exact ⟨x, hx, h2, by omega⟩
theorem truths_small {p : Poll} (hp : zcJ p = true) {ls : List (List Int)} (hl : ∀ t ∈ ls, t ∈ zM p) : ∀ t ∈ ls, ∀ a ∈ t, 0 ≤ a ∧ a ≤ 1000 := by
 intro t ht a ha
 obtain ⟨k, hk⟩ := List.mem_iff_getElem?.1 ha
 have hlt := (List.getElem?_eq_some_iff.1 hk).1
 rw [zdB (hl t ht)] at hlt
 obtain ⟨x, hx, h2, h3⟩ := zgo hp hl (a := (k : Int)) (by omega) (by omega) t ht
 rw [Int.toNat_natCast, hk] at hx
 cases hx
 omega
end Go.Pk
