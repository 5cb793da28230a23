/- THE PLAIN MATHEMATICS OF THE PROGRAM. -/
import Derived.Test.YtngmpkoobdkeiaaGreatDoorData
namespace Go.Pk
def inB (n lo hi : Int) : Bool := decide (lo ≤ n) && decide (n ≤ hi)
def isL (c : UInt8) : Bool := decide (97 ≤ (c.toNat : Int)) && decide ((c.toNat : Int) ≤ 122)
def lettersB (s : Str) (lo : Int) : Bool := s.all isL && inB s.length lo 12
def wordB (s : Str) : Bool := lettersB s 1
def lineB (l : List Str) : Bool := inB l.length 1 10 && l.all wordB
def chapterB (c : Chapter) : Bool := inB c.id 0 9999 && inB c.lines.length 1 10 && c.lines.all lineB
def textB (t : Text) : Bool := inB t.chapters.length 1 6 && t.chapters.all chapterB && decide (t.chapters.map (·.id)).Nodup
/-- the line of a place -/
def lineAt (t : Text) (p : Place) : Option (List Str) :=
  if 0 ≤ p.chapter ∧ 0 ≤ p.line then (t.chapters[p.chapter.toNat]?).bind fun c => c.lines[p.line.toNat]? else none
def wordAt (t : Text) (p : Place) : Option Str :=
  if 0 ≤ p.word then (lineAt t p).bind fun l => l[p.word.toNat]? else none
def placeB (t : Text) (p : Place) : Bool := (wordAt t p).isSome
def beforeB (a b : Place) : Bool :=
  if a.chapter ≠ b.chapter then decide (a.chapter < b.chapter) else if a.line ≠ b.line then decide (a.line < b.line) else decide (a.word < b.word)
def ruleB (r : Rule) : Bool := lettersB r.cut 1 && lettersB r.put 0 && decide (r.cut ≠ r.put) && inB r.least 1 12
def headB (h : Head) : Bool := wordB h.stem && inB h.mark 0 3
def zPlace : Place := ⟨0, 0, 0⟩
def zHead : Head := ⟨[], 0⟩
def zDecision : Decision := ⟨0, 0, [], zPlace, zHead, 0⟩
def decisionB (t : Text) (d : Decision) : Bool :=
  inB d.number 1 999 &&
  (if d.kind = 1 then wordB d.form && decide (d.at_ = zPlace) && headB d.to && decide (d.of_ = 0)
   else if d.kind = 2 then wordB d.form && placeB t d.at_ && headB d.to && decide (d.of_ = 0)
   else if d.kind = 3 then decide (d.form = []) && placeB t d.at_ && headB d.to && decide (d.of_ = 0)
   else if d.kind = 4 then decide (d.form = []) && decide (d.at_ = zPlace) && decide (d.to = zHead) && inB d.of_ 1 (d.number - 1)
   else false)
def lexiconB (t : Text) (x : Lexicon) : Bool :=
  decide (x.rules.length ≤ 12) && decide (x.decisions.length ≤ 20) && x.rules.all ruleB && x.decisions.all (decisionB t) && decide (x.decisions.map (·.number)).Nodup
def checkN (t : Text) (x : Lexicon) : Int := if textB t = false then 10 else if lexiconB t x = false then 40 else 0
/-- what a rule makes of a word -/
def made (r : Rule) (w : Str) : Option Str :=
  if r.cut.length ≤ w.length ∧ r.least ≤ ((w.length - r.cut.length : Nat) : Int) ∧ w.drop (w.length - r.cut.length) = r.cut ∧ w.length - r.cut.length + r.put.length ≤ 12 then some (w.take (w.length - r.cut.length) ++ r.put) else none
/-- the next step of a word, and its steps -/
def stepOf (rs : List Rule) (w : Str) : Option Str := rs.findSome? (made · w)
def stepsN (rs : List Rule) : Nat → Str → List Str
  | 0, w => [w]
  | n + 1, w => match stepOf rs w with
    | none => [w]
    | some s => w :: stepsN rs n s
theorem stepOf_cons (r : Rule) (rs : List Rule) (w : Str) : stepOf (r :: rs) w = match made r w with | some s => some s | none => stepOf rs w := by
  simp only [stepOf, List.findSome?_cons]
  cases made r w <;> rfl
theorem stepsN_some {rs : List Rule} {n m : Nat} {w s : Str} (hn : n = m + 1) (h : stepOf rs w = some s) : stepsN rs n w = w :: stepsN rs m s := by
  subst hn; simp [stepsN, h]
theorem stepsN_none {rs : List Rule} {n : Nat} {w : Str} (h : stepOf rs w = none) : stepsN rs n w = [w] := by
  cases n <;> simp [stepsN, h]
theorem drop_cons {α : Type} {xs : List α} {k : Nat} {y : α} (h : xs[k]? = some y) : xs.drop k = y :: xs.drop (k + 1) := by
  obtain ⟨h1, h2⟩ := List.getElem?_eq_some_iff.1 h
  rw [List.drop_eq_getElem_cons h1, h2]
theorem made_len {r : Rule} {w s : Str} (h : made r w = some s) : s.length ≤ 12 := by
  unfold made at h
  split at h
  · rename_i h1; cases h; simp; omega
  · cases h
theorem made_pos {r : Rule} {w s : Str} (hr : 1 ≤ r.least) (h : made r w = some s) : s ≠ [] := by
  unfold made at h
  split at h
  · rename_i h1; cases h
    intro e
    have := congrArg List.length e
    simp at this; omega
  · cases h
theorem stepOf_pos {rs : List Rule} {w s : Str} (hr : ∀ r ∈ rs, 1 ≤ r.least) (h : stepOf rs w = some s) : s ≠ [] := by
  induction rs with
  | nil => cases h
  | cons r rs ih =>
    rw [stepOf_cons] at h
    cases e : made r w with
    | none => rw [e] at h; exact ih (fun r hr' => hr r (List.mem_cons_of_mem _ hr')) h
    | some q => rw [e] at h; cases h; exact made_pos (hr r (List.mem_cons_self ..)) e
theorem lexicon_rules {t : Text} {x : Lexicon} (h : checkN t x = 0) : ∀ r ∈ x.rules, 1 ≤ r.least := by
  intro r hr
  unfold checkN at h
  split at h
  · cases h
  · split at h
    · cases h
    · rename_i h2
      have h3 : lexiconB t x = true := by simpa using h2
      simp only [lexiconB, Bool.and_eq_true, List.all_eq_true] at h3
      have h4 := h3.1.1.2 r hr
      simp only [ruleB, inB, Bool.and_eq_true, decide_eq_true_eq] at h4
      omega
theorem word_len {s : Str} (h : wordB s = true) : s.length ≤ 12 := by
  simp only [wordB, lettersB, inB, Bool.and_eq_true, decide_eq_true_eq] at h
  omega
def stepsR (t : Text) (x : Lexicon) (w : Str) : List Str := if checkN t x = 0 ∧ wordB w = true then stepsN x.rules 4 w else []
def stepsE (t : Text) (x : Lexicon) (w : Str) : Int := if checkN t x ≠ 0 then checkN t x else if wordB w then 0 else 2
/-- whether a decision stands: none that stands makes it void -/
def standsF (x : Lexicon) : Nat → Decision → Bool
  | 0, _ => true
  | n + 1, d => x.decisions.all fun v => !(decide (v.kind = 4) && decide (v.of_ = d.number) && standsF x n v)
def voids (x : Lexicon) (n : Nat) (d v : Decision) : Bool := !(decide (v.kind = 4) && decide (v.of_ = d.number) && standsF x (n - 1) v)
theorem standsF_eq {x : Lexicon} {n : Nat} {d : Decision} (hv : ∀ v ∈ x.decisions, v.number ≤ 999 ∧ (v.kind = 4 → v.of_ < v.number)) (hn : 999 < d.number + n) : standsF x n d = x.decisions.all (voids x n d) := by
  cases n with
  | succ n => rfl
  | zero =>
    simp only [standsF]
    symm
    rw [List.all_eq_true]
    intro v hm
    obtain ⟨h1, h2⟩ := hv v hm
    simp only [voids, Bool.not_eq_true', Bool.and_eq_false_iff, decide_eq_false_iff_not]
    left
    by_cases h : v.kind = 4
    · right; have := h2 h; omega
    · left; exact h
def standsB (x : Lexicon) (d : Decision) : Bool := standsF x 1000 d
/-- the decisions that stand, by their Numbers -/
def standP (x : Lexicon) (n : Nat) (d : Decision) : Bool := decide (d.number = (n : Int) + 1) && standsF x 1000 d
def standAt (x : Lexicon) (n : Nat) : List Decision := x.decisions.filter (standP x n)
def standingR (x : Lexicon) : List Decision := (List.range 999).flatMap (standAt x)
theorem stand_len {x : Lexicon} (n : Nat) (h : x.decisions.length ≤ 20) : ((List.range n).flatMap (standAt x)).length ≤ 20 * n := by
  induction n with
  | zero => simp
  | succ n ih =>
    rw [List.range_succ, List.flatMap_append, List.length_append]
    have := List.length_filter_le (standP x n) x.decisions
    simp only [List.flatMap_cons, List.flatMap_nil, List.append_nil, standAt]
    omega
def standingN (t : Text) (x : Lexicon) : List Int := if checkN t x = 0 then (standingR x).map (·.number) else []
theorem lexicon_of {t : Text} {x : Lexicon} (h : checkN t x = 0) : textB t = true ∧ lexiconB t x = true := by
  unfold checkN at h
  split at h
  · cases h
  · rename_i h1
    split at h
    · cases h
    · rename_i h2; exact ⟨by simpa using h1, by simpa using h2⟩
theorem lexicon_dec {t : Text} {x : Lexicon} (h : checkN t x = 0) : ∀ v ∈ x.decisions, decisionB t v = true := by
  have h1 := (lexicon_of h).2
  simp only [lexiconB, Bool.and_eq_true, List.all_eq_true] at h1
  exact h1.1.2
theorem lexicon_v {t : Text} {x : Lexicon} (h : checkN t x = 0) : ∀ v ∈ x.decisions, v.number ≤ 999 ∧ (v.kind = 4 → v.of_ < v.number) := by
  intro v hv
  have h1 := lexicon_dec h v hv
  simp only [decisionB, Bool.and_eq_true, inB, decide_eq_true_eq] at h1
  refine ⟨h1.1.2, fun h4 => ?_⟩
  have h2 := h1.2
  rw [h4] at h2
  simp at h2
  omega
theorem lexicon_v1 {t : Text} {x : Lexicon} (h : checkN t x = 0) : ∀ v ∈ x.decisions, 1 ≤ v.number := by
  intro v hv
  have h1 := lexicon_dec h v hv
  simp only [decisionB, Bool.and_eq_true, inB, decide_eq_true_eq] at h1
  exact h1.1.1
theorem lexicon_20 {t : Text} {x : Lexicon} (h : checkN t x = 0) : x.decisions.length ≤ 20 := by
  have h1 := (lexicon_of h).2
  simp only [lexiconB, Bool.and_eq_true, decide_eq_true_eq] at h1
  exact h1.1.1.1.2
/-- all numbers are within -/
def inAll (l : List Int) (lo hi : Int) : Bool := l.all fun n => inB n lo hi
theorem inAll_eq (l : List Int) (lo hi : Int) : (!(l.any fun n => decide (n < lo) || decide (hi < n))) = inAll l lo hi := by
  unfold inAll
  rw [List.not_any_eq_all_not]
  congr 1
  funext n
  simp only [inB, Bool.not_or]
  by_cases h1 : n < lo <;> by_cases h2 : hi < n <;> simp [h1, h2] <;> omega
@[simp] theorem inAll_one (n lo hi : Int) : inAll [n] lo hi = inB n lo hi := by simp [inAll]
theorem letters_any (s : Str) : ((s.map fun c => (c.toNat : Int)).any fun b => decide (b < 97) || decide (122 < b)) = !(s.all isL) := by
  rw [List.any_map, List.not_all_eq_any_not]
  congr 1
  funext c
  simp only [Function.comp, isL, Bool.not_and]
  by_cases h1 : (c.toNat : Int) < 97 <;> by_cases h2 : 122 < (c.toNat : Int) <;> simp [h1, h2] <;> omega
theorem wordB_eq (s : Str) : wordB s = (inB s.length 1 12 && !((s.map fun c => (c.toNat : Int)).any fun b => decide (b < 97) || decide (122 < b))) := by
  rw [letters_any, wordB, lettersB, Bool.not_not, Bool.and_comm]
theorem place_eq (t : Text) (p : Place) : placeB t p = ((lineAt t p).isSome && inB p.word 0 ((((lineAt t p).getD []).length : Int) - 1)) := by
  unfold placeB wordAt
  cases h : lineAt t p with
  | none => simp
  | some l =>
    simp only [Option.bind_some, Option.isSome_some, Option.getD_some, Bool.true_and, inB]
    by_cases h1 : 0 ≤ p.word
    · rw [if_pos h1]
      by_cases h2 : p.word ≤ (l.length : Int) - 1
      · rw [List.getElem?_eq_getElem (by omega)]; simp [h1, h2]
      · rw [List.getElem?_eq_none (by omega)]; simp [h2]
    · rw [if_neg h1]; simp [h1]
theorem line_none1 {t : Text} {p : Place} (h : ¬ (0 ≤ p.chapter ∧ p.chapter ≤ (t.chapters.length : Int) - 1)) : lineAt t p = none := by
  unfold lineAt
  split
  · rename_i h1
    rw [List.getElem?_eq_none (by omega)]; rfl
  · rfl
theorem line_none2 {t : Text} {p : Place} {c : Chapter} (hc : t.chapters[p.chapter.toNat]? = some c) (h : ¬ (0 ≤ p.line ∧ p.line ≤ (c.lines.length : Int) - 1)) : lineAt t p = none := by
  unfold lineAt
  split
  · rename_i h1
    rw [hc]
    exact List.getElem?_eq_none (by omega)
  · rfl
theorem line_some {t : Text} {p : Place} {c : Chapter} {l : List Str} (hc : t.chapters[p.chapter.toNat]? = some c) (h : 0 ≤ p.chapter) (hl : c.lines[p.line.toNat]? = some l) (h2 : 0 ≤ p.line) : lineAt t p = some l := by
  unfold lineAt
  rw [if_pos ⟨h, h2⟩, hc]; exact hl
section
variable {α : Type} {xs : List α} {k : Nat} {y : α} {p : α → Bool}
theorem all_take_succ (h : (xs.take k).all p = true) (hy : xs[k]? = some y) (hp : p y = true) : (xs.take (k + 1)).all p = true := by
  rw [take_snoc hy, List.all_append, h]; simp [hp]
theorem all_of_take (h : (xs.take k).all p = true) (hk : xs.length ≤ k) : xs.all p = true := by
  rwa [List.take_of_length_le hk] at h
theorem nodup_take_succ {β : Type} {f : α → β} (h : ((xs.take k).map f).Nodup) (hy : xs[k]? = some y) (hk : k ≤ xs.length) (hd : ∀ j z, j < k → xs[j]? = some z → f z ≠ f y) : ((xs.take (k + 1)).map f).Nodup := by
  rw [take_snoc hy, List.map_append, List.nodup_append]
  refine ⟨h, by simp, ?_⟩
  intro a ha b hb e
  simp only [List.map_cons, List.map_nil, List.mem_singleton] at hb
  subst hb
  subst e
  obtain ⟨z, hz, e⟩ := List.mem_map.1 ha
  obtain ⟨j, hj⟩ := List.mem_iff_getElem?.1 hz
  rw [List.getElem?_take] at hj
  split at hj
  · exact hd j z (by assumption) hj e
  · cases hj
theorem not_nodup {β : Type} {f : α → β} {j : Nat} {z : α} (hz : xs[j]? = some z) (hy : xs[k]? = some y) (hj : j < k) (e : f z = f y) : ¬ (xs.map f).Nodup := by
  intro h
  obtain ⟨h1, h2⟩ := List.getElem?_eq_some_iff.1 hz
  obtain ⟨h3, h4⟩ := List.getElem?_eq_some_iff.1 hy
  have h5 := List.pairwise_iff_getElem.1 h j k (by simpa using h1) (by simpa using h3) hj
  simp only [List.getElem_map, h2, h4] at h5
  exact h5 e
theorem not_nodup_mem {β : Type} {f : α → β} (hy : xs[k]? = some y) (h : f y ∈ (xs.take k).map f) : ¬ (xs.map f).Nodup := by
  obtain ⟨z, hz, e⟩ := List.mem_map.1 h
  obtain ⟨j, hj⟩ := List.mem_iff_getElem?.1 hz
  rw [List.getElem?_take] at hj
  split at hj
  · exact not_nodup hj hy (by assumption) e
  · cases hj
theorem any_not (q : α → Bool) : (xs.any fun x => !q x) = !(xs.all q) := by rw [List.not_all_eq_any_not]
theorem not_all (hy : xs[k]? = some y) (hp : p y = false) : xs.all p = false := by
  rw [List.all_eq_false]
  exact ⟨y, List.mem_of_getElem? hy, by simp [hp]⟩
end
end Go.Pk
