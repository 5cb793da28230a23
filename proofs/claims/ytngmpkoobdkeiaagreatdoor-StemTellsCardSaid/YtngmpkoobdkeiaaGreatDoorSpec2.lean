/- MORE PLAIN MATHS: equality of lists, place by place. -/
import Derived.Test.YtngmpkoobdkeiaaGreatDoorSpec
namespace Go.Pk
open Go Go.RowKit
theorem eq_take_succ {α : Type} {a b : List α} {k : Nat} {x y : α} (h : a.take k = b.take k) (ha : a[k]? = some x) (hb : b[k]? = some y) (e : x = y) : a.take (k + 1) = b.take (k + 1) := by
  subst e
  rw [List.take_add_one, List.take_add_one, h, ha, hb]
theorem ne_of_get {α : Type} {a b : List α} {k : Nat} {x y : α} (ha : a[k]? = some x) (hb : b[k]? = some y) (e : x ≠ y) : a ≠ b := by
  rintro rfl
  rw [ha] at hb; cases hb; exact e rfl
theorem eq_of_take {α : Type} {a b : List α} {k : Nat} (h : a.take k = b.take k) (hl : a.length = b.length) (hk : a.length ≤ k) : a = b := by
  rwa [List.take_of_length_le hk, List.take_of_length_le (by omega)] at h
theorem letters_eq (s : Str) (lo : Int) : lettersB s lo = (inB s.length lo 12 && !(s.any fun c => decide ((c.toNat : Int) < 97) || decide (122 < (c.toNat : Int)))) := by
  unfold lettersB
  rw [Bool.and_comm]
  congr 1
  rw [List.not_any_eq_all_not]
  congr 1
  funext c
  simp only [isL, Bool.not_or]
  congr 1 <;> (rw [← decide_not]; congr 1; simp only [Int.not_lt])
theorem head_eq (h : Head) (h0 : 0 ≤ h.mark) : headB h = (lettersB h.stem 1 && decide (h.mark ≤ 3)) := by
  unfold headB wordB inB
  simp [h0]
theorem dec_eq (d : Decision) (k : Int) (f : Str) (a : Place) (t : Head) (o : Int) : (d = Decision.mk d.number k f a t o) ↔ (d.kind = k ∧ d.form = f ∧ d.at_ = a ∧ d.to = t ∧ d.of_ = o) := by
  rcases d with ⟨n, k', f', a', t', o'⟩
  simp
theorem at_ok {t : Text} {p : Place} (ht : textB t = true) : ((if (textB t && placeB t p) = true then (0 : Int) else if textB t = true then 12 else 10) = 0) = (placeB t p = true) := by
  cases h : placeB t p <;> simp [ht]
theorem dec1_t {t : Text} {d : Decision} (ht : textB t = true) (hk : d.kind = 1) (hn : (!inAll [d.number] 1 999) = false) (g : d = Decision.mk d.number d.kind d.form (Place.mk 0 0 0) d.to 0) (e0 : lettersB d.form 1 = true) (e1 : headB d.to = true) : true = decisionB t d := by
  rw [inAll_one] at hn
  rw [dec_eq] at g
  try rw [at_ok ht] at e0
  try rw [at_ok ht] at e1
  simp_all [decisionB, wordB, zPlace, zHead]
theorem dec1_f0 {t : Text} {d : Decision} (ht : textB t = true) (hk : d.kind = 1) (hn : (!inAll [d.number] 1 999) = false) (g : d = Decision.mk d.number d.kind d.form (Place.mk 0 0 0) d.to 0) (e0 : lettersB d.form 1 = false) : false = decisionB t d := by
  rw [inAll_one] at hn
  rw [dec_eq] at g
  try rw [at_ok ht] at e0
  simp_all [decisionB, wordB, zPlace, zHead]
theorem dec1_f1 {t : Text} {d : Decision} (ht : textB t = true) (hk : d.kind = 1) (hn : (!inAll [d.number] 1 999) = false) (g : d = Decision.mk d.number d.kind d.form (Place.mk 0 0 0) d.to 0) (e0 : lettersB d.form 1 = true) (e1 : headB d.to = false) : false = decisionB t d := by
  rw [inAll_one] at hn
  rw [dec_eq] at g
  try rw [at_ok ht] at e0
  try rw [at_ok ht] at e1
  simp_all [decisionB, wordB, zPlace, zHead]
theorem dec1_n {t : Text} {d : Decision} (ht : textB t = true) (hk : d.kind = 1) (hn : (!inAll [d.number] 1 999) = false) (g : ¬ d = Decision.mk d.number d.kind d.form (Place.mk 0 0 0) d.to 0) : false = decisionB t d := by
  rw [inAll_one] at hn
  rw [dec_eq] at g
  symm
  rw [Bool.eq_false_iff]
  intro q
  apply g
  simp [decisionB, hk, zPlace, zHead, Bool.and_eq_true] at q
  simp_all
theorem dec2_t {t : Text} {d : Decision} (ht : textB t = true) (hk : d.kind = 2) (hn : (!inAll [d.number] 1 999) = false) (g : d = Decision.mk d.number d.kind d.form d.at_ d.to 0) (e0 : lettersB d.form 1 = true) (e1 : ((if (textB t && placeB t d.at_) = true then (0 : Int) else if textB t = true then 12 else 10) = 0)) (e2 : headB d.to = true) : true = decisionB t d := by
  rw [inAll_one] at hn
  rw [dec_eq] at g
  try rw [at_ok ht] at e0
  try rw [at_ok ht] at e1
  try rw [at_ok ht] at e2
  simp_all [decisionB, wordB, zPlace, zHead]
theorem dec2_f0 {t : Text} {d : Decision} (ht : textB t = true) (hk : d.kind = 2) (hn : (!inAll [d.number] 1 999) = false) (g : d = Decision.mk d.number d.kind d.form d.at_ d.to 0) (e0 : lettersB d.form 1 = false) : false = decisionB t d := by
  rw [inAll_one] at hn
  rw [dec_eq] at g
  try rw [at_ok ht] at e0
  simp_all [decisionB, wordB, zPlace, zHead]
theorem dec2_f1 {t : Text} {d : Decision} (ht : textB t = true) (hk : d.kind = 2) (hn : (!inAll [d.number] 1 999) = false) (g : d = Decision.mk d.number d.kind d.form d.at_ d.to 0) (e0 : lettersB d.form 1 = true) (e1 : ¬ ((if (textB t && placeB t d.at_) = true then (0 : Int) else if textB t = true then 12 else 10) = 0)) : false = decisionB t d := by
  rw [inAll_one] at hn
  rw [dec_eq] at g
  try rw [at_ok ht] at e0
  try rw [at_ok ht] at e1
  simp_all [decisionB, wordB, zPlace, zHead]
theorem dec2_f2 {t : Text} {d : Decision} (ht : textB t = true) (hk : d.kind = 2) (hn : (!inAll [d.number] 1 999) = false) (g : d = Decision.mk d.number d.kind d.form d.at_ d.to 0) (e0 : lettersB d.form 1 = true) (e1 : ((if (textB t && placeB t d.at_) = true then (0 : Int) else if textB t = true then 12 else 10) = 0)) (e2 : headB d.to = false) : false = decisionB t d := by
  rw [inAll_one] at hn
  rw [dec_eq] at g
  try rw [at_ok ht] at e0
  try rw [at_ok ht] at e1
  try rw [at_ok ht] at e2
  simp_all [decisionB, wordB, zPlace, zHead]
theorem dec2_n {t : Text} {d : Decision} (ht : textB t = true) (hk : d.kind = 2) (hn : (!inAll [d.number] 1 999) = false) (g : ¬ d = Decision.mk d.number d.kind d.form d.at_ d.to 0) : false = decisionB t d := by
  rw [inAll_one] at hn
  rw [dec_eq] at g
  symm
  rw [Bool.eq_false_iff]
  intro q
  apply g
  simp [decisionB, hk, zPlace, zHead, Bool.and_eq_true] at q
  simp_all
theorem dec3_t {t : Text} {d : Decision} (ht : textB t = true) (hk : d.kind = 3) (hn : (!inAll [d.number] 1 999) = false) (g : d = Decision.mk d.number d.kind [] d.at_ d.to 0) (e0 : ((if (textB t && placeB t d.at_) = true then (0 : Int) else if textB t = true then 12 else 10) = 0)) (e1 : headB d.to = true) : true = decisionB t d := by
  rw [inAll_one] at hn
  rw [dec_eq] at g
  try rw [at_ok ht] at e0
  try rw [at_ok ht] at e1
  simp_all [decisionB, wordB, zPlace, zHead]
theorem dec3_f0 {t : Text} {d : Decision} (ht : textB t = true) (hk : d.kind = 3) (hn : (!inAll [d.number] 1 999) = false) (g : d = Decision.mk d.number d.kind [] d.at_ d.to 0) (e0 : ¬ ((if (textB t && placeB t d.at_) = true then (0 : Int) else if textB t = true then 12 else 10) = 0)) : false = decisionB t d := by
  rw [inAll_one] at hn
  rw [dec_eq] at g
  try rw [at_ok ht] at e0
  simp_all [decisionB, wordB, zPlace, zHead]
theorem dec3_f1 {t : Text} {d : Decision} (ht : textB t = true) (hk : d.kind = 3) (hn : (!inAll [d.number] 1 999) = false) (g : d = Decision.mk d.number d.kind [] d.at_ d.to 0) (e0 : ((if (textB t && placeB t d.at_) = true then (0 : Int) else if textB t = true then 12 else 10) = 0)) (e1 : headB d.to = false) : false = decisionB t d := by
  rw [inAll_one] at hn
  rw [dec_eq] at g
  try rw [at_ok ht] at e0
  try rw [at_ok ht] at e1
  simp_all [decisionB, wordB, zPlace, zHead]
theorem dec3_n {t : Text} {d : Decision} (ht : textB t = true) (hk : d.kind = 3) (hn : (!inAll [d.number] 1 999) = false) (g : ¬ d = Decision.mk d.number d.kind [] d.at_ d.to 0) : false = decisionB t d := by
  rw [inAll_one] at hn
  rw [dec_eq] at g
  symm
  rw [Bool.eq_false_iff]
  intro q
  apply g
  simp [decisionB, hk, zPlace, zHead, Bool.and_eq_true] at q
  simp_all
theorem dec4_t {t : Text} {d : Decision} (ht : textB t = true) (hk : d.kind = 4) (hn : (!inAll [d.number] 1 999) = false) (g : d = Decision.mk d.number d.kind [] (Place.mk 0 0 0) (Head.mk [] 0) d.of_) : inAll [d.of_] 1 (d.number - 1) = decisionB t d := by
  rw [inAll_one] at hn ⊢
  rw [dec_eq] at g
  simp_all [decisionB, wordB, zPlace, zHead]
theorem dec4_n {t : Text} {d : Decision} (ht : textB t = true) (hk : d.kind = 4) (hn : (!inAll [d.number] 1 999) = false) (g : ¬ d = Decision.mk d.number d.kind [] (Place.mk 0 0 0) (Head.mk [] 0) d.of_) : false = decisionB t d := by
  rw [inAll_one] at hn
  rw [dec_eq] at g
  symm
  rw [Bool.eq_false_iff]
  intro q
  apply g
  simp [decisionB, hk, zPlace, zHead, Bool.and_eq_true] at q
  have q1 := of_decide_eq_true q.2.1.1.2
  have q2 := of_decide_eq_true q.2.1.2
  have q3 := q.2.1.1.1
  simp_all
theorem line_le {h : Heap} {v : Value} {t : Text} (f : Sl LChapter h v t.chapters) (p : Place) : ((lineAt t p).getD []).length ≤ 281474976710656 := by
  cases e : lineAt t p with
  | none => simp
  | some l =>
    unfold lineAt at e
    split at e
    · cases e2 : t.chapters[p.chapter.toNat]? with
      | none => rw [e2] at e; cases e
      | some c =>
        rw [e2, Option.bind_some] at e
        obtain ⟨_, _, _, _, _, hr⟩ := Sl.elem f e2
        obtain ⟨v1, rfl, f1⟩ := hr
        obtain ⟨_, _, _, _, _, hr2⟩ := Sl.elem f1 e
        obtain ⟨v2, rfl, f2⟩ := hr2
        exact f2.le
    · cases e
theorem word_some {t : Text} {p : Place} {wd : Str} (hp : placeB t p = true) (hw : ((lineAt t p).getD [])[p.word.toNat]? = some wd) : wordAt t p = some wd := by
  unfold placeB wordAt at hp
  unfold wordAt
  split at hp
  · rename_i h1
    rw [if_pos h1]
    cases e : lineAt t p with
    | none => rw [e] at hw; cases hw
    | some l => rw [e] at hw; exact hw
  · cases hp
theorem word_none {t : Text} {p : Place} (hp : placeB t p = false) : wordAt t p = none := by
  unfold placeB at hp
  cases e : wordAt t p with
  | none => rfl
  | some l => rw [e] at hp; cases hp
/-- a pointer that is there just if c: to a box of its own, never turned again -/
def Box {α : Type} (L : Lay α) (h : Heap) (c : Bool) (x : α) (v : Value) : Prop := bif c then ∃ b vs, v = .pointer (some ⟨b, 0, none⟩) ∧ Cells h b 0 vs ∧ L.R h vs x else v = .pointer none
theorem Box.nil {α : Type} {L : Lay α} {h : Heap} {c : Bool} {x : α} (e : c = false) : Box L h c x (.pointer none) := by subst e; rfl
theorem Box.some {α : Type} {L : Lay α} {h : Heap} {c : Bool} {x : α} {b : Nat} {vs : List Value} (e : c = true) (hc : Cells h b 0 vs) (hr : L.R h vs x) : Box L h c x (.pointer (some ⟨b, 0, none⟩)) := by subst e; exact ⟨b, vs, rfl, hc, hr⟩
/-- what stem.Check asks of the k-th decision: its number is new, and it is valid -/
def decP (t : Text) (ds : List Decision) (k : Nat) : Bool := match ds[k]? with | some d => !(decide (d.number ∈ (ds.take k).map (·.number))) && decisionB t d | none => true
theorem decP_some {t : Text} {ds : List Decision} {k : Nat} {d : Decision} (h : ds[k]? = some d) : decP t ds k = (!(decide (d.number ∈ (ds.take k).map (·.number))) && decisionB t d) := by simp [decP, h]
theorem nodup_upto {α β : Type} {xs : List α} {f : α → β} (h : ∀ j y, xs[j]? = some y → f y ∉ (xs.take j).map f) : ∀ n, n ≤ xs.length → ((xs.take n).map f).Nodup
  | 0, _ => by simp
  | n + 1, hn => by
    have hy : xs[n]? = some xs[n] := List.getElem?_eq_getElem (by omega)
    rw [take_snoc hy, List.map_append, List.nodup_append]
    refine ⟨nodup_upto h n (by omega), by simp, ?_⟩
    intro a ha b hb e
    simp only [List.map_cons, List.map_nil, List.mem_singleton] at hb
    subst hb; subst e
    exact h n _ hy ha
theorem decisions_iff {t : Text} {ds : List Decision} {b : Bool} (h : b = true ↔ ∀ j, j < ds.length → decP t ds j = true) : b = (ds.all (decisionB t) && decide (ds.map (·.number)).Nodup) := by
  rw [Bool.eq_iff_iff, h, Bool.and_eq_true, decide_eq_true_eq, List.all_eq_true]
  constructor
  · intro hall
    have h1 : ∀ j y, ds[j]? = some y → y.number ∉ (ds.take j).map (·.number) ∧ decisionB t y = true := by
      intro j y hy
      have := hall j (List.getElem?_eq_some_iff.1 hy).1
      rw [decP_some hy] at this
      simpa using this
    refine ⟨fun y hy => ?_, ?_⟩
    · obtain ⟨j, hj⟩ := List.mem_iff_getElem?.1 hy
      exact (h1 j y hj).2
    · have := nodup_upto (f := (·.number)) (fun j y hy => (h1 j y hy).1) ds.length (Nat.le_refl _)
      rwa [List.take_length] at this
  · rintro ⟨h1, h2⟩ j hj
    have hy : ds[j]? = some ds[j] := List.getElem?_eq_getElem hj
    rw [decP_some hy, h1 _ (List.getElem_mem hj)]
    simp only [Bool.and_true, Bool.not_eq_true', decide_eq_false_iff_not]
    intro hm
    exact not_nodup_mem (f := (·.number)) hy hm h2
end Go.Pk
