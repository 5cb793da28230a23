/- A PART OF THE PROOF: contracts of functions, each walked once (much of it printed by a program of the author's own). -/
import Derived.Test.YtfgkfdglomngiaaGreatDoorT1
import Derived.Test.YtfgkfdglomngiaaGreatDoorT0
import Derived.Shelf.SlSortCmp.NoneTotal
import Derived.Carry
import Derived.LaidMore
import Derived.SizedLaws
import Derived.Deep.DeepHandedRow
import Derived.ProofKit
import Derived.OpenShut
import Derived.ChangeMaps5
import Derived.RangeFuncRecord
import Derived.RangeFuncIn
import Derived.RangeFuncLeaves
import Derived.Lib.Bytealg
set_option linter.unusedSimpArgs false
set_option linter.unusedVariables false
namespace Go.Pk
open Go Go.RowKit
theorem eq_take_succ {α : Type} {a b : List α} {k : Nat} {x y : α} (h : a.take k = b.take k) (ha : a[k]? = some x) (hb : b[k]? = some y) (e : x = y) : a.take (k + 1) = b.take (k + 1) := by
 subst e
 rw [List.take_add_one, List.take_add_one, h, ha, hb]
theorem ne_of_get {α : Type} {a b : List α} {k : Nat} {x y : α} (ha : a[k]? = some x) (hb : b[k]? = some y) (e : x ≠ y) : a ≠ b := by
 rintro rfl
 rw [ha] at hb; cases hb; exact e rfl
theorem eq_of_take {α : Type} {a b : List α} {k : Nat} (h : a.take k = b.take k) (hl : a.length = b.length) (hk : a.length ≤ k) : a = b := by
 rwa [List.take_of_length_le hk, List.take_of_length_le (by omega)] at h
theorem letters_eq (s : Str) (lo : Int) : lettersB s lo = (inB s.length lo 12 && !(s.any fun c => decide ((c.toNat : Int) < 97) || decide (122 < (c.toNat : Int)))) := by
 unfold lettersB
 rw [Bool.and_comm]
 congr 1
 rw [List.not_any_eq_all_not]
 congr 1
 funext c
 simp only [isL, Bool.not_or]
 congr 1 <;> (rw [← decide_not]; congr 1; simp only [Int.not_lt])
theorem head_eq (h : Head) (h0 : 0 ≤ h.mark) : headB h = (lettersB h.stem 1 && decide (h.mark ≤ 3)) := by
 unfold headB wordB inB
 simp [h0]
theorem dec_eq (d : Decision) (k : Int) (f : Str) (a : Place) (t : Head) (o : Int) : (d = Decision.mk d.number k f a t o) ↔ (d.kind = k ∧ d.form = f ∧ d.at_ = a ∧ d.to = t ∧ d.of_ = o) := by
 rcases d with ⟨n, k', f', a', t', o'⟩
 simp
theorem at_ok {t : Text} {p : Place} (ht : textB t = true) : ((if (textB t && placeB t p) = true then (0 : Int) else if textB t = true then 12 else 10) = 0) = (placeB t p = true) := by
 cases h : placeB t p <;> simp [ht]
theorem dec1_t {t : Text} {d : Decision} (ht : textB t = true) (hk : d.kind = 1) (hn : (!inAll [d.number] 1 999) = false) (g : d = Decision.mk d.number d.kind d.form (Place.mk 0 0 0) d.to 0) (e0 : lettersB d.form 1 = true) (e1 : headB d.to = true) : true = decisionB t d := by
 rw [inAll_one] at hn
 rw [dec_eq] at g
 try rw [at_ok ht] at e0
 try rw [at_ok ht] at e1
 simp_all [decisionB, wordB, zPlace, zHead]
theorem dec1_f0 {t : Text} {d : Decision} (ht : textB t = true) (hk : d.kind = 1) (hn : (!inAll [d.number] 1 999) = false) (g : d = Decision.mk d.number d.kind d.form (Place.mk 0 0 0) d.to 0) (e0 : lettersB d.form 1 = false) : false = decisionB t d := by
 rw [inAll_one] at hn
 rw [dec_eq] at g
 try rw [at_ok ht] at e0
 simp_all [decisionB, wordB, zPlace, zHead]
theorem dec1_f1 {t : Text} {d : Decision} (ht : textB t = true) (hk : d.kind = 1) (hn : (!inAll [d.number] 1 999) = false) (g : d = Decision.mk d.number d.kind d.form (Place.mk 0 0 0) d.to 0) (e0 : lettersB d.form 1 = true) (e1 : headB d.to = false) : false = decisionB t d := by
 rw [inAll_one] at hn
 rw [dec_eq] at g
 try rw [at_ok ht] at e0
 try rw [at_ok ht] at e1
 simp_all [decisionB, wordB, zPlace, zHead]
theorem dec1_n {t : Text} {d : Decision} (ht : textB t = true) (hk : d.kind = 1) (hn : (!inAll [d.number] 1 999) = false) (g : ¬ d = Decision.mk d.number d.kind d.form (Place.mk 0 0 0) d.to 0) : false = decisionB t d := by
 rw [inAll_one] at hn
 rw [dec_eq] at g
 symm
 rw [Bool.eq_false_iff]
 intro q
 apply g
 simp [decisionB, hk, zPlace, zHead, Bool.and_eq_true] at q
 simp_all
theorem dec2_t {t : Text} {d : Decision} (ht : textB t = true) (hk : d.kind = 2) (hn : (!inAll [d.number] 1 999) = false) (g : d = Decision.mk d.number d.kind d.form d.at_ d.to 0) (e0 : lettersB d.form 1 = true) (e1 : ((if (textB t && placeB t d.at_) = true then (0 : Int) else if textB t = true then 12 else 10) = 0)) (e2 : headB d.to = true) : true = decisionB t d := by
 rw [inAll_one] at hn
 rw [dec_eq] at g
 try rw [at_ok ht] at e0
 try rw [at_ok ht] at e1
 try rw [at_ok ht] at e2
 simp_all [decisionB, wordB, zPlace, zHead]
theorem dec2_f0 {t : Text} {d : Decision} (ht : textB t = true) (hk : d.kind = 2) (hn : (!inAll [d.number] 1 999) = false) (g : d = Decision.mk d.number d.kind d.form d.at_ d.to 0) (e0 : lettersB d.form 1 = false) : false = decisionB t d := by
 rw [inAll_one] at hn
 rw [dec_eq] at g
 try rw [at_ok ht] at e0
 simp_all [decisionB, wordB, zPlace, zHead]
theorem dec2_f1 {t : Text} {d : Decision} (ht : textB t = true) (hk : d.kind = 2) (hn : (!inAll [d.number] 1 999) = false) (g : d = Decision.mk d.number d.kind d.form d.at_ d.to 0) (e0 : lettersB d.form 1 = true) (e1 : ¬ ((if (textB t && placeB t d.at_) = true then (0 : Int) else if textB t = true then 12 else 10) = 0)) : false = decisionB t d := by
 rw [inAll_one] at hn
 rw [dec_eq] at g
 try rw [at_ok ht] at e0
 try rw [at_ok ht] at e1
 simp_all [decisionB, wordB, zPlace, zHead]
theorem dec2_f2 {t : Text} {d : Decision} (ht : textB t = true) (hk : d.kind = 2) (hn : (!inAll [d.number] 1 999) = false) (g : d = Decision.mk d.number d.kind d.form d.at_ d.to 0) (e0 : lettersB d.form 1 = true) (e1 : ((if (textB t && placeB t d.at_) = true then (0 : Int) else if textB t = true then 12 else 10) = 0)) (e2 : headB d.to = false) : false = decisionB t d := by
 rw [inAll_one] at hn
 rw [dec_eq] at g
 try rw [at_ok ht] at e0
 try rw [at_ok ht] at e1
 try rw [at_ok ht] at e2
 simp_all [decisionB, wordB, zPlace, zHead]
theorem dec2_n {t : Text} {d : Decision} (ht : textB t = true) (hk : d.kind = 2) (hn : (!inAll [d.number] 1 999) = false) (g : ¬ d = Decision.mk d.number d.kind d.form d.at_ d.to 0) : false = decisionB t d := by
 rw [inAll_one] at hn
 rw [dec_eq] at g
 symm
 rw [Bool.eq_false_iff]
 intro q
 apply g
 simp [decisionB, hk, zPlace, zHead, Bool.and_eq_true] at q
 simp_all
theorem dec3_t {t : Text} {d : Decision} (ht : textB t = true) (hk : d.kind = 3) (hn : (!inAll [d.number] 1 999) = false) (g : d = Decision.mk d.number d.kind [] d.at_ d.to 0) (e0 : ((if (textB t && placeB t d.at_) = true then (0 : Int) else if textB t = true then 12 else 10) = 0)) (e1 : headB d.to = true) : true = decisionB t d := by
 rw [inAll_one] at hn
 rw [dec_eq] at g
 try rw [at_ok ht] at e0
 try rw [at_ok ht] at e1
 simp_all [decisionB, wordB, zPlace, zHead]
theorem dec3_f0 {t : Text} {d : Decision} (ht : textB t = true) (hk : d.kind = 3) (hn : (!inAll [d.number] 1 999) = false) (g : d = Decision.mk d.number d.kind [] d.at_ d.to 0) (e0 : ¬ ((if (textB t && placeB t d.at_) = true then (0 : Int) else if textB t = true then 12 else 10) = 0)) : false = decisionB t d := by
 rw [inAll_one] at hn
 rw [dec_eq] at g
 try rw [at_ok ht] at e0
 simp_all [decisionB, wordB, zPlace, zHead]
theorem dec3_f1 {t : Text} {d : Decision} (ht : textB t = true) (hk : d.kind = 3) (hn : (!inAll [d.number] 1 999) = false) (g : d = Decision.mk d.number d.kind [] d.at_ d.to 0) (e0 : ((if (textB t && placeB t d.at_) = true then (0 : Int) else if textB t = true then 12 else 10) = 0)) (e1 : headB d.to = false) : false = decisionB t d := by
 rw [inAll_one] at hn
 rw [dec_eq] at g
 try rw [at_ok ht] at e0
 try rw [at_ok ht] at e1
 simp_all [decisionB, wordB, zPlace, zHead]
theorem dec3_n {t : Text} {d : Decision} (ht : textB t = true) (hk : d.kind = 3) (hn : (!inAll [d.number] 1 999) = false) (g : ¬ d = Decision.mk d.number d.kind [] d.at_ d.to 0) : false = decisionB t d := by
 rw [inAll_one] at hn
 rw [dec_eq] at g
 symm
 rw [Bool.eq_false_iff]
 intro q
 apply g
 simp [decisionB, hk, zPlace, zHead, Bool.and_eq_true] at q
 simp_all
theorem dec4_t {t : Text} {d : Decision} (ht : textB t = true) (hk : d.kind = 4) (hn : (!inAll [d.number] 1 999) = false) (g : d = Decision.mk d.number d.kind [] (Place.mk 0 0 0) (Head.mk [] 0) d.of_) : inAll [d.of_] 1 (d.number - 1) = decisionB t d := by
 rw [inAll_one] at hn ⊢
 rw [dec_eq] at g
 simp_all [decisionB, wordB, zPlace, zHead]
theorem dec4_n {t : Text} {d : Decision} (ht : textB t = true) (hk : d.kind = 4) (hn : (!inAll [d.number] 1 999) = false) (g : ¬ d = Decision.mk d.number d.kind [] (Place.mk 0 0 0) (Head.mk [] 0) d.of_) : false = decisionB t d := by
 rw [inAll_one] at hn
 rw [dec_eq] at g
 symm
 rw [Bool.eq_false_iff]
 intro q
 apply g
 simp [decisionB, hk, zPlace, zHead, Bool.and_eq_true] at q
 have q1 := of_decide_eq_true q.2.1.1.2
 have q2 := of_decide_eq_true q.2.1.2
 have q3 := q.2.1.1.1
 simp_all
theorem line_le {h : Heap} {v : Value} {t : Text} (f : Sl LChapter h v t.chapters) (p : Place) : ((lineAt t p).getD []).length ≤ 281474976710656 := by
 cases e : lineAt t p with
 | none => simp
 | some l =>
  unfold lineAt at e
  split at e
  ·cases e2 : t.chapters[p.chapter.toNat]? with
   | none => rw [e2] at e; cases e
   | some c =>
    rw [e2, Option.bind_some] at e
    obtain ⟨_, _, _, _, _, hr⟩ := Sl.elem f e2
    obtain ⟨v1, rfl, f1⟩ := hr
    obtain ⟨_, _, _, _, _, hr2⟩ := Sl.elem f1 e
    obtain ⟨v2, rfl, f2⟩ := hr2
    exact f2.le
  ·cases e
theorem word_some {t : Text} {p : Place} {wd : Str} (hp : placeB t p = true) (hw : ((lineAt t p).getD [])[p.word.toNat]? = some wd) : wordAt t p = some wd := by
 unfold placeB wordAt at hp
 unfold wordAt
 split at hp
 ·rename_i h1
  rw [if_pos h1]
  cases e : lineAt t p with
  | none => rw [e] at hw; cases hw
  | some l => rw [e] at hw; exact hw
 ·cases hp
theorem word_none {t : Text} {p : Place} (hp : placeB t p = false) : wordAt t p = none := by
 unfold placeB at hp
 cases e : wordAt t p with
 | none => rfl
 | some l => rw [e] at hp; cases hp
/-- a pointer that is there just if c: to a box of its own, never turned again -/
def Box {α : Type} (L : Lay α) (h : Heap) (c : Bool) (x : α) (v : Value) : Prop := bif c then ∃ b vs, v = .pointer (some ⟨b, 0, none⟩) ∧ Cells h b 0 vs ∧ L.R h vs x else v = .pointer none
theorem Box.nil {α : Type} {L : Lay α} {h : Heap} {c : Bool} {x : α} (e : c = false) : Box L h c x (.pointer none) := by subst e; rfl
theorem Box.some {α : Type} {L : Lay α} {h : Heap} {c : Bool} {x : α} {b : Nat} {vs : List Value} (e : c = true) (hc : Cells h b 0 vs) (hr : L.R h vs x) : Box L h c x (.pointer (some ⟨b, 0, none⟩)) := by subst e; exact ⟨b, vs, rfl, hc, hr⟩
/-- what stem.Check asks of the k-th decision: its number is new, and it is valid -/
def decP (t : Text) (ds : List Decision) (k : Nat) : Bool := match ds[k]? with | some d => !(decide (d.number ∈ (ds.take k).map (·.number))) && decisionB t d | none => true
theorem decP_some {t : Text} {ds : List Decision} {k : Nat} {d : Decision} (h : ds[k]? = some d) : decP t ds k = (!(decide (d.number ∈ (ds.take k).map (·.number))) && decisionB t d) := by simp [decP, h]
theorem nodup_upto {α β : Type} {xs : List α} {f : α → β} (h : ∀ j y, xs[j]? = some y → f y ∉ (xs.take j).map f) : ∀ n, n ≤ xs.length → ((xs.take n).map f).Nodup
 | 0, _ => by simp
 | n + 1, hn => by
  have hy : xs[n]? = some xs[n] := List.getElem?_eq_getElem (by omega)
  rw [take_snoc hy, List.map_append, List.nodup_append]
  refine ⟨nodup_upto h n (by omega), by simp, ?_⟩
  intro a ha b hb e
  simp only [List.map_cons, List.map_nil, List.mem_singleton] at hb
  subst hb; subst e
  exact h n _ hy ha
theorem decisions_iff {t : Text} {ds : List Decision} {b : Bool} (h : b = true ↔ ∀ j, j < ds.length → decP t ds j = true) : b = (ds.all (decisionB t) && decide (ds.map (·.number)).Nodup) := by
 rw [Bool.eq_iff_iff, h, Bool.and_eq_true, decide_eq_true_eq, List.all_eq_true]
 constructor
 ·intro hall
  have h1 : ∀ j y, ds[j]? = some y → y.number ∉ (ds.take j).map (·.number) ∧ decisionB t y = true := by
   intro j y hy
   have := hall j (List.getElem?_eq_some_iff.1 hy).1
   rw [decP_some hy] at this
   simpa using this
  refine ⟨fun y hy => ?_, ?_⟩
  ·obtain ⟨j, hj⟩ := List.mem_iff_getElem?.1 hy
   exact (h1 j y hj).2
  ·have := nodup_upto (f := (·.number)) (fun j y hy => (h1 j y hy).1) ds.length (Nat.le_refl _)
   rwa [List.take_length] at this
 ·rintro ⟨h1, h2⟩ j hj
  have hy : ds[j]? = some ds[j] := List.getElem?_eq_getElem hj
  rw [decP_some hy, h1 _ (List.getElem_mem hj)]
  simp only [Bool.and_true, Bool.not_eq_true', decide_eq_false_iff_not]
  intro hm
  exact not_nodup_mem (f := (·.number)) hy hm h2
end Go.Pk

namespace Go.Pk
open Go Go.RowKit
def downD (x : Lexicon) : List Decision := x.decisions.mergeSort fun a b => decide (b.number ≤ a.number)
def pairD (d : Decision) : Int × Decision := (d.number, d)
def standM (x : Lexicon) : List (Int × Decision) := ((downD x).filter (standsB x)).map pairD
/-- what a valid lexicon's decisions are -/
def OkD (x : Lexicon) : Prop := (x.decisions.map (·.number)).Nodup ∧ ∀ v ∈ x.decisions, 1 ≤ v.number ∧ v.number ≤ 999 ∧ (v.kind = 4 → v.of_ < v.number)
theorem downD_perm (x : Lexicon) : (downD x).Perm x.decisions := List.mergeSort_perm _ _
theorem downD_sorted (x : Lexicon) : (downD x).Pairwise fun a b => b.number ≤ a.number := by
 have h := List.pairwise_mergeSort (le := fun a b : Decision => decide (b.number ≤ a.number)) (by intro a b c h1 h2; simp at *; omega) (by intro a b; simp; omega) x.decisions
 exact h.imp (fun h => by simpa using h)
theorem nodup_key {α : Type} {f : α → Int} {xs : List α} (hn : (xs.map f).Nodup) {a b : α} (ha : a ∈ xs) (hb : b ∈ xs) (e : f a = f b) : a = b := by
 obtain ⟨i, hi⟩ := List.mem_iff_getElem?.1 ha
 obtain ⟨j, hj⟩ := List.mem_iff_getElem?.1 hb
 rcases Nat.lt_trichotomy i j with h | h | h
 ·exact absurd hn (not_nodup hi hj h e)
 ·subst h; rw [hi] at hj; exact Option.some.inj hj
 ·exact absurd hn (not_nodup hj hi h e.symm)
theorem downD_eq {x : Lexicon} {ys : List Decision} (hp : ys.Perm x.decisions) (hs : ys.Pairwise fun a b => ¬ a.number - b.number < 0) (hn : (x.decisions.map (·.number)).Nodup) : ys = downD x := by
 refine List.Perm.eq_of_pairwise (le := fun a b : Decision => b.number ≤ a.number) ?_ (hs.imp (fun h => by omega)) (downD_sorted x) (hp.trans (downD_perm x).symm)
 intro a b ha hb h1 h2
 exact nodup_key hn (hp.mem_iff.1 ha) ((downD_perm x).mem_iff.1 hb) (by omega)
theorem downD_nodup {x : Lexicon} (hn : (x.decisions.map (·.number)).Nodup) : ((downD x).map (·.number)).Nodup := ((downD_perm x).map _).nodup_iff.2 hn
theorem putM_new {κ υ : Type} [DecidableEq κ] {m : List (κ × υ)} {k : κ} {u : υ} (h : look m k = none) : putM m k u = m ++ [(k, u)] := by simp [putM, h]
theorem look_pair {l : List Decision} {n : Int} (hn : (l.map (·.number)).Nodup) {d : Decision} : look (l.map pairD) n = some d ↔ d ∈ l ∧ d.number = n := by
 induction l with
 | nil => simp [look]
 | cons e l ih =>
  simp only [List.map_cons, List.nodup_cons] at hn
  have ih := ih hn.2
  simp only [look, List.map_cons, List.find?_cons, pairD] at ih ⊢
  by_cases h : e.number = n
  ·simp only [h, decide_true, Option.map_some, Option.some.injEq, List.mem_cons]
   constructor
   ·rintro rfl; exact ⟨.inl rfl, h⟩
   ·rintro ⟨rfl | h1, h2⟩
    ·rfl
    ·exact absurd (List.mem_map.2 ⟨d, h1, h2.trans h.symm⟩) hn.1
  ·simp only [h, decide_false, List.mem_cons]
   rw [ih]
   constructor
   ·rintro ⟨h1, h2⟩; exact ⟨.inr h1, h2⟩
   ·rintro ⟨rfl | h1, h2⟩
    ·exact absurd h2 h
    ·exact ⟨h1, h2⟩
theorem look_pair_none {l : List Decision} {n : Int} (h : n ∉ l.map (·.number)) : look (l.map pairD) n = none := by
 simp only [look, Option.map_eq_none_iff, List.find?_eq_none]
 intro p hp
 obtain ⟨d, hd, rfl⟩ := List.mem_map.1 hp
 intro e
 have e' : d.number = n := of_decide_eq_true e
 exact h (e' ▸ List.mem_map_of_mem hd)
theorem map_fill {l : List Decision} {k : Nat} {d : Decision} (hn : (l.map (·.number)).Nodup) (hd : l[k]? = some d) : putM ((l.take k).map pairD) d.number d = (l.take (k + 1)).map pairD := by
 rw [putM_new (look_pair_none ?_), take_snoc hd, List.map_append]
 ·rfl
 ·intro h
  exact not_nodup_mem (f := (·.number)) hd h hn
/-- what the first k decisions, from the greatest number down, leave -/
def leftK (x : Lexicon) (k : Nat) (d : Decision) : Bool := ((downD x).take k).all fun v => !(decide (v.kind = 4) && decide (v.of_ = d.number) && standsB x v)
theorem standsB_eq {x : Lexicon} (hx : OkD x) {d : Decision} (hd : 1 ≤ d.number) : standsB x d = x.decisions.all fun v => !(decide (v.kind = 4) && decide (v.of_ = d.number) && standsB x v) := by
 have hv : ∀ v ∈ x.decisions, v.number ≤ 999 ∧ (v.kind = 4 → v.of_ < v.number) := fun v h => (hx.2 v h).2
 unfold standsB
 rw [standsF_eq hv (by omega)]
 rw [Bool.eq_iff_iff, List.all_eq_true, List.all_eq_true]
 refine forall_congr' fun v => forall_congr' fun hm => ?_
 have h1 := (hx.2 v hm).1
 have e : standsF x (1000 - 1) v = standsF x 1000 v := by
  rw [standsF_eq hv (show 999 < v.number + ((1000 - 1 : Nat) : Int) by omega), standsF_eq hv (show 999 < v.number + ((1000 : Nat) : Int) by omega)]
  -- both say the same of what makes v void
  rw [Bool.eq_iff_iff, List.all_eq_true, List.all_eq_true]
  refine forall_congr' fun u => forall_congr' fun hu => ?_
  by_cases hk : u.kind = 4
  ·by_cases ho : u.of_ = v.number
   ·have h2 := (hx.2 u hu).2.2 hk
    have : standsF x (1000 - 1 - 1) u = standsF x (1000 - 1) u := by
     have h3 : 2 ≤ u.number := by omega
     have key : ∀ (n m : Nat) (w : Decision), 999 < w.number + (n : Int) → 999 < w.number + (m : Int) → standsF x n w = standsF x m w := by
      intro n
      induction n with
      | zero =>
       intro m w hw hm'
       cases m with
       | zero => rfl
       | succ m =>
        simp only [standsF]
        symm
        rw [List.all_eq_true]
        intro y hy
        have hy' := hx.2 y hy
        by_cases hk' : y.kind = 4
        ·have : ¬ y.of_ = w.number := by have := hy'.2.2 hk'; omega
         simp [this]
        ·simp [hk']
      | succ n ih =>
       intro m w hw hm'
       cases m with
       | zero =>
        simp only [standsF]
        rw [List.all_eq_true]
        intro y hy
        have hy' := hx.2 y hy
        by_cases hk' : y.kind = 4
        ·have : ¬ y.of_ = w.number := by have := hy'.2.2 hk'; omega
         simp [this]
        ·simp [hk']
       | succ m =>
        simp only [standsF]
        rw [Bool.eq_iff_iff, List.all_eq_true, List.all_eq_true]
        refine forall_congr' fun y => forall_congr' fun hy => ?_
        have hy' := hx.2 y hy
        by_cases hk' : y.kind = 4
        ·by_cases ho' : y.of_ = w.number
         ·have := hy'.2.2 hk'
          rw [ih m y (by omega) (by omega)]
         ·simp [ho']
        ·simp [hk']
     exact key _ _ u (by omega) (by omega)
    simp only [voids, this]
   ·simp [voids, ho]
  ·simp [voids, hk]
 simp only [voids, e]
theorem leftK_at {x : Lexicon} (hx : OkD x) {k : Nat} {d : Decision} (hd : (downD x)[k]? = some d) : leftK x k d = standsB x d := by
 have hm : d ∈ x.decisions := (downD_perm x).mem_iff.1 (List.mem_of_getElem? hd)
 rw [standsB_eq hx (hx.2 d hm).1]
 rw [Bool.eq_iff_iff, leftK, List.all_eq_true, List.all_eq_true]
 constructor
 ·intro h v hv
  by_cases hk : v.kind = 4
  ·by_cases ho : v.of_ = d.number
   ·have h1 := (hx.2 v hv).2.2 hk
    obtain ⟨j, hj⟩ := List.mem_iff_getElem?.1 ((downD_perm x).mem_iff.2 hv)
    have hjk : j < k := by
     rcases Nat.lt_or_ge j k with h2 | h2
     ·exact h2
     ·rcases Nat.eq_or_lt_of_le h2 with h3 | h3
      ·subst h3; rw [hj] at hd; cases hd; omega
      ·obtain ⟨a1, a2⟩ := List.getElem?_eq_some_iff.1 hd
       obtain ⟨b1, b2⟩ := List.getElem?_eq_some_iff.1 hj
       have := List.pairwise_iff_getElem.1 (downD_sorted x) k j a1 b1 h3
       rw [a2, b2] at this; omega
    exact h v (List.mem_of_getElem? (by rw [List.getElem?_take, if_pos hjk]; exact hj))
   ·simp [ho]
  ·simp [hk]
 ·intro h v hv
  exact h v ((downD_perm x).mem_iff.1 (List.mem_of_mem_take hv))
theorem leftK_zero (x : Lexicon) : ((downD x).filter (leftK x 0)).map pairD = (downD x).map pairD := by
 congr 1
 rw [List.filter_eq_self]
 intro d _; simp [leftK]
theorem leftK_end {x : Lexicon} (hx : OkD x) : ((downD x).filter (leftK x (downD x).length)).map pairD = standM x := by
 unfold standM
 congr 1
 apply List.filter_congr
 intro d hd
 have hm : d ∈ x.decisions := (downD_perm x).mem_iff.1 hd
 rw [standsB_eq hx (hx.2 d hm).1, leftK, List.take_length, Bool.eq_iff_iff, List.all_eq_true, List.all_eq_true]
 exact ⟨fun h v hv => h v ((downD_perm x).mem_iff.2 hv), fun h v hv => h v ((downD_perm x).mem_iff.1 hv)⟩
theorem filter_nodup {x : Lexicon} (hx : OkD x) (p : Decision → Bool) : (((downD x).filter p).map (·.number)).Nodup := (List.filter_sublist.map _).nodup (downD_nodup hx.1)
theorem look_left {x : Lexicon} (hx : OkD x) {k : Nat} {d : Decision} (hd : (downD x)[k]? = some d) : (look (((downD x).filter (leftK x k)).map pairD) d.number).isSome = standsB x d := by
 rw [← leftK_at hx hd]
 have hm := List.mem_of_getElem? hd
 cases h : leftK x k d with
 | true =>
  have := (look_pair (filter_nodup hx (leftK x k))).2 ⟨List.mem_filter.2 ⟨hm, h⟩, rfl⟩
  rw [this]; rfl
 | false =>
  cases hl : look (((downD x).filter (leftK x k)).map pairD) d.number with
  | none => rfl
  | some e =>
   obtain ⟨h1, h2⟩ := (look_pair (filter_nodup hx (leftK x k))).1 hl
   have h3 := List.mem_filter.1 h1
   have : e = d := nodup_key (downD_nodup hx.1) h3.1 hm h2
   subst this
   rw [h] at h3; cases h3.2
theorem leftK_succ {x : Lexicon} {k : Nat} {d e : Decision} (hd : (downD x)[k]? = some d) : leftK x (k + 1) e = (leftK x k e && !(decide (d.kind = 4) && decide (d.of_ = e.number) && standsB x d)) := by
 simp only [leftK, take_snoc hd, List.all_append, List.all_cons, List.all_nil, Bool.and_true]
theorem map_void {x : Lexicon} {k : Nat} {d : Decision} (hd : (downD x)[k]? = some d) (h : d.kind = 4 ∧ standsB x d = true) :
  delM (((downD x).filter (leftK x k)).map pairD) d.of_ = ((downD x).filter (leftK x (k + 1))).map pairD := by
 rw [delM, List.filter_map, List.filter_filter]
 congr 1
 apply List.filter_congr
 intro e _
 rw [leftK_succ hd, h.1, h.2]
 simp only [Function.comp, pairD, decide_true, Bool.and_true, Bool.true_and]
 rw [Bool.and_comm]
 congr 2
 exact decide_eq_decide.2 eq_comm
theorem map_stay {x : Lexicon} {k : Nat} {d : Decision} (hd : (downD x)[k]? = some d) (h : ¬ (d.kind = 4 ∧ standsB x d = true)) :
  ((downD x).filter (leftK x k)).map pairD = ((downD x).filter (leftK x (k + 1))).map pairD := by
 congr 1
 apply List.filter_congr
 intro e _
 rw [leftK_succ hd]
 by_cases h1 : d.kind = 4
 ·have h2 : standsB x d = false := by
   cases q : standsB x d with
   | false => rfl
   | true => exact absurd ⟨h1, q⟩ h
  simp [h2]
 ·simp [h1]
theorem standM_mem {x : Lexicon} {p : Int × Decision} (h : p ∈ standM x) : p.2 ∈ x.decisions ∧ p.1 = p.2.number ∧ standsB x p.2 = true := by
 obtain ⟨d, hd, rfl⟩ := List.mem_map.1 h
 obtain ⟨h1, h2⟩ := List.mem_filter.1 hd
 exact ⟨(downD_perm x).mem_iff.1 h1, rfl, h2⟩
theorem okD_of {t : Text} {x : Lexicon} (h : checkN t x = 0) : OkD x := by
 have h1 := lexicon_v h
 have h2 := lexicon_v1 h
 refine ⟨?_, fun v hv => ⟨h2 v hv, h1 v hv⟩⟩
 unfold checkN at h
 split at h
 ·cases h
 ·split at h
  ·cases h
  ·rename_i h3
   simp only [Bool.not_eq_false] at h3
   simp only [lexiconB, Bool.and_eq_true, decide_eq_true_eq] at h3
   exact h3.2
/-- one turn of a word: what it is then, whether it turned, and how many turns are left -/
def turnW (rs : List Rule) (left : Int) (w : Str) : Str := if left = 0 then w else (stepOf rs w).getD w
def turnB (rs : List Rule) (left : Int) (w : Str) : Bool := if left = 0 then false else (stepOf rs w).isSome
def turnL (left : Int) : Int := if left = 0 then 0 else left - 1
def hasSuf (s p : Str) : Bool := decide (p.length ≤ s.length) && decide (s.drop (s.length - p.length) = p)
theorem stepOf_at {rs : List Rule} {i : Nat} {r : Rule} {w s : Str} (ht : (rs.take i).findSome? (made · w) = none) (hr : rs[i]? = some r) (hm : made r w = some s) : stepOf rs w = some s := by
 unfold stepOf
 rw [← List.take_append_drop i rs, List.findSome?_append, ht, drop_cons hr, List.findSome?_cons, hm]
 rfl
theorem stepOf_none {rs : List Rule} {i : Nat} {w : Str} (ht : (rs.take i).findSome? (made · w) = none) (hi : rs.length ≤ i) : stepOf rs w = none := by
 rw [List.take_of_length_le hi] at ht; exact ht
theorem turn_take {rs : List Rule} {i : Nat} {r : Rule} {w : Str} (ht : (rs.take i).findSome? (made · w) = none) (hr : rs[i]? = some r) (hm : made r w = none) : (rs.take (i + 1)).findSome? (made · w) = none := by
 rw [take_snoc hr, List.findSome?_append, ht, List.findSome?_cons, hm]; rfl
theorem turnW_len {rs : List Rule} {left : Int} {w : Str} (h : w.length ≤ 12) : (turnW rs left w).length ≤ 12 := by
 unfold turnW
 split
 ·exact h
 ·cases e : stepOf rs w with
  | none => exact h
  | some s =>
   obtain ⟨r, _, hr⟩ := List.exists_of_findSome?_eq_some e
   exact made_len hr
theorem made_no {r : Rule} {w : Str} (h : hasSuf w r.cut = true → r.least ≤ ((w.take (w.length - r.cut.length)).length : Int) ∧ (w.take (w.length - r.cut.length)).length + r.put.length ≤ 12 → False) : made r w = none := by
 unfold made
 rw [if_neg]
 rintro ⟨q1, q2, q3, q4⟩
 have hl : (w.take (w.length - r.cut.length)).length = w.length - r.cut.length := by rw [List.length_take]; omega
 exact h (by simp [hasSuf, q1, q3]) (by rw [hl]; exact ⟨q2, q4⟩)
theorem made_yes {r : Rule} {w : Str} (h : hasSuf w r.cut = true) (h1 : r.least ≤ ((w.take (w.length - r.cut.length)).length : Int)) (h2 : (w.take (w.length - r.cut.length)).length + r.put.length ≤ 12) : made r w = some (w.take (w.length - r.cut.length) ++ r.put) := by
 simp only [hasSuf, Bool.and_eq_true, decide_eq_true_eq] at h
 have hl : (w.take (w.length - r.cut.length)).length = w.length - r.cut.length := by rw [List.length_take]; omega
 rw [hl] at h1 h2
 unfold made
 rw [if_pos ⟨h.1, h1, h.2, h2⟩]
theorem turn_true {rs : List Rule} {left : Int} {w : Str} (h : turnB rs left w = true) : ¬ left = 0 ∧ stepOf rs w = some (turnW rs left w) := by
 unfold turnB at h
 unfold turnW
 split at h
 ·cases h
 ·rename_i h0
  rw [if_neg h0]
  refine ⟨h0, ?_⟩
  cases e : stepOf rs w with
  | none => rw [e] at h; cases h
  | some s => rfl
theorem turn_false {rs : List Rule} {left : Int} {n : Nat} {w : Str} (h : turnB rs left w = false) (hn : left = (n : Int)) : stepsN rs n w = [w] := by
 unfold turnB at h
 split at h
 ·have : n = 0 := by omega
  subst this; rfl
 ·apply stepsN_none
  cases e : stepOf rs w with
  | none => rfl
  | some s => rw [e] at h; cases h
theorem perm_step {α : Type} {dn rm rm' m : List α} {p : α} (h : (dn ++ rm).Perm m) (q : rm.Perm (p :: rm')) : ((dn ++ [p]) ++ rm').Perm m := by
 refine List.Perm.trans ?_ h
 rw [List.append_assoc]
 exact (List.Perm.append_left dn q).symm
theorem standAt_mem {x : Lexicon} {n : Nat} {d : Decision} : d ∈ standAt x n ↔ d ∈ x.decisions ∧ d.number = (n : Int) + 1 ∧ standsB x d = true := by
 simp only [standAt, List.mem_filter, standP, standsB, Bool.and_eq_true, decide_eq_true_eq]
theorem standing_sorted {x : Lexicon} (hn : (x.decisions.map (·.number)).Nodup) : ∀ n, (((List.range n).flatMap (standAt x)).map (·.number)).Pairwise (fun a b : Int => a < b) ∧ ∀ a ∈ ((List.range n).flatMap (standAt x)).map (·.number), a ≤ (n : Int)
 | 0 => by simp
 | n + 1 => by
  obtain ⟨h1, h2⟩ := standing_sorted hn n
  have h3 : ((standAt x n).map (·.number)).Nodup := (List.filter_sublist.map _).nodup hn
  have h4 : ∀ a ∈ (standAt x n).map (·.number), a = (n : Int) + 1 := by
   intro a ha
   obtain ⟨d, hd, rfl⟩ := List.mem_map.1 ha
   exact (standAt_mem.1 hd).2.1
  rw [List.range_succ, List.flatMap_append, List.map_append]
  simp only [List.flatMap_cons, List.flatMap_nil, List.append_nil]
  refine ⟨List.pairwise_append.2 ⟨h1, ?_, ?_⟩, ?_⟩
  ·refine List.Pairwise.imp_of_mem ?_ h3
   intro a b ha hb hne
   exact absurd ((h4 a ha).trans (h4 b hb).symm) hne
  ·intro a ha b hb
   have := h2 a ha; have := h4 b hb; omega
  ·intro a ha
   rcases List.mem_append.1 ha with ha | ha
   ·have := h2 a ha; omega
   ·have := h4 a ha; omega
theorem standM_nodup {x : Lexicon} (hx : OkD x) : ((standM x).map (·.1)).Nodup := by
 have := filter_nodup hx (standsB x)
 have e : (standM x).map (·.1) = ((downD x).filter (standsB x)).map (·.number) := by rw [standM, List.map_map]; rfl
 rw [e]; exact this
theorem standing_eq {x : Lexicon} (hx : OkD x) {dn : List (Int × Decision)} (hp : dn.Perm (standM x)) : (dn.map (·.1)).mergeSort (fun a b => decide (a ≤ b)) = (standingR x).map (·.number) := by
 have hs := (standing_sorted hx.1 999).1
 have hnd : ((standingR x).map (·.number)).Nodup := hs.imp (fun h => by omega)
 have hperm : (dn.map (·.1)).Perm ((standingR x).map (·.number)) := by
  refine (hp.map (·.1)).trans ?_
  rw [List.perm_ext_iff_of_nodup (standM_nodup hx) hnd]
  intro a
  constructor
  ·intro ha
   obtain ⟨p, hp', rfl⟩ := List.mem_map.1 ha
   obtain ⟨h1, h2, h3⟩ := standM_mem hp'
   have h4 := hx.2 _ h1
   refine List.mem_map.2 ⟨p.2, List.mem_flatMap.2 ⟨(p.2.number - 1).toNat, List.mem_range.2 (by omega), standAt_mem.2 ⟨h1, by omega, h3⟩⟩, h2.symm⟩
  ·intro ha
   obtain ⟨d, hd, rfl⟩ := List.mem_map.1 ha
   obtain ⟨n, _, hd'⟩ := List.mem_flatMap.1 hd
   obtain ⟨h1, _, h3⟩ := standAt_mem.1 hd'
   exact List.mem_map.2 ⟨pairD d, List.mem_map.2 ⟨d, List.mem_filter.2 ⟨(downD_perm x).mem_iff.2 h1, h3⟩, rfl⟩, rfl⟩
 refine List.Perm.eq_of_pairwise (le := fun a b : Int => a ≤ b) (fun a b _ _ h1 h2 => by omega) ?_ (hs.imp (fun h => by omega)) ((List.mergeSort_perm _ _).trans hperm)
 have h := List.pairwise_mergeSort (le := fun a b : Int => decide (a ≤ b)) (by intro a b c h1 h2; simp at *; omega) (by intro a b; simp; omega) (dn.map (·.1))
 exact h.imp (fun h => by simpa using h)
theorem standM_len {t : Text} {x : Lexicon} (h : checkN t x = 0) : (standM x).length ≤ 20 := by
 have h1 := lexicon_20 h
 have h2 := (downD_perm x).length_eq
 have h3 := List.length_filter_le (standsB x) (downD x)
 rw [standM, List.length_map]; omega
theorem standingN_len (t : Text) (x : Lexicon) : (standingN t x).length ≤ 281474976710656 := by
 unfold standingN
 split
 ·rename_i h
  have := stand_len 999 (lexicon_20 h)
  rw [List.length_map, standingR]; omega
 ·simp
/-- what is not great -/
def smallW (w : Str) : Bool := decide (w.length ≤ 40)
def smallL (l : List Str) : Bool := decide (l.length ≤ 15) && l.all smallW
def smallC (c : Chapter) : Bool := decide (c.lines.length ≤ 15) && c.lines.all smallL
def smallT (t : Text) : Bool := decide (t.chapters.length ≤ 10) && t.chapters.all smallC
def smallR (r : Rule) : Bool := decide (r.cut.length ≤ 100) && decide (r.put.length ≤ 100)
def smallD (d : Decision) : Bool := decide (d.form.length ≤ 100) && decide (d.to.stem.length ≤ 100)
def smallX (x : Lexicon) : Bool := decide (x.rules.length ≤ 20) && decide (x.decisions.length ≤ 25) && x.rules.all smallR && x.decisions.all smallD
end Go.Pk

namespace Go.Pk
open Go Go.RowKit Go.Proofs Go.Shelf Go.Lib Go.Sort
theorem bel_grow {W w' : World} (b : Bel W.heap.size W w') : ∃ q os', w' = grow (W.drewN q) os' := by
 refine ⟨w'.drawn - W.drawn, w'.heap.extract W.heap.size w'.heap.size, ?_⟩
 obtain ⟨h1, h2, h3, h4, h5, h6⟩ := b
 cases w'; cases W
 simp only at h1 h2 h3 h4 h5 h6
 subst h1; subst h2; subst h3
 simp only [grow, World.drewN, World.mk.injEq, true_and, and_true]
 refine ⟨?_, by omega⟩
 apply Array.ext_getElem?
 intro i
 rw [Array.getElem?_append]
 split
 ·rename_i hi; exact h5 i hi
 ·rename_i hi
  rw [Array.getElem?_extract]
  split
  ·congr 1; omega
  ·rw [Array.getElem?_eq_none (by omega)]
theorem Bel.grow {B : Nat} {a w : World} (b : Bel B a w) (hB : B ≤ w.heap.size) (os : Array Obj) : Bel B a (grow w os) :=
 b.trans ⟨rfl, rfl, rfl, by simp [Go.Sort.grow], fun k hk => by simp only [Go.Sort.grow]; rw [Array.getElem?_append_left (by omega)], Nat.le_refl _⟩
theorem St.grow {h0 h : Heap} {w0 w : World} {own : Own} (st : St h0 w0 h w own) (os : Array Obj) : St h0 w0 h (grow w os) own := by
 have e : ∀ b o, w.heap[b]? = some o → (Go.Sort.grow w os).heap[b]? = some o := fun b o hb => by
  simp only [Go.Sort.grow]; rw [Array.getElem?_append_left (lt_of_some hb)]; exact hb
 exact ⟨st.le, st.new, fun b o hb => e b o (st.sub b o hb), st.below.grow st.below.size os, fun p hp => ⟨e _ _ (st.mine p hp).1, (st.mine p hp).2⟩, st.nodup⟩
theorem putRow_own {w : World} {b : Nat} {cur : Array Value} {T : TypeId} {F : Array Value} (hb : w.heap[b]? = some (.cells cur T)) (n : Nat) :
  putRow id (Go.Sort.ahead w n) b 0 F = { w with drawn := w.drawn + n, heap := w.heap.setIfInBounds b (.cells (putCells id 0 F cur) T) } := by
 have hlt := lt_of_some hb
 have hb' : w.heap[b] = .cells cur T := by rw [Array.getElem?_eq_getElem hlt] at hb; simpa using hb
 simp only [putRow, mapBlock, Go.Sort.ahead, World.mk.injEq, and_true, true_and]
 apply Array.ext_getElem?
 intro i
 rw [Array.getElem?_modify, Array.getElem?_setIfInBounds]
 by_cases e : b = i
 ·subst e; simp [hlt, hb', onCells]
 ·simp [e]
theorem putCells_take {F cur : Array Value} (h : F.size ≤ cur.size) : (putCells id 0 F cur).toList.take F.size = F.toList := by
 apply List.ext_getElem?
 intro i
 rw [List.getElem?_take]
 split
 ·rename_i hi
  simp only [putCells, Array.getElem?_toList, Array.getElem?_mapIdx]
  rw [Array.getElem?_eq_getElem (show i < cur.size by omega), Array.getElem?_eq_getElem hi]
  simp [hi]
 ·rename_i hi
  rw [List.getElem?_eq_none (by simpa using hi)]
theorem flatK_enc {α : Type} [Inhabited α] {L : Lay α} {h : Heap} {enc : α → List Value} (d : Array α) (hk : ∀ x, (enc x).length = L.size) (hR : ∀ x ∈ d.toList, L.R h (enc x) x) : Enc L h (flatK enc L.size d).toList d.toList := by
 refine ⟨by simp, fun i x hi => ?_⟩
 obtain ⟨h1, h2⟩ := List.getElem?_eq_some_iff.1 hi
 have h1' : i < d.size := by simpa using h1
 have e : ((flatK enc L.size d).toList.drop (i * L.size)).take L.size = enc x := by
  apply List.ext_getElem?
  intro j
  rw [List.getElem?_take]
  by_cases hj : j < L.size
  ·rw [if_pos hj, List.getElem?_drop]
   have ht : i * L.size + j < d.size * L.size := by
    have : (i + 1) * L.size ≤ d.size * L.size := Nat.mul_le_mul_right _ h1'
    rw [Nat.add_mul, Nat.one_mul] at this; omega
   have h3 := get_flatK enc L.size d _ ht
   have hd : (i * L.size + j) / L.size = i := by rw [Nat.mul_comm, Nat.mul_add_div (by omega), Nat.div_eq_of_lt hj]; rfl
   have hm : (i * L.size + j) % L.size = j := by rw [Nat.mul_comm, Nat.mul_add_mod, Nat.mod_eq_of_lt hj]
   rw [hd, hm, getElem!_pos d i h1', getElem!_pos (flatK enc L.size d) _ (by simpa using ht)] at h3
   have hx : d[i] = x := by simpa using h2
   rw [hx, getElem!_pos (enc x) j (by rw [hk]; exact hj)] at h3
   rw [List.getElem?_eq_getElem (by simpa using ht), List.getElem?_eq_getElem (by rw [hk]; exact hj)]
   simpa using h3
  ·rw [if_neg hj, List.getElem?_eq_none (by rw [hk]; omega)]
 rw [e]
 exact hR x (List.mem_of_getElem? hi)
theorem enc_flatK {α : Type} [Inhabited α] {L : Lay α} {h : Heap} {enc : α → List Value} (hpos : 0 < L.size) (d : Array α) (hE : ∀ {vs x}, L.R h vs x → vs = enc x) {cs : List Value} (e : Enc L h cs d.toList) {j : Nat} (hj : j < d.size * L.size) : cs[j]? = some (flatK enc L.size d)[j]! := by
 have hi : j / L.size < d.size := Nat.div_lt_of_lt_mul (by rwa [Nat.mul_comm])
 have hr := hE (e.2 (j / L.size) d[j / L.size] (by simp [hi]))
 rw [get_flatK enc L.size d j hj, getElem!_pos d _ hi, ← hr]
 have hlen : cs.length = d.size * L.size := by simpa using e.1
 have hm := Nat.mod_lt j hpos
 have hdm := Nat.div_add_mod j L.size
 rw [Nat.mul_comm] at hdm
 have hl : j % L.size < ((cs.drop (j / L.size * L.size)).take L.size).length := by
  simp only [List.length_take, List.length_drop]; omega
 rw [getElem!_pos ((cs.drop (j / L.size * L.size)).take L.size) (j % L.size) hl]
 simp only [List.getElem_take, List.getElem_drop, hdm]
 rw [List.getElem?_eq_getElem (by omega)]
/-- slices.SortFunc, at structs that hold no memory -/
theorem sortFunc {α : Type} {L : Lay α} {T : TypeId} {P : Program} {ρ : Ren} (LL : SlLaysF0.n6 P ρ) (aE : ∀ w, (isAgg (ρ.t 24)).run P w = .ok true w) (zE : ∀ w, (Go.sizeOf (ρ.t 24)).run P w = .ok L.size w) (hpos : 0 < L.size)
  (enc : α → List Value) (hE : ∀ {h vs x}, L.R h vs x → vs = enc x) (cf : α → α → Int) (hS : SWO (ltOf cf)) {g : Nat} {caps : List Value} {h0 h : Heap} {w0 w : World} {own : Own} {i : Nat} {v : Value} {xs : List α} {o : List (Nat × Obj)}
  (st : St h0 w0 h w own) (hO : OSl L T h v xs o) (hi : own[i]? = some o) (hlen : xs.length < 4611686018427387904) (eg : ∀ a w, (callFunc g a).run P w = .ok (.enter g a) w)
  (hcmp : ∀ x ∈ xs, ∀ y ∈ xs, ∀ w', Sub h w' → Calls P g (.agg (enc x).toArray :: .agg (enc y).toArray :: caps).toArray w' (Rets h w' fun _ _ r => r = .int .i64 (cf x y))) :
  Calls P (ρ.f 6) #[v, .func (.func g) #[] caps.toArray] w fun e w' => e = .returned (.tuple #[]) ∧ ∃ ys o' own', own' = own.set i o' ∧ ys.Perm xs ∧ ys.Pairwise (fun a b => ¬ cf b a < 0) ∧ OSl L T h v ys o' ∧ St h0 w0 h w' own' := by
 by_cases hx : xs = []
 ·subst hx
  obtain ⟨p, c, rfl⟩ := hO.form
  refine (AnyF.slices_SortFunc_none LL p c _ w).mono ?_
  rintro e w' ⟨he, rfl⟩
  refine ⟨he, [], o, _, rfl, List.Perm.refl _, List.Pairwise.nil, hO, ?_⟩
  have e3 : own.set i o = own := by
   apply List.ext_getElem?
   intro j
   rw [List.getElem?_set]
   split
   ·rename_i e4; subst e4
    split
    ·exact hi.symm
    ·rename_i h5; rw [List.getElem?_eq_none (by omega)]
   ·rfl
  rw [e3]; exact st
 obtain ⟨cs, e1, ⟨⟨p, rfl⟩, rfl, rfl⟩ | ⟨b, cap, cur, rfl, rfl, hnc, hcm, hsz, htk⟩⟩ := hO
 ·exact absurd rfl hx
 -- the elements, each with its place in the list
 let β := { x : α // x ∈ xs }
 haveI : Inhabited β := ⟨⟨xs.head hx, List.head_mem hx⟩⟩
 let enc' : β → List Value := fun x => enc x.1
 let cf' : β → β → Int := fun x y => cf x.1 y.1
 let d : Array β := xs.attach.toArray
 have hdl : d.size = xs.length := by show xs.attach.toArray.size = xs.length; rw [List.size_toArray]; exact List.length_attach
 have hmap : d.toList.map (·.1) = xs := by show xs.attach.map (·.1) = xs; exact List.attach_map_subtype_val xs
 have hRx : ∀ x : β, L.R h (enc x.1) x.1 := by
  intro x
  obtain ⟨j, hj⟩ := List.mem_iff_getElem?.1 x.2
  have := e1.2 j x.1 hj
  rwa [hE this] at this
 have hk : ∀ x : β, (enc' x).length = L.size := fun x => L.len (hRx x)
 let L' : Lay β := { size := L.size, R := fun h vs x => L.R h vs x.1, up := fun a b => L.up a b, len := fun a => L.len a, one := fun a => L.one a }
 have hb := st.get hi
 have hcsl : cs.length = xs.length * L.size := e1.1
 have e1' : Enc L' h cs d.toList := ⟨by rw [hcsl, ← hdl]; rfl, fun j x hj => e1.2 j x.1 (by
  have := congrArg (Option.map (·.1)) hj
  rw [← List.getElem?_map, hmap] at this
  simpa using this)⟩
 have hH : HoldsK enc' L.size w b 0 d := by
  intro j hj
  have hj' : j < d.size * L.size := by simpa using hj
  have hcj := enc_flatK (L := L') (enc := enc') hpos d (fun h => hE h) e1' hj'
  have hjc : j < cs.length := by rw [hcsl, ← hdl]; exact hj'
  have hcur : cur[j]? = some (flatK enc' L.size d)[j]! := by
   rw [← htk, List.getElem?_take] at hcj
   split at hcj
   ·simpa using hcj
   ·cases hcj
  refine ⟨?_, ?_⟩
  ·simp only [World.cell?, hb, Option.isSome_none, Bool.false_eq_true, if_false, Nat.zero_add, id]
   exact hcur
  ·simp [World.frozen?, hb]
 have hlt := lt_of_some hb
 have hsubs : ∀ m (os : Array Obj) (dk : Array β), Sub h (sortWorldK enc' L.size w b 0 m dk os) := by
  intro m os dk
  unfold sortWorldK putRowK
  rw [putRow_own hb]
  have := (((st.set (.cells (putCells id 0 (flatK enc' L.size dk) cur) T) hi).same (w' := { w with drawn := w.drawn + m, heap := w.heap.setIfInBounds b (.cells (putCells id 0 (flatK enc' L.size dk) cur) T) }) rfl rfl rfl rfl (Nat.le_add_right _ _)).grow os).sub
  exact this
 have hC : CmpLays P g caps.toArray enc' L.size cf' b 0 d.size w := by
  intro m os dk hdk x y
  have c : Calls P g (#[.agg (enc' x).toArray, .agg (enc' y).toArray] ++ caps.toArray) (sortWorldK enc' L.size w b 0 m dk os) (Rets h (sortWorldK enc' L.size w b 0 m dk os) fun _ _ r => r = .int .i64 (cf x.1 y.1)) := by
   simpa using hcmp x.1 x.2 y.1 y.2 _ (hsubs m os dk)
  refine c.mono ?_
  rintro e w' ⟨h', r, rfl, s, rfl⟩
  exact ⟨rfl, bel_grow s.below⟩
 have hS' : SWO (ltOf cf') := ⟨fun x => hS.irrefl x.1, fun x y z => hS.trans x.1 y.1 z.1, fun x y z => hS.ntrans x.1 y.1 z.1⟩
 have con := AnyQ.slices_SortFunc LL L.size aE zE enc' hk (fun x => L.one (hRx x)) cf' hS' g caps.toArray b 0 cap d w eg hC hH hlt (by rw [hdl]; exact hlen)
 rw [hdl] at con
 refine con.mono ?_
 rintro e w' ⟨he, d', n, os, ⟨p1, p2, p3⟩, hsort, rfl⟩
 have hd' : d'.size = xs.length := by rw [p1, hdl]
 refine ⟨he, d'.toList.map (·.1), [(b, .cells (putCells id 0 (flatK enc' L.size d') cur) T)], _, rfl, ?_, ?_, ?_, ?_⟩
 ·have e3 : d'.extract 0 xs.length = d' := by rw [← hd']; simp
  have e4 : d.extract 0 xs.length = d := by rw [← hdl]; simp
  rw [e3, e4] at p3
  have := p3.map (fun x : β => x.1)
  rwa [hmap] at this
 ·rw [List.pairwise_map, List.pairwise_iff_getElem]
  intro q r hq hr hqr
  have := hsort q r (Nat.zero_le _) hqr (by simpa [hd'] using hr)
  rw [getElem!_pos d' r (by simpa using hr), getElem!_pos d' q (by simpa using hq)] at this
  simp only [ltOf, decide_eq_false_iff_not, cf'] at this
  simpa using this
 ·have hsf : (flatK enc' L.size d').size = xs.length * L.size := by simp [hd']
  have hfc : (flatK enc' L.size d').size ≤ cur.size := by rw [hsf, hsz]; exact Nat.mul_le_mul_right _ hnc
  refine ⟨(flatK enc' L.size d').toList, ?_, .inr ⟨b, cap, _, by simp [hd'], rfl, by simpa [hd'] using hnc, hcm, by simpa [putCells] using hsz, ?_⟩⟩
  ·have := flatK_enc (L := L') (h := h) (enc := enc') d' hk (fun x _ => hRx x)
   refine ⟨by simp [hd'], fun j x hj => ?_⟩
   rw [List.getElem?_map] at hj
   obtain ⟨y, hy, rfl⟩ := Option.map_eq_some_iff.1 hj
   exact this.2 j y hy
  ·have := putCells_take hfc
   rw [hsf] at this
   simpa [hd'] using this
 ·unfold sortWorldK putRowK
  rw [putRow_own hb]
  exact ((st.set (.cells (putCells id 0 (flatK enc' L.size d') cur) T) hi).same (w' := { w with drawn := w.drawn + n, heap := w.heap.setIfInBounds b (.cells (putCells id 0 (flatK enc' L.size d') cur) T) }) rfl rfl rfl rfl (Nat.le_add_right _ _)).grow os
theorem swo_asc {α : Type} (f : α → Int) : SWO (ltOf fun a b => f a - f b) := by
 refine ⟨fun x => ?_, fun x y z h1 h2 => ?_, fun x y z h1 h2 => ?_⟩ <;> simp only [ltOf, decide_eq_true_eq, decide_eq_false_iff_not] at * <;> omega
theorem swo_desc {α : Type} (f : α → Int) : SWO (ltOf fun a b => f b - f a) := by
 refine ⟨fun x => ?_, fun x y z h1 h2 => ?_, fun x y z h1 h2 => ?_⟩ <;> simp only [ltOf, decide_eq_true_eq, decide_eq_false_iff_not] at * <;> omega
theorem OSl.memR {α : Type} {L : Lay α} {T : TypeId} {h : Heap} {v : Value} {xs : List α} {o : List (Nat × Obj)} (hO : OSl L T h v xs o) {x : α} (hx : x ∈ xs) : ∃ vs, L.R h vs x := by
 obtain ⟨cs, e, _⟩ := hO
 obtain ⟨j, hj⟩ := List.mem_iff_getElem?.1 hx
 exact ⟨_, e.2 j x hj⟩
theorem Sl.memR {α : Type} {L : Lay α} {h : Heap} {v : Value} {xs : List α} (hs : Sl L h v xs) {x : α} (hx : x ∈ xs) : ∃ vs, L.R h vs x := by
 obtain ⟨p, c, _, _, rfl | ⟨b, off, _, hh⟩⟩ := hs
 ·cases hx
 ·obtain ⟨j, hj⟩ := List.mem_iff_getElem?.1 hx
  obtain ⟨vs, _, hr⟩ := hh j x hj
  exact ⟨vs, hr⟩
theorem putRow_own1 {α : Type} [Inhabited α] {enc : α → Value} {w : World} {b : Nat} {cur : Array Value} {T : TypeId} {F : Array α} (hb : w.heap[b]? = some (.cells cur T)) (n : Nat) :
  putRow enc (Go.Sort.ahead w n) b 0 F = { w with drawn := w.drawn + n, heap := w.heap.setIfInBounds b (.cells (putCells enc 0 F cur) T) } := by
 have hlt := lt_of_some hb
 have hb' : w.heap[b] = .cells cur T := by rw [Array.getElem?_eq_getElem hlt] at hb; simpa using hb
 simp only [putRow, mapBlock, Go.Sort.ahead, World.mk.injEq, and_true, true_and]
 apply Array.ext_getElem?
 intro i
 rw [Array.getElem?_modify, Array.getElem?_setIfInBounds]
 by_cases e : b = i
 ·subst e; simp [hlt, hb', onCells]
 ·simp [e]
theorem putCells_take1 {α : Type} [Inhabited α] {enc : α → Value} {F : Array α} {cur : Array Value} (h : F.size ≤ cur.size) : (putCells enc 0 F cur).toList.take F.size = F.toList.map enc := by
 apply List.ext_getElem?
 intro i
 rw [List.getElem?_take, List.getElem?_map]
 split
 ·rename_i hi
  simp only [putCells, Array.getElem?_toList, Array.getElem?_mapIdx]
  rw [Array.getElem?_eq_getElem (show i < cur.size by omega), Array.getElem?_eq_getElem hi]
  simp [hi]
 ·rename_i hi
  rw [List.getElem?_eq_none (by simpa using hi)]; rfl
/-- slices.Sort at elements of one cell -/
theorem sort1 {α : Type} [Inhabited α] {L : Lay α} {T : TypeId} {P : Program} {f : FuncId} (enc : α → Value) (hE : ∀ {h vs x}, L.R h vs x → vs = [enc x]) (hz : L.size = 1) (srt : List α → List α) (hp : ∀ l, (srt l).Perm l)
  (hc : ∀ blk off cap (zs : List α) w, Holds enc w blk off zs.toArray → blk < w.heap.size → zs.length < 4611686018427387904 → Calls P f #[.slice (some ⟨blk, off, none⟩) zs.length cap] w fun e w' => e = .returned (.tuple #[]) ∧ ∃ n os, w' = Go.Sort.grow (putRow enc (Go.Sort.ahead w n) blk off (srt zs).toArray) os)
  (hn : ∀ p cap w, Calls P f #[.slice p 0 cap] w fun e w' => e = .returned (.tuple #[]) ∧ w' = w)
  {h0 h : Heap} {w0 w : World} {own : Own} {i : Nat} {v : Value} {xs : List α} {o : List (Nat × Obj)} (st : St h0 w0 h w own) (hO : OSl L T h v xs o) (hi : own[i]? = some o) (hlen : xs.length < 4611686018427387904) :
  Calls P f #[v] w fun e w' => e = .returned (.tuple #[]) ∧ ∃ o' own', own' = own.set i o' ∧ OSl L T h v (srt xs) o' ∧ St h0 w0 h w' own' := by
 obtain ⟨cs, e1, ⟨⟨p, rfl⟩, rfl, rfl⟩ | ⟨b, cap, cur, rfl, rfl, hnc, hcm, hsz, htk⟩⟩ := hO
 ·refine (hn p 0 w).mono ?_
  rintro e w' ⟨he, rfl⟩
  have e0 : srt [] = [] := (hp []).eq_nil
  rw [e0]
  exact ⟨he, [], _, rfl, OSl.nil0 L T h ⟨p, rfl⟩, st.drop i⟩
 have hb := st.get hi
 have hlt := lt_of_some hb
 have hcs : cs = xs.map enc := by
  apply List.ext_getElem?
  intro j
  rw [List.getElem?_map]
  by_cases hj : j < xs.length
  ·have hr := hE (e1.2 j xs[j] (List.getElem?_eq_getElem hj))
   rw [hz, Nat.mul_one] at hr
   have hjc : j < cs.length := by rw [e1.1, hz]; omega
   rw [List.getElem?_eq_getElem hj, List.getElem?_eq_getElem hjc]
   have h1 := congrArg (·[0]?) hr
   simp only [List.getElem?_take, List.getElem?_drop, List.getElem?_cons_zero] at h1
   simp only [Nat.zero_lt_one, if_true, Nat.add_zero] at h1
   rw [List.getElem?_eq_getElem hjc] at h1
   simpa using h1
  ·rw [List.getElem?_eq_none (by rw [e1.1, hz]; omega), List.getElem?_eq_none (by omega)]; rfl
 have hH : Holds enc w b 0 xs.toArray := by
  intro j hj
  have hj' : j < xs.length := by simpa using hj
  have h2 : cs[j]? = some (enc xs[j]) := by rw [hcs, List.getElem?_map, List.getElem?_eq_getElem hj']; rfl
  have hcur : cur[j]? = some (enc xs[j]) := by
   rw [← htk, List.getElem?_take] at h2
   split at h2
   ·simpa using h2
   ·cases h2
  refine ⟨?_, by simp [World.frozen?, hb]⟩
  simp only [World.cell?, hb, Option.isSome_none, Bool.false_eq_true, if_false, Nat.zero_add]
  rw [hcur, getElem!_pos xs.toArray j (by simpa using hj')]
  simp
 refine (hc b 0 cap xs w hH hlt hlen).mono ?_
 rintro e w' ⟨he, n, os, rfl⟩
 have hl : (srt xs).length = xs.length := (hp xs).length_eq
 refine ⟨he, [(b, .cells (putCells enc 0 (srt xs).toArray cur) T)], _, rfl, ?_, ?_⟩
 ·have hfc : (srt xs).toArray.size ≤ cur.size := by rw [List.size_toArray, hl, hsz, hz]; omega
  refine ⟨(srt xs).map enc, ⟨by simp [hz], fun j x hj => ?_⟩, .inr ⟨b, cap, _, by rw [hl], rfl, by omega, hcm, by simpa [putCells] using hsz, ?_⟩⟩
  ·have hm : x ∈ xs := (hp xs).mem_iff.1 (List.mem_of_getElem? hj)
   obtain ⟨q, hq⟩ := List.mem_iff_getElem?.1 hm
   have hr := e1.2 q x hq
   rw [hE hr] at hr
   obtain ⟨h1, h2⟩ := List.getElem?_eq_some_iff.1 hj
   have e3 : (((srt xs).map enc).drop (j * L.size)).take L.size = [enc x] := by
    rw [hz, Nat.mul_one, List.drop_eq_getElem_cons (by simpa using h1)]
    simp [h2]
   rw [e3]; exact hr
  ·have := putCells_take1 (enc := enc) hfc
   rw [hz, Nat.mul_one]
   simpa using this
 ·rw [putRow_own1 hb]
  exact ((st.set (.cells (putCells enc 0 (srt xs).toArray cur) T) hi).same (w' := { w with drawn := w.drawn + n, heap := w.heap.setIfInBounds b (.cells (putCells enc 0 (srt xs).toArray cur) T) }) rfl rfl rfl rfl (Nat.le_add_right _ _)).grow os
end Go.Pk

namespace Go.Pk
open Go Go.RowKit Go.ChangeShapes Go.WideShapes Go.ChangeAt
def heapOf (W : World) : Heap := fun b => W.heap[b]?
theorem heapOf_sub (W : World) : Sub (heapOf W) W := fun _ _ h => h
/-- whatever reads as a datum of type t, within the form's reach, lies as L says -/
def Reads {α : Type} (P : Program) (W : World) (t : TypeId) (L : Lay α) : Prop :=
 ∀ {H : Type} (enc : TypeId × Value → H) (sp : Nat → Bool) (held : Bool) (fuel : Nat) (cs : List Value) (d : DataW H) (ps : List MemPlace),
  DataW.trod enc P W 0 sp held fuel t cs = some (d, ps) → (∀ n ∈ d.weights P t, n ≤ reachBytes) → ∃ x : α, L.R (heapOf W) cs x
section
variable {P : Program} {W : World} {t : TypeId}
theorem reads_int (hu : P.underlying t = some (.int .i64)) : Reads P W t LInt := by
 intro H enc sp held fuel cs d ps h _
 obtain ⟨n, rfl, _, _⟩ := DataW.trod_int hu h
 exact ⟨n, rfl⟩
theorem reads_u8 (hu : P.underlying t = some (.int .u8)) : Reads P W t LU8 := by
 intro H enc sp held fuel cs d ps h _
 obtain ⟨n, rfl, _, hw⟩ := DataW.trod_int hu h
 simp [Lit.wf, IntKind.min, IntKind.max, IntKind.bits, IntKind.signed] at hw
 exact ⟨n, rfl, by omega⟩
theorem reads_str (hu : P.underlying t = some .string) : Reads P W t LStr := by
 intro H enc sp held fuel cs d ps h hw
 obtain ⟨s, rfl, hx, _⟩ := DataW.trod_string hu h
 simp only [Prod.mk.injEq] at hx
 obtain ⟨rfl, _⟩ := hx
 refine ⟨s.data.toList, ?_, ?_⟩
 ·simp [strV]
 ·have := hw _ (by simp [DataW.weights] : s.data.toList.length ∈ _)
  unfold reachBytes at this; unfold big; omega
theorem weightsAll_mem {H : Type} {e : TypeId} : ∀ {ds : List (DataW H)} {d : DataW H}, d ∈ ds → ∀ n ∈ d.weights P e, n ∈ DataW.weightsAll P e ds
 | _ :: _, _, h, n, hn => by
  rw [DataW.weightsAll, List.mem_append]
  rcases List.mem_cons.1 h with rfl | h
  ·exact .inl hn
  ·exact .inr (weightsAll_mem h n hn)
theorem choose_list {α : Type} {R : Nat → α → Prop} : ∀ n, (∀ i, i < n → ∃ x, R i x) → ∃ xs : List α, xs.length = n ∧ ∀ i x, xs[i]? = some x → R i x
 | 0, _ => ⟨[], rfl, by simp⟩
 | n + 1, h => by
  obtain ⟨xs, hl, hx⟩ := choose_list n fun i hi => h i (by omega)
  obtain ⟨y, hy⟩ := h n (by omega)
  refine ⟨xs ++ [y], by simp [hl], fun i x hi => ?_⟩
  by_cases hlt : i < xs.length
  ·rw [List.getElem?_append_left hlt] at hi; exact hx i x hi
  ·rw [List.getElem?_append_right (by omega)] at hi
   have hi0 : i - xs.length = 0 := by
    rcases Nat.eq_zero_or_pos (i - xs.length) with h0 | h0
    ·exact h0
    ·rw [List.getElem?_eq_none (by simp; omega)] at hi; cases hi
   rw [hi0] at hi
   simp only [List.getElem?_cons_zero, Option.some.injEq] at hi
   subst hi
   have : i = n := by omega
   subst this; exact hy
theorem cell_block {b off : Nat} {sp : Option _} {v : Value} (h : W.cell? ⟨b, off, sp⟩ = some v) : sp = none ∧ ∃ c T fr, W.heap[b]? = some (.cells c T fr) ∧ c[off]? = some v := by
 have hs := World.cell?_spot h
 simp only at hs
 subst hs
 refine ⟨rfl, ?_⟩
 simp only [World.cell?] at h
 cases hb : W.heap[b]? with
 | none => rw [hb] at h; cases h
 | some o =>
  rw [hb] at h
  cases o with
  | cells c T fr => exact ⟨c, T, fr, rfl, by simpa using h⟩
  | _ => cases h
theorem cells_of {a : Addr} {n : Nat} {cs : List Value} (h : W.cells? 0 a n = some cs) (hn : 0 < n) : ∃ b off, a = ⟨b, off, none⟩ ∧ Cells (heapOf W) b off cs := by
 unfold World.cells? at h
 rw [if_pos (Nat.zero_le _)] at h
 have hl := mapM_some_length h
 have hg : ∀ j, j < n → W.cell? (a.add j) = cs[j]? := fun j hj => mapM_some_get h j j (by simp [hj])
 obtain ⟨b, off, sp⟩ := a
 have hlen : cs.length = n := by simpa using hl
 have h0 := hg 0 hn
 rw [List.getElem?_eq_getElem (by omega)] at h0
 have e0 : (⟨b, off, sp⟩ : Addr).add 0 = ⟨b, off, sp⟩ := by simp [Addr.add]
 rw [e0] at h0
 obtain ⟨rfl, c, T, fr, hb, _⟩ := cell_block h0
 refine ⟨b, off, rfl, c, T, fr, hb, fun j v hj => ?_⟩
 have hjl : j < n := by rw [← hlen]; exact (List.getElem?_eq_some_iff.1 hj).1
 have := hg j hjl
 rw [addr_add, hj] at this
 obtain ⟨_, c', T', fr', hb', hc'⟩ := cell_block this
 rw [hb] at hb'; cases hb'; exact hc'
theorem reads_sl {α : Type} {L : Lay α} {e : TypeId} (hu : P.underlying t = some (.slice e)) (hc : P.cellsOf e = L.size) (hp : Nat.blt 0 L.size = true) (hb : Nat.blt 0 (P.bytesOf e) = true) (hr : Reads P W e L) : Reads P W t (LSl L) := by
 intro H enc sp held fuel cs d ps h hw
 have hp : 0 < L.size := by simpa using hp
 have hb : 0 < P.bytesOf e := by simpa using hb
 rcases DataW.trod_slice hu h with ⟨rfl, _⟩ | ⟨a, len, cap, elems, rest, n, _, rfl, hx, _, _, _, hlen, hel, _, _⟩
 ·exact ⟨[], _, rfl, Sl.nil L _⟩
 ·simp only [Prod.mk.injEq] at hx
  obtain ⟨rfl, _⟩ := hx
  simp only [DataW.weights, hu, List.length_map] at hw
  have h1 := hw _ (List.mem_cons_self ..)
  have hle : len ≤ big := by
   have h2 : len ≤ (elems.length + rest.length) * P.bytesOf e := by
    rw [hlen]; exact Nat.le_trans (Nat.le_add_right _ _) (Nat.le_mul_of_pos_right _ hb)
   unfold reachBytes at h1; unfold big; omega
  have hE : ∀ i, i < len → ∃ x : α, ∃ vs, W.cells? 0 (a.add (i * L.size)) L.size = some vs ∧ L.R (heapOf W) vs x := by
   intro i hi
   have hi' : i < elems.length := by omega
   have := hel i hi
   rw [List.getElem?_eq_getElem hi', hc] at this
   obtain ⟨vs, h3, h4⟩ := Option.bind_eq_some_iff.1 this
   obtain ⟨x, hx⟩ := hr enc sp held n vs elems[i].1 elems[i].2 h4 (fun q hq => hw q (List.mem_cons_of_mem _ (List.mem_append_left _ (weightsAll_mem (List.mem_map_of_mem (List.getElem_mem hi')) q hq))))
   exact ⟨x, vs, h3, hx⟩
  obtain ⟨xs, hxl, hxs⟩ := choose_list len hE
  refine ⟨xs, _, rfl, some a, cap, by rw [hxl], by omega, ?_⟩
  cases xs with
  | nil => exact .inl rfl
  | cons x0 xs' =>
   right
   obtain ⟨vs0, h5, _⟩ := hxs 0 x0 rfl
   have e0 : a.add (0 * L.size) = a := by simp [Addr.add]
   rw [e0] at h5
   obtain ⟨b, off, rfl, _⟩ := cells_of h5 hp
   refine ⟨b, off, rfl, fun i x hi => ?_⟩
   obtain ⟨vs, h6, h7⟩ := hxs i x hi
   rw [addr_add] at h6
   obtain ⟨b', off', he, hcl⟩ := cells_of h6 hp
   cases he
   exact ⟨vs, hcl, h7⟩
theorem reads_fields {H : Type} {enc : TypeId × Value → H} {sp : Nat → Bool} {held : Bool} {fuel : Nat} {cs : List Value} {d : DataW H} {ps : List MemPlace} {fs : Array Field} {N : Nat} (hu : P.underlying t = some (.struct fs)) (hc : P.cellsOf t = N)
  (h : DataW.trod enc P W 0 sp held fuel t cs = some (d, ps)) (hw : ∀ n ∈ d.weights P t, n ≤ reachBytes) :
  cs.length = N ∧ ∀ (i : Nat) (f : Field) {α : Type} {L : Lay α}, fs[i]? = some f → Reads P W f.type L → ∃ x, L.R (heapOf W) ((cs.drop f.offset).take (P.cellsOf f.type)) x := by
 obtain ⟨xs, n, _, hx, hl, hlen, hf⟩ := DataW.trod_struct hu h
 simp only [Prod.mk.injEq] at hx
 obtain ⟨rfl, _⟩ := hx
 refine ⟨by rw [hl, hc], fun i f α L hi hr => ?_⟩
 have hil : i < xs.length := by rw [hlen]; exact (Array.getElem?_eq_some_iff.1 hi).1
 have := hf i f hi
 rw [List.getElem?_eq_getElem hil] at this
 refine hr enc sp held n _ xs[i].1 xs[i].2 this (fun q hq => hw q ?_)
 simp only [DataW.weights, hu]
 exact DataW.weights_mem_each (j := i) (t := f.type) (d := xs[i].1) (by rw [List.getElem?_map, Array.getElem?_toList, hi]; rfl) (by rw [List.getElem?_map, List.getElem?_eq_getElem hil]; rfl) q hq
theorem okWide_agg {r : Reach} {base : Nat} {v : Value} {fs : Array Field} (hu : P.underlying t = some (.struct fs)) (h : Value.okWide P W r base t v) : ∃ cs, v = .agg cs := by
 simp only [Value.okWide, hu] at h
 obtain ⟨cs, e, _⟩ := h
 exact ⟨cs, e⟩
/-- an argument, opened -/
theorem reads_agg {α : Type} {L : Lay α} {H : Type} {enc : TypeId × Value → H} {sp : Nat → Bool} {held : Bool} {r : Reach} {base : Nat} {v : Value} {d : DataW H} {ps : List MemPlace} {fs : Array Field} (hu : P.underlying t = some (.struct fs)) (hr : Reads P W t L) (hok : Value.okWide P W r base t v) (h : DataW.Trod enc P W 0 sp held t v d ps) (hw : ∀ n ∈ d.weights P t, n ≤ reachBytes) :
  ∃ cs x, v = .agg (List.toArray cs) ∧ L.R (heapOf W) cs x := by
 obtain ⟨cs, rfl⟩ := okWide_agg hu hok
 obtain ⟨fuel, h⟩ := h
 obtain ⟨x, hx⟩ := hr enc sp held fuel _ d ps h hw
 exact ⟨cs.toList, x, by simp, by simpa [Value.cells] using hx⟩
theorem weights_at {H : Type} {ts : List TypeId} {ds : List (DataW H)} (h : (DataW.weightsEach P ts ds).all (· ≤ reachBytes) = true) {j : Nat} {t : TypeId} {d : DataW H} (ht : ts[j]? = some t) (hd : ds[j]? = some d) : ∀ n ∈ d.weights P t, n ≤ reachBytes := by
 intro n hn
 have := List.all_eq_true.1 h n (DataW.weights_mem_each ht hd n hn)
 simpa using this
end
theorem Bel.old {B : Nat} {w w' : World} (b : Bel B w w') : Below B w w' := ⟨b.os, b.tape, b.output, b.size, b.block⟩
theorem trodAll_stays {H : Type} {enc : TypeId × Value → H} {P : Program} {W W' : World} {sp : Nat → Bool} (hl : laidOutB P = true) (hb : Below W.heap.size W W') : ∀ {ts : List TypeId} {vs : List Value} {ds : List (DataW H)} {ps : List MemPlace},
  (∀ t ∈ ts, P.readableRec t = true ∧ t < P.types.size) → DataW.TrodAll enc P W 0 (fun _ => true) true ts vs ds ps → (∀ x ∈ ps, x.block < W.heap.size) → (∀ x ∈ ps, sp x.block = true) → DataW.TrodAll enc P W' 0 sp true ts vs ds ps
 | [], _, _, _, _, h, _, _ => by
  obtain ⟨rfl, rfl, rfl⟩ := trodAll_nil h
  exact trodAll_mk0
 | t :: ts, _, _, _, ht, h, hlt, hs => by
  obtain ⟨v, vs, d, ds, p, q, rfl, rfl, rfl, h1, h2⟩ := trodAll_cons h
  obtain ⟨hr, hrow⟩ := ht t (List.mem_cons_self ..)
  refine ⟨p, q, WideElems.Trod_stays hl hr hrow h1 (fun x hx => hb.same (hlt x (List.mem_append_left _ hx))) (fun x hx => hs x (List.mem_append_left _ hx)), ?_, rfl⟩
  exact trodAll_stays hl hb (fun t' h' => ht t' (List.mem_cons_of_mem _ h')) h2 (fun x hx => hlt x (List.mem_append_right _ hx)) (fun x hx => hs x (List.mem_append_right _ hx))
/-- what a law's row asks of the end: true; all that was there reads as it did -/
theorem law_post {H : Type} {enc : TypeId × Value → H} {P : Program} {f : Func} {s : ChangeSpec} {apart fresh handsOn again : Bool} {W W' : World} {args : Array Value} {ds gs : List (DataW H)} {before : List MemPlace} {tb : TypeId}
  (hl : laidOutB P = true) (hts : ∀ t ∈ f.params.toList, P.readableRec t = true ∧ t < P.types.size) (hW : DataW.Whole enc P f.params.toList s.vars apart W args.toList ds gs before) (hv : s.vars = [])
  (hs : (s.fn H ds).results = [.lit (.bool true)] ∧ (s.fn H ds).args = ds ∧ (s.fn H ds).vars = []) (hr : f.resultTypes = #[tb]) (hu : P.underlying tb = some .bool) (hb : Bel W.heap.size W W') :
  s.post enc P f apart fresh handsOn again W args (.bool true) W' := by
 have hW0 := hW
 have hbo := hb.old
 obtain ⟨p, q, hA, hV, rfl, hz, hn⟩ := hW
 rw [hv] at hV
 obtain ⟨rfl, rfl⟩ := trodVars_none hV
 simp only [List.append_nil] at hW0 hz hn
 have hlt : ∀ x ∈ p, x.block < W.heap.size := fun x hx => by simpa using hW0.lt x hx
 have hargs : ∀ sp : Nat → Bool, (∀ x ∈ p, sp x.block = true) → DataW.TrodAll enc P W' 0 sp true f.params.toList args.toList ds p := fun sp h => trodAll_stays hl hbo hts hA hlt h
 have hres : ∀ (b : Nat) (sp : Nat → Bool) (hd : Bool), DataW.TrodAll enc P W' b sp hd f.resultTypes.toList ((Value.bool true).resultList f.resultTypes.size) [.lit (.bool true)] [] := by
  intro b sp hd
  rw [hr]
  exact trodAll_mk1 (shut_bool hu true)
 have hold : ∀ x ∈ p, (fun b => decide (b < W.heap.size)) x.block = true := fun x hx => by simpa using hlt x hx
 have hargs' : ∀ sp : Nat → Bool, (∀ x ∈ p, sp x.block = true) → DataW.TrodAll enc P W' 0 sp true f.params.toList args.toList (s.fn H (ds ++ [])).args p := by
  intro sp h; rw [List.append_nil, hs.2.1]; exact hargs sp h
 have hres' : ∀ (b : Nat) (sp : Nat → Bool) (hd : Bool), DataW.TrodAll enc P W' b sp hd f.resultTypes.toList ((Value.bool true).resultList f.resultTypes.size) (s.fn H (ds ++ [])).results [] := by
  intro b sp hd; rw [List.append_nil, hs.1]; exact hres b sp hd
 have hvars' : ∀ sp : Nat → Bool, DataW.TrodVars enc P W' sp s.vars (s.fn H (ds ++ [])).vars [] := by
  intro sp; rw [List.append_nil, hs.2.2, hv]; rfl
 refine ⟨ds, [], p, [], p, [], hW0, hres' _ _ _, hargs' _ hold, hvars' _, hbo.frame _, fun _ => ?_⟩
 refine ⟨ok_one hr rfl (okWide_bool_mk hu _), _, _, ([] ++ p) ++ [], ⟨[] ++ p, [], trodAll_append (hargs' _ (fun _ _ => rfl)) (hres' _ _ _), hvars' _, rfl, ?_, ?_⟩, ?_⟩
 ·intro b off hp
  have hp' : MemPlace.cell b off ∈ p := by simpa using hp
  have := hbo.frozen (p := ⟨b, off, none⟩) (hlt _ hp')
  rw [this]; exact hz b off hp'
 ·intro ha; simpa using hn ha
 ·intro x hx _; simpa using hx
section
variable {H : Type} {enc : TypeId × Value → H} {P : Program} {W : World} {base : Nat} {sp : Nat → Bool} {held : Bool} {t : TypeId}
theorem trod_agg_array {fuel : Nat} {cs : List Value} {ds : List (DataW H)} {p : List MemPlace} {n : Nat} {e : TypeId} (hu : P.underlying t = some (.array n e)) (h : DataW.trod enc P W base sp held fuel t cs = some (.agg ds, p)) :
  cs.length = P.cellsOf t ∧ ∀ i d, ds[i]? = some d → ∃ m q, DataW.trod enc P W base sp held m e ((cs.drop (i * P.cellsOf e)).take (P.cellsOf e)) = some (d, q) := by
 obtain ⟨xs, m, _, hx, hl, hn, hel⟩ := DataW.trod_array hu h
 simp only [Prod.mk.injEq, DataW.agg.injEq] at hx
 obtain ⟨rfl, _⟩ := hx
 refine ⟨hl, fun i d hd => ?_⟩
 rw [List.getElem?_map] at hd
 obtain ⟨y, hy, rfl⟩ := Option.map_eq_some_iff.1 hd
 have hi : i < n := by rw [← hn]; exact (List.getElem?_eq_some_iff.1 hy).1
 exact ⟨m, y.2, by rw [hel i hi, hy]⟩
theorem trod_agg_struct {fuel : Nat} {cs : List Value} {ds : List (DataW H)} {p : List MemPlace} {fs : Array Field} (hu : P.underlying t = some (.struct fs)) (h : DataW.trod enc P W base sp held fuel t cs = some (.agg ds, p)) :
  cs.length = P.cellsOf t ∧ ∀ (i : Nat) (f : Field) (d : DataW H), fs[i]? = some f → ds[i]? = some d → ∃ m q, DataW.trod enc P W base sp held m f.type ((cs.drop f.offset).take (P.cellsOf f.type)) = some (d, q) := by
 obtain ⟨xs, m, _, hx, hl, _, hf⟩ := DataW.trod_struct hu h
 simp only [Prod.mk.injEq, DataW.agg.injEq] at hx
 obtain ⟨rfl, _⟩ := hx
 refine ⟨hl, fun i f d hi hd => ?_⟩
 rw [List.getElem?_map] at hd
 obtain ⟨y, hy, rfl⟩ := Option.map_eq_some_iff.1 hd
 exact ⟨m, y.2, by rw [hf i f hi, hy]⟩
theorem trod_bool_is {fuel : Nat} {v : Value} {b : Bool} {q : List MemPlace} (hu : P.underlying t = some .bool) (h : DataW.trod enc P W base sp held fuel t [v] = some (.lit (.bool b), q)) : v = .bool b := by
 cases fuel with
 | zero => simp [DataW.trod] at h
 | succ n => cases v <;> simp [DataW.trod, hu] at h; rw [h.1]
theorem trod_nofunc {fuel : Nat} {v : Value} {q : List MemPlace} {ps rs : Array TypeId} {va : Bool} (hu : P.underlying t = some (.func ps rs va)) (h : DataW.trod enc P W base sp held fuel t [v] = some (.nil, q)) : v = .nilFunc := by
 cases fuel with
 | zero => simp [DataW.trod] at h
 | succ n => cases v <;> simp [DataW.trod, hu] at h <;> rfl
end
theorem var_cells {P : Program} {W : World} {n : String} {g : Nat} {cs : Array Value} (hg : P.globalNamed n = some g) (hv : W.var? P n = some cs) (hp : 0 < cs.toList.length) : Cells (heapOf W) g 0 cs.toList := by
 have hc : ∀ j, W.cell? ⟨g, j, none⟩ = cs[j]? := fun j => World.var?_cell hg hv j
 have h0 := hc 0
 rw [Array.getElem?_eq_getElem (by simpa using hp)] at h0
 obtain ⟨_, c, T, fr, hb, _⟩ := cell_block h0
 refine ⟨c, T, fr, hb, fun j v hj => ?_⟩
 have := hc j
 rw [← Array.getElem?_toList, hj] at this
 obtain ⟨_, c', T', fr', hb', hc'⟩ := cell_block this
 rw [hb] at hb'; cases hb'; rw [Nat.zero_add]; exact hc'
end Go.Pk

namespace Go.Pk
open Go Go.RowKit Go.ChangeShapes Go.WideShapes Go.ChangeAt
def LU32 : Lay Int := { size := 1, R := fun _ vs x => vs = [.int .u32 x] ∧ 0 ≤ x ∧ x ≤ 4294967295, up := fun h _ => h, len := by rintro _ _ _ ⟨rfl, _⟩; rfl, one := by rintro _ _ _ ⟨rfl, _⟩ u hu; simp at hu; subst hu; rfl }
section
variable {P : Program} {W : World} {t : TypeId}
theorem reads_u32 (hu : P.underlying t = some (.int .u32)) : Reads P W t LU32 := by
 intro H enc sp held fuel cs d ps h _
 obtain ⟨n, rfl, _, hw⟩ := DataW.trod_int hu h
 simp [Lit.wf, IntKind.min, IntKind.max, IntKind.bits, IntKind.signed] at hw
 exact ⟨n, rfl, by omega⟩
end
end Go.Pk

namespace Go.Pk
open Go Go.RowKit
theorem reads_Place {P : Program} {W : World} {t : TypeId} {fs : Array Field} (hu : P.underlying t = some (.struct fs)) (hc : P.cellsOf t = 3) {f0 : Field} (h0 : fs[0]? = some f0) (o0 : f0.offset = 0) (n0 : P.cellsOf f0.type = 1) (r0 : Reads P W f0.type LInt) {f1 : Field} (h1 : fs[1]? = some f1) (o1 : f1.offset = 1) (n1 : P.cellsOf f1.type = 1) (r1 : Reads P W f1.type LInt) {f2 : Field} (h2 : fs[2]? = some f2) (o2 : f2.offset = 2) (n2 : P.cellsOf f2.type = 1) (r2 : Reads P W f2.type LInt) : Reads P W t LPlace := by
 intro H enc sp held fuel cs d ps h hw
 obtain ⟨hl, hf⟩ := reads_fields hu hc h hw
 match cs, hl with
 | [c0, c1, c2], _ =>
 obtain ⟨x0, e0⟩ := hf 0 f0 h0 r0
 rw [o0, n0] at e0
 simp only [List.drop_succ_cons, List.drop_zero, List.take_succ_cons, List.take_zero] at e0
 cases (show [c0] = [_] from e0)
 obtain ⟨x1, e1⟩ := hf 1 f1 h1 r1
 rw [o1, n1] at e1
 simp only [List.drop_succ_cons, List.drop_zero, List.take_succ_cons, List.take_zero] at e1
 cases (show [c1] = [_] from e1)
 obtain ⟨x2, e2⟩ := hf 2 f2 h2 r2
 rw [o2, n2] at e2
 simp only [List.drop_succ_cons, List.drop_zero, List.take_succ_cons, List.take_zero] at e2
 cases (show [c2] = [_] from e2)
 exact ⟨⟨x0, x1, x2⟩, rfl⟩
theorem reads_Chapter {P : Program} {W : World} {t : TypeId} {fs : Array Field} (hu : P.underlying t = some (.struct fs)) (hc : P.cellsOf t = 2) {f0 : Field} (h0 : fs[0]? = some f0) (o0 : f0.offset = 0) (n0 : P.cellsOf f0.type = 1) (r0 : Reads P W f0.type LInt) {f1 : Field} (h1 : fs[1]? = some f1) (o1 : f1.offset = 1) (n1 : P.cellsOf f1.type = 1) (r1 : Reads P W f1.type (LSl (LSl LStr))) : Reads P W t LChapter := by
 intro H enc sp held fuel cs d ps h hw
 obtain ⟨hl, hf⟩ := reads_fields hu hc h hw
 match cs, hl with
 | [c0, c1], _ =>
 obtain ⟨x0, e0⟩ := hf 0 f0 h0 r0
 rw [o0, n0] at e0
 simp only [List.drop_succ_cons, List.drop_zero, List.take_succ_cons, List.take_zero] at e0
 cases (show [c0] = [_] from e0)
 obtain ⟨x1, e1⟩ := hf 1 f1 h1 r1
 rw [o1, n1] at e1
 simp only [List.drop_succ_cons, List.drop_zero, List.take_succ_cons, List.take_zero] at e1
 obtain ⟨v1, q1, g1⟩ := e1
 cases q1
 exact ⟨⟨x0, x1⟩, ⟨_, rfl, g1⟩⟩
theorem reads_Text {P : Program} {W : World} {t : TypeId} {fs : Array Field} (hu : P.underlying t = some (.struct fs)) (hc : P.cellsOf t = 1) {f0 : Field} (h0 : fs[0]? = some f0) (o0 : f0.offset = 0) (n0 : P.cellsOf f0.type = 1) (r0 : Reads P W f0.type (LSl LChapter)) : Reads P W t LText := by
 intro H enc sp held fuel cs d ps h hw
 obtain ⟨hl, hf⟩ := reads_fields hu hc h hw
 match cs, hl with
 | [c0], _ =>
 obtain ⟨x0, e0⟩ := hf 0 f0 h0 r0
 rw [o0, n0] at e0
 simp only [List.drop_succ_cons, List.drop_zero, List.take_succ_cons, List.take_zero] at e0
 obtain ⟨v0, q0, g0⟩ := e0
 cases q0
 exact ⟨⟨x0⟩, ⟨_, rfl, g0⟩⟩
theorem reads_Head {P : Program} {W : World} {t : TypeId} {fs : Array Field} (hu : P.underlying t = some (.struct fs)) (hc : P.cellsOf t = 2) {f0 : Field} (h0 : fs[0]? = some f0) (o0 : f0.offset = 0) (n0 : P.cellsOf f0.type = 1) (r0 : Reads P W f0.type LStr) {f1 : Field} (h1 : fs[1]? = some f1) (o1 : f1.offset = 1) (n1 : P.cellsOf f1.type = 1) (r1 : Reads P W f1.type LU8) : Reads P W t LHead := by
 intro H enc sp held fuel cs d ps h hw
 obtain ⟨hl, hf⟩ := reads_fields hu hc h hw
 match cs, hl with
 | [c0, c1], _ =>
 obtain ⟨x0, e0⟩ := hf 0 f0 h0 r0
 rw [o0, n0] at e0
 simp only [List.drop_succ_cons, List.drop_zero, List.take_succ_cons, List.take_zero] at e0
 obtain ⟨q0, g0⟩ := e0
 cases q0
 obtain ⟨x1, e1⟩ := hf 1 f1 h1 r1
 rw [o1, n1] at e1
 simp only [List.drop_succ_cons, List.drop_zero, List.take_succ_cons, List.take_zero] at e1
 obtain ⟨q1, g1⟩ := e1
 cases q1
 exact ⟨⟨x0, x1⟩, ⟨rfl, g0, g1⟩⟩
theorem reads_Rule {P : Program} {W : World} {t : TypeId} {fs : Array Field} (hu : P.underlying t = some (.struct fs)) (hc : P.cellsOf t = 3) {f0 : Field} (h0 : fs[0]? = some f0) (o0 : f0.offset = 0) (n0 : P.cellsOf f0.type = 1) (r0 : Reads P W f0.type LStr) {f1 : Field} (h1 : fs[1]? = some f1) (o1 : f1.offset = 1) (n1 : P.cellsOf f1.type = 1) (r1 : Reads P W f1.type LStr) {f2 : Field} (h2 : fs[2]? = some f2) (o2 : f2.offset = 2) (n2 : P.cellsOf f2.type = 1) (r2 : Reads P W f2.type LInt) : Reads P W t LRule := by
 intro H enc sp held fuel cs d ps h hw
 obtain ⟨hl, hf⟩ := reads_fields hu hc h hw
 match cs, hl with
 | [c0, c1, c2], _ =>
 obtain ⟨x0, e0⟩ := hf 0 f0 h0 r0
 rw [o0, n0] at e0
 simp only [List.drop_succ_cons, List.drop_zero, List.take_succ_cons, List.take_zero] at e0
 obtain ⟨q0, g0⟩ := e0
 cases q0
 obtain ⟨x1, e1⟩ := hf 1 f1 h1 r1
 rw [o1, n1] at e1
 simp only [List.drop_succ_cons, List.drop_zero, List.take_succ_cons, List.take_zero] at e1
 obtain ⟨q1, g1⟩ := e1
 cases q1
 obtain ⟨x2, e2⟩ := hf 2 f2 h2 r2
 rw [o2, n2] at e2
 simp only [List.drop_succ_cons, List.drop_zero, List.take_succ_cons, List.take_zero] at e2
 cases (show [c2] = [_] from e2)
 exact ⟨⟨x0, x1, x2⟩, ⟨rfl, g0, g1⟩⟩
theorem reads_Decision {P : Program} {W : World} {t : TypeId} {fs : Array Field} (hu : P.underlying t = some (.struct fs)) (hc : P.cellsOf t = 9) {f0 : Field} (h0 : fs[0]? = some f0) (o0 : f0.offset = 0) (n0 : P.cellsOf f0.type = 1) (r0 : Reads P W f0.type LInt) {f1 : Field} (h1 : fs[1]? = some f1) (o1 : f1.offset = 1) (n1 : P.cellsOf f1.type = 1) (r1 : Reads P W f1.type LU8) {f2 : Field} (h2 : fs[2]? = some f2) (o2 : f2.offset = 2) (n2 : P.cellsOf f2.type = 1) (r2 : Reads P W f2.type LStr) {f3 : Field} (h3 : fs[3]? = some f3) (o3 : f3.offset = 3) (n3 : P.cellsOf f3.type = 3) (r3 : Reads P W f3.type LPlace) {f4 : Field} (h4 : fs[4]? = some f4) (o4 : f4.offset = 6) (n4 : P.cellsOf f4.type = 2) (r4 : Reads P W f4.type LHead) {f5 : Field} (h5 : fs[5]? = some f5) (o5 : f5.offset = 8) (n5 : P.cellsOf f5.type = 1) (r5 : Reads P W f5.type LInt) : Reads P W t LDecision := by
 intro H enc sp held fuel cs d ps h hw
 obtain ⟨hl, hf⟩ := reads_fields hu hc h hw
 match cs, hl with
 | [c0, c1, c2, c3, c4, c5, c6, c7, c8], _ =>
 obtain ⟨x0, e0⟩ := hf 0 f0 h0 r0
 rw [o0, n0] at e0
 simp only [List.drop_succ_cons, List.drop_zero, List.take_succ_cons, List.take_zero] at e0
 cases (show [c0] = [_] from e0)
 obtain ⟨x1, e1⟩ := hf 1 f1 h1 r1
 rw [o1, n1] at e1
 simp only [List.drop_succ_cons, List.drop_zero, List.take_succ_cons, List.take_zero] at e1
 obtain ⟨q1, g1⟩ := e1
 cases q1
 obtain ⟨x2, e2⟩ := hf 2 f2 h2 r2
 rw [o2, n2] at e2
 simp only [List.drop_succ_cons, List.drop_zero, List.take_succ_cons, List.take_zero] at e2
 obtain ⟨q2, g2⟩ := e2
 cases q2
 obtain ⟨x3, e3⟩ := hf 3 f3 h3 r3
 rw [o3, n3] at e3
 simp only [List.drop_succ_cons, List.drop_zero, List.take_succ_cons, List.take_zero] at e3
 have q3 := e3
 cases (show [c3, c4, c5] = _ from q3)
 obtain ⟨x4, e4⟩ := hf 4 f4 h4 r4
 rw [o4, n4] at e4
 simp only [List.drop_succ_cons, List.drop_zero, List.take_succ_cons, List.take_zero] at e4
 obtain ⟨q4, g4_0, g4_1⟩ := e4
 cases (show [c6, c7] = _ from q4)
 obtain ⟨x5, e5⟩ := hf 5 f5 h5 r5
 rw [o5, n5] at e5
 simp only [List.drop_succ_cons, List.drop_zero, List.take_succ_cons, List.take_zero] at e5
 cases (show [c8] = [_] from e5)
 exact ⟨⟨x0, x1, x2, x3, x4, x5⟩, ⟨rfl, g1, g2, g4_0, g4_1⟩⟩
theorem reads_Lexicon {P : Program} {W : World} {t : TypeId} {fs : Array Field} (hu : P.underlying t = some (.struct fs)) (hc : P.cellsOf t = 2) {f0 : Field} (h0 : fs[0]? = some f0) (o0 : f0.offset = 0) (n0 : P.cellsOf f0.type = 1) (r0 : Reads P W f0.type (LSl LRule)) {f1 : Field} (h1 : fs[1]? = some f1) (o1 : f1.offset = 1) (n1 : P.cellsOf f1.type = 1) (r1 : Reads P W f1.type (LSl LDecision)) : Reads P W t LLexicon := by
 intro H enc sp held fuel cs d ps h hw
 obtain ⟨hl, hf⟩ := reads_fields hu hc h hw
 match cs, hl with
 | [c0, c1], _ =>
 obtain ⟨x0, e0⟩ := hf 0 f0 h0 r0
 rw [o0, n0] at e0
 simp only [List.drop_succ_cons, List.drop_zero, List.take_succ_cons, List.take_zero] at e0
 obtain ⟨v0, q0, g0⟩ := e0
 cases q0
 obtain ⟨x1, e1⟩ := hf 1 f1 h1 r1
 rw [o1, n1] at e1
 simp only [List.drop_succ_cons, List.drop_zero, List.take_succ_cons, List.take_zero] at e1
 obtain ⟨v1, q1, g1⟩ := e1
 cases q1
 exact ⟨⟨x0, x1⟩, ⟨_, _, rfl, g0, g1⟩⟩
end Go.Pk

namespace Go.Pk
open Go Go.RowKit
theorem St.setAt {h0 h : Heap} {w0 w : World} {A C : Own} {b : Nat} {o : Obj} (st : St h0 w0 h w (A ++ [(b, o)] :: C)) (o' : Obj) : St h0 w0 h (w.putObj b o') (A ++ [(b, o')] :: C) := by
 have := st.set (k := A.length) (b := b) (o := o) o' (by simp)
 have e : (A ++ [(b, o)] :: C).set A.length [(b, o')] = A ++ [(b, o')] :: C := by
  rw [List.set_append_right _ _ (Nat.le_refl _), Nat.sub_self, List.set_cons_zero]
 rw [e] at this; exact this
theorem St.at {h0 h : Heap} {w0 w : World} {A C : Own} {b : Nat} {o : Obj} (st : St h0 w0 h w (A ++ [(b, o)] :: C)) : w.heap[b]? = some o := st.get (k := A.length) (by simp)
/-- a round that is asked for: what yield comes to -/
def Yields (P : Program) (l : Nat) (args : Array Value) (w : World) (R : Value → World → Prop) : Prop :=
 ∃ fn tmps assign body, (Instr.yield l args).run P w = .ok (.round l fn tmps assign body) w ∧ RoundIn Fence.wide 0 P l fn tmps assign body w fun e w' => ∃ v, e = .returned v ∧ R v w'
theorem OpsL.yields {P : Program} {n : Nat} {ops : Array Oper} {rest : List Oper} {K : Env → World → Prop} {σ : Env} {w : World} {o : Oper} {x : Operand} {args : Array Operand} {ats : Array TypeId} {l : Nat} {vs : List Value}
  (ho : o.op = .call ⟨.value x, args, ats⟩) (hg : o.guard = none) (hd : dstOk n o.dst = true) (hx : ev σ x = .func (.yield l) #[] #[]) (hv : args.toList.map (ev σ) = vs)
  (h : Yields P l vs.toArray w fun v w' => OpsL P n ops rest K (updO σ o.dst v) w') : OpsL P n ops (o :: rest) K σ w := by
 obtain ⟨fn, tmps, assign, body, hr, hR⟩ := h
 refine OpsL.round (l := l) (f := fn) (tmps := tmps) (assign := assign) (body := body) (w' := w) hg hd ?_ hR
 subst hv
 have e : args.map (ev σ) = (args.toList.map (ev σ)).toArray := amap (ev σ) args
 rw [← e] at hr
 unfold execOp
 simp [ho, resolve, hx, invoke, callFunc, hr, go_sem]
theorem St.tl {h0 h : Heap} {w0 w : World} {o : List (Nat × Obj)} {own : Own} (st : St h0 w0 h w (o :: own)) : St h0 w0 h w own := by
 have s := st.drop 0
 rw [List.set_cons_zero] at s
 exact ⟨s.le, s.new, s.sub, s.below, fun p hp => s.mine p (by simpa using hp), by simpa using s.nodup⟩
theorem Yields.mono {P : Program} {l : Nat} {args : Array Value} {w : World} {R R' : Value → World → Prop} (h : Yields P l args w R) (hr : ∀ v w', R v w' → R' v w') : Yields P l args w R' := by
 obtain ⟨fn, tmps, assign, body, hrun, hR⟩ := h
 exact ⟨fn, tmps, assign, body, hrun, RoundIn.mono hR fun e w' ⟨v, he, h⟩ => ⟨v, he, hr v w' h⟩⟩
theorem OpsL.yieldsJ {P : Program} {n : Nat} {ops : Array Oper} {rest : List Oper} {K : Env → World → Prop} {σ : Env} {w : World} {o : Oper} {x : Operand} {args : Array Operand} {ats : Array TypeId} {l : Nat} {vs : List Value} {h0 h1 : Heap} {w0 : World} {B : Own} {J1 J2 : Heap → Own → Prop}
  (ho : o.op = .call ⟨.value x, args, ats⟩) (hg : o.guard = none) (hd : dstOk n o.dst = true) (hx : ev σ x = .func (.yield l) #[] #[]) (hv : args.toList.map (ev σ) = vs)
  (h : Yields P l vs.toArray w fun v w2 => ∃ h2 rest2, Le h1 h2 ∧ St h0 w0 h2 w2 (B ++ rest2) ∧ ((v = .bool true ∧ J1 h2 rest2) ∨ (v = .bool false ∧ J2 h2 rest2)))
  (hk : ∀ b w2 h2 rest2, Le h1 h2 → St h0 w0 h2 w2 (B ++ rest2) → (b = true → J1 h2 rest2) → (b = false → J2 h2 rest2) → OpsL P n ops rest K (updO σ o.dst (.bool b)) w2) : OpsL P n ops (o :: rest) K σ w := by
 refine OpsL.yields ho hg hd hx hv (h.mono ?_)
 rintro v w2 ⟨h2, rest2, le, st, ⟨rfl, hj⟩ | ⟨rfl, hj⟩⟩
 ·exact hk true w2 h2 rest2 le st (fun _ => hj) (fun e => by cases e)
 ·exact hk false w2 h2 rest2 le st (fun e => by cases e) (fun _ => hj)
theorem OpsL.callFV {P : Program} {n : Nat} {ops : Array Oper} {rest : List Oper} {K : Env → World → Prop} {σ : Env} {w w0 : World} {h0 h : Heap} {own : Own} {o : Oper} {f : FuncId} {x : Operand} {fs cs : List Value} {args : Array Operand} {ats : Array TypeId} {vs : List Value} {Φ : Heap → World → Value → Prop} (st : St h0 w0 h w own) (ho : o.op = .call ⟨.value x, args, ats⟩) (hx : ev σ x = .func (.func f) fs.toArray cs.toArray) (hg : o.guard = none) (hd : dstOk n o.dst = true) (hf : ∀ a w, (callFunc f a).run P w = .ok (.enter f a) w)
  (hv : fs ++ args.toList.map (ev σ) ++ cs = vs) (hc : Calls P f vs.toArray w (Rets h w Φ))
  (hk : ∀ v w' h', Le h h' → St h0 w0 h' w' own → Φ h' w' v → OpsL P n ops rest K (updO σ o.dst v) w') : OpsL P n ops (o :: rest) K σ w := by
 refine zD hg hd (zaa ho hx hf hv) (hc.mono ?_)
 rintro e w' ⟨h', v, rfl, s, hΦ⟩
 exact ⟨v, rfl, hk v w' h' s.le (st.call0 s) hΦ⟩
/-- an iterator's contract: S says what all that comes can be -/
def Gives {α : Type} (P : Program) (gf : FuncId) (caps : List Value) (A : Heap → Value → α → Prop) (S : List α → Prop) (h0 : Heap) (w0 : World) (h : Heap) : Prop :=
 ∀ (l : Nat) (J Jx : List α → Heap → Own → Prop),
  (∀ xs h1 h2 o, J xs h1 o → Le h1 h2 → J xs h2 o) → (∀ xs h1 h2 o, Jx xs h1 o → Le h1 h2 → Jx xs h2 o) →
  (∀ pre x h1 w1 B rest u, Le h h1 → J pre h1 rest → St h0 w0 h1 w1 (B ++ rest) → A h1 u x → Yields P l #[u] w1 fun v w2 => ∃ h2 rest2, Le h1 h2 ∧ St h0 w0 h2 w2 (B ++ rest2) ∧ ((v = .bool true ∧ J (pre ++ [x]) h2 rest2) ∨ (v = .bool false ∧ Jx (pre ++ [x]) h2 rest2))) →
  ∀ h1 w rest, Le h h1 → J [] h1 rest → St h0 w0 h1 w rest →
   Calls P gf (.func (.yield l) #[] #[] :: caps).toArray w fun e w' => ∃ h' rest' v, e = .returned v ∧ Le h1 h' ∧ St h0 w0 h' w' rest' ∧ ((∃ xs, S xs ∧ J xs h' rest') ∨ (∃ pre, Jx pre h' rest'))

structure FitsD (ds : List Deferred) (n : Nat) (a : Act) (σ : Env) : Prop where
 size : a.tmps.size = n
 defers : a.defers = ds
 at_ : ∀ i, a.tmps.getD i undef = σ i
abbrev VS := List Deferred × Env
theorem FitsD.bare {ds : List Deferred} {n : Nat} {a : Act} {σ : Env} (h : FitsD ds n a σ) : Fits n { a with defers := [] } σ := ⟨h.size, rfl, h.at_⟩
theorem FitsD.eval {ds : List Deferred} {n : Nat} {a : Act} {σ : Env} (h : FitsD ds n a σ) : a.eval = ev σ := by
 funext x; cases x <;> simp only [Act.eval, ev]; exact h.at_ _
/-- what a piece of code does, where the frame may be a round's, or bear marks -/
def V (F : Fence) (P : Program) (n : Nat) (c : Code) (Q : Exit → VS → World → Prop) (s : VS) (w : World) : Prop :=
 ∀ k a, FitsD s.1 n a s.2 → c.wpIn F k P (fun e a' w' => ∃ s' : VS, FitsD s'.1 n a' s'.2 ∧ Q e s' w') a w
def ThenV (K : VS → World → Prop) (Q : Exit → VS → World → Prop) : Exit → VS → World → Prop
 | .normal, σ, w => K σ w
 | e, σ, w => Q e σ w
def BlkV (id : Nat) (Q : Exit → VS → World → Prop) : Exit → VS → World → Prop
 | .exit id', σ, w => if id' = id then Q .normal σ w else Q (.exit id') σ w
 | e, σ, w => Q e σ w
theorem zK {K : VS → World → Prop} {Q : Exit → VS → World → Prop} {s : VS} {w : World} (h : K s w) : ThenV K Q .normal s w := h
theorem ThenV.exit {K : VS → World → Prop} {Q : Exit → VS → World → Prop} {s : VS} {w : World} {id : Nat} (h : Q (.exit id) s w) : ThenV K Q (.exit id) s w := h
theorem ThenV.ret {K : VS → World → Prop} {Q : Exit → VS → World → Prop} {s : VS} {w : World} (h : Q .ret s w) : ThenV K Q .ret s w := h
theorem BlkV.norm {id : Nat} {Q : Exit → VS → World → Prop} {s : VS} {w : World} (h : Q .normal s w) : BlkV id Q .normal s w := h
theorem BlkV.hit {id : Nat} {Q : Exit → VS → World → Prop} {s : VS} {w : World} (h : Q .normal s w) : BlkV id Q (.exit id) s w := by simp only [BlkV, if_true]; exact h
theorem BlkV.miss {id id' : Nat} {Q : Exit → VS → World → Prop} {s : VS} {w : World} (hne : Nat.beq id' id = false) (h : Q (.exit id') s w) : BlkV id Q (.exit id') s w := by
 have : ¬ id' = id := fun e => by rw [e] at hne; simp at hne
 simp only [BlkV, if_neg this]; exact h
theorem BlkV.ret {id : Nat} {Q : Exit → VS → World → Prop} {s : VS} {w : World} (h : Q .ret s w) : BlkV id Q .ret s w := h
section
variable {F : Fence} {P : Program} {n : Nat} {Q : Exit → VS → World → Prop} {s : VS} {w : World}
theorem V.skip (h : Q .normal s w) : V F P n .skip Q s w := fun _ _ ha => wpIn_skip ⟨s, ha, h⟩
theorem V.label {l : Nat} (h : Q .normal s w) : V F P n (.label l) Q s w := fun _ _ ha => wpIn_label ⟨s, ha, h⟩
theorem V.exit {id : Nat} (h : Q (.exit id) s w) : V F P n (.exit id) Q s w := fun _ _ ha => wpIn_exit ⟨s, ha, h⟩
theorem V.ret (h : Q .ret s w) : V F P n .ret Q s w := fun _ _ ha => wpIn_ret ⟨s, ha, h⟩
theorem V.seq {x y : Code} (h : V F P n x (ThenV (V F P n y Q) Q) s w) : V F P n (.seq x y) Q s w := by
 intro k a ha
 refine wpIn_seq (wpIn_mono (h k a ha) ?_)
 rintro e a' w' ⟨s', hf, q⟩
 cases e <;> first | exact q k a' hf | exact ⟨s', hf, q⟩
theorem V.block {id : Nat} {c : Code} (h : V F P n c (BlkV id Q) s w) : V F P n (.block id c) Q s w := by
 intro k a ha
 refine wpIn_block (wpIn_mono (h k a ha) ?_)
 rintro e a' w' ⟨s', hf, q⟩
 cases e with
 | exit id' =>
  simp only [BlkV] at q
  simp only [Exit.inBlock]
  split
  ·rename_i h; rw [if_pos h] at q; exact ⟨s', hf, q⟩
  ·rename_i h; rw [if_neg h] at q; exact ⟨s', hf, q⟩
 | _ => exact ⟨s', hf, q⟩
theorem V.cond {c : Operand} {x y : Code} {t : Bool} (hc : ev s.2 c = .bool t) (ht : t = true → V F P n x Q s w) (hf : t = false → V F P n y Q s w) : V F P n (.cond c x y) Q s w := by
 intro k a ha
 exact wpIn_cond_split (t := t) (by rw [ha.eval]; exact hc) (fun e => ht e k a ha) (fun e => hf e k a ha)
def noDefer : List Oper → Bool
 | [] => true
 | o :: l => (match o.op with | .defer _ => false | _ => true) && noDefer l
theorem noDefer_one {o : Oper} (h : (match o.op with | .defer _ => false | _ => true) = true) : ∀ c, o.op ≠ .defer c := by
 intro c e; rw [e] at h; cases h
theorem listIn_of {ops : Array Oper} {ds : List Deferred} {q : Exit → Act → World → Prop} {q' : Exit → Act → World → Prop} {r : Option Nat} (hq : ∀ e a1 a2 w, a2.tmps = a1.tmps → a2.defers = a1.defers ++ ds → q e a1 w → q' e a2 w) (hn : ∀ e a w, q e a w → e = .normal) {k : Nat} :
  ∀ (l : List Oper) (a1 a2 : Act) (w : World), noDefer l = true → a2.tmps = a1.tmps → a2.defers = a1.defers ++ ds → wpListIn Fence.wide 0 P ops q l a1 w → wpListIn { Fence.wide with round := r } k P ops q' l a2 w
 | [], a1, a2, w, _, h1, h2, h => hq _ _ _ _ h1 h2 h
 | o :: l, a1, a2, w, hd, h1, h2, h => by
  simp only [noDefer, Bool.and_eq_true] at hd
  have ih := fun a1 a2 w => listIn_of (r := r) (ops := ops) hq hn (k := k) l a1 a2 w hd.2
  have hev : a2.eval = a1.eval := by funext x; cases x <;> simp only [Act.eval, h1]
  unfold wpListIn at h ⊢
  rw [h1]
  have hp1 : ∀ (d : Option Tmp) (v : Value), (a2.put d v).tmps = (a1.put d v).tmps := by
   intro d v; cases d <;> simp [Act.put, h1]
  have hp2 : ∀ (d : Option Tmp) (v : Value), (a2.put d v).defers = (a1.put d v).defers ++ ds := by
   intro d v; cases d <;> simp [Act.put, h2]
  split
  ·rename_i hw
   rw [if_pos hw] at h
   obtain ⟨_, h⟩ := h
   refine ⟨fun _ _ => trivial, ?_⟩
   rw [Oper.semAt_eq _ _ _ (noDefer_one hd.1), hev]
   have h : o.uponIn Fence.wide 0 P a1 _ _ ((execOp a1.eval o).run P w) := h
   cases hr : (execOp a1.eval o).run P w with
   | ok nx w' =>
    rw [hr] at h
    cases nx with
    | value v => exact ih _ _ _ (hp1 _ _) (hp2 _ _) h
    | skip => exact ih _ _ _ (hp1 _ _) (hp2 _ _) h
    | defer d =>
     refine ih _ _ _ ?_ ?_ h
     ·cases o.dst <;> simp [Act.put, h1]
     ·cases o.dst <;> simp [Act.put, h2]
    | enter f args =>
     refine ⟨fun hh => absurd hh (by simp [Fence.wide]), ?_⟩
     have h2' := (callsIn_wide (n := k - 1)).2 (callsIn_wide.1 h.2)
     have h3 : CallsIn { Fence.wide with round := r } (k - 1) P f args w' _ := h2'
     refine CallsIn.mono h3 ?_
     intro e w'' he
     cases e with
     | returned v => exact ih _ _ _ (hp1 _ _) (hp2 _ _) he
     | panicked c => exact absurd (hn _ _ _ he) (by simp)
     | outgrown => obtain ⟨_, _, he⟩ := he; exact absurd (hn _ _ _ he) (by simp)
    | round l f tmps assign body =>
     refine ⟨fun hh => absurd hh (by simp [Fence.wide]), ?_⟩
     have h3 : RoundIn { Fence.wide with round := r } (k - 1) P l f tmps assign body w' _ := ⟨trivial, fun c cs _ => h.2.2 c cs (room_wide _)⟩
     refine RoundIn.mono h3 ?_
     intro e w'' he
     cases e with
     | returned v => exact ih _ _ _ (hp1 _ _) (hp2 _ _) he
     | panicked c => exact absurd (hn _ _ _ he) (by simp)
     | outgrown => obtain ⟨_, _, he⟩ := he; exact absurd (hn _ _ _ he) (by simp)
    | row rw_ args =>
     refine ⟨fun hh => absurd hh (by simp [Fence.wide]), ?_⟩
     have h3 : RowsIn { Fence.wide with round := r } (k - 1) P rw_ args w' _ := fun c cs _ => h.2 c cs (room_wide _)
     refine RowsIn.mono h3 ?_
     intro v w'' he
     exact ih _ _ _ (hp1 _ _) (hp2 _ _) he
    | _ => exact h.elim
   | halt x w' =>
    rw [hr] at h
    cases x with
    | panic v => exact absurd (hn _ _ _ h) (by simp)
    | _ => exact h.elim
  ·rename_i hw
   rw [if_neg hw] at h
   obtain ⟨_, h⟩ := h
   exact ⟨fun _ _ => trivial, ih _ _ _ (hp1 _ _) (hp2 _ _) h⟩
theorem zW {r : Option Nat} {ds : List Deferred} {σ : Env} {id : Nat} {l : List Oper} (hnd : noDefer l = true) (h : OpsL P n l.toArray l (fun σ w => Q .normal (ds, σ) w) σ w) : V { Fence.wide with round := r } P n (.region id l.toArray false) Q (ds, σ) w := by
 intro k a ha
 refine wpIn_region_lit (listIn_of (ds := ds) ?_ ?_ l { a with defers := [] } a w hnd rfl (by simpa using ha.defers) (h _ ha.bare))
 ·rintro e a1 a2 w h1 h2 ⟨rfl, σ', hf, q⟩
  refine ⟨(ds, σ'), ⟨by rw [h1]; exact hf.size, by rw [h2, hf.defers]; rfl, by rw [h1]; exact hf.at_⟩, q⟩
 ·rintro e a w ⟨rfl, _⟩; rfl
end
theorem V.mono {F : Fence} {P : Program} {n : Nat} {Q Q' : Exit → VS → World → Prop} {s : VS} {w : World} {c : Code} (h : V F P n c Q s w) (hq : ∀ e s w, Q e s w → Q' e s w) : V F P n c Q' s w :=
 fun k a ha => wpIn_mono (h k a ha) fun _ _ _ ⟨s', hf, q⟩ => ⟨s', hf, hq _ _ _ q⟩
/-- the code ahead of a range is ordinary -/
theorem V.ofW {P : Program} {n : Nat} {c : Code} {Q : Exit → VS → World → Prop} {σ : Env} {w : World} (h : W P n c (fun e σ' w' => Q e ([], σ') w') σ w) : V Fence.wide P n c Q ([], σ) w := by
 intro k a ha
 have hf : Fits n a σ := ⟨ha.size, ha.defers, ha.at_⟩
 refine (wpIn_wide (n := k)).2 (Code.wp_mono ?_ (h a hf))
 rintro e a' w' ⟨σ', hf', q⟩
 exact ⟨([], σ'), ⟨hf'.size, hf'.defers, hf'.at_⟩, q⟩
/-- how a round is left -/
def RPost {α : Type} (I : List α → Heap → Own → Prop) (Ix : Code → List α → Heap → Own → Prop) (h0 : Heap) (w0 : World) (h2 : Heap) (xs : List α) (tail : Own) : Exit → VS → World → Prop := fun e _ w4 =>
 ∃ h3 own3, Le h2 h3 ∧ St h0 w0 h3 w4 (own3 ++ tail) ∧ (match e with
  | .normal => I xs h3 own3
  | .ret => Ix .ret xs h3 own3
  | .exit id => Ix (.exit id) xs h3 own3
  | .goto t => Ix (.goto t) xs h3 own3
  | _ => False)
/-- behind the assignment to the loop's variables: the body, whatever has turned elsewhere -/
def APost {α : Type} (F : Fence) (P : Program) (n : Nat) (body : Code) (I : List α → Heap → Own → Prop) (Ix : Code → List α → Heap → Own → Prop) (h0 : Heap) (w0 : World) (h1 : Heap) (xs : List α) (tail : Own) : Exit → VS → World → Prop := fun e s w2 =>
 e = .normal ∧ ∃ h2 own2, Le h1 h2 ∧ St h0 w0 h2 w2 (own2 ++ tail) ∧ ∀ tail' w3, St h0 w0 h2 w3 (own2 ++ tail') → V F P n body (RPost I Ix h0 w0 h2 xs tail') s w3
theorem APost.mk {α : Type} {F : Fence} {P : Program} {n : Nat} {body : Code} {I : List α → Heap → Own → Prop} {Ix : Code → List α → Heap → Own → Prop} {h0 h1 h2 : Heap} {w0 : World} {xs : List α} {own2 tail : Own} {s : VS} {w2 : World} (le : Le h1 h2) (st : St h0 w0 h2 w2 (own2 ++ tail))
  (hb : ∀ tail' w3, St h0 w0 h2 w3 (own2 ++ tail') → V F P n body (RPost I Ix h0 w0 h2 xs tail') s w3) : APost F P n body I Ix h0 w0 h1 xs tail .normal s w2 := ⟨rfl, h2, own2, le, st, hb⟩
theorem RPost.norm {α : Type} {I : List α → Heap → Own → Prop} {Ix : Code → List α → Heap → Own → Prop} {h0 h2 h3 : Heap} {w0 : World} {xs : List α} {own3 tail : Own} {s : VS} {w4 : World} (le : Le h2 h3) (st : St h0 w0 h3 w4 (own3 ++ tail)) (hI : I xs h3 own3) : RPost I Ix h0 w0 h2 xs tail .normal s w4 := ⟨h3, own3, le, st, hI⟩
theorem RPost.exit {α : Type} {I : List α → Heap → Own → Prop} {Ix : Code → List α → Heap → Own → Prop} {h0 h2 h3 : Heap} {w0 : World} {xs : List α} {own3 tail : Own} {s : VS} {w4 : World} {id : Nat} (le : Le h2 h3) (st : St h0 w0 h3 w4 (own3 ++ tail)) (hI : Ix (.exit id) xs h3 own3) : RPost I Ix h0 w0 h2 xs tail (.exit id) s w4 := ⟨h3, own3, le, st, hI⟩
theorem perm_end {α : Type} (A B C : List α) : (B ++ (A ++ C)).Perm (A ++ (C ++ B)) := by
 rw [← List.append_assoc A C B]; exact List.perm_append_comm
/-- an iterator that yields any number of values at a time -/
def GivesG {α : Type} (P : Program) (gf : FuncId) (caps : List Value) (A : List α → Heap → List Value → α → Prop) (S : List α → Prop) (h0 : Heap) (w0 : World) (h : Heap) : Prop :=
 ∀ (l : Nat) (J Jx : List α → Heap → Own → Prop),
  (∀ xs h1 h2 o, J xs h1 o → Le h1 h2 → J xs h2 o) → (∀ xs h1 h2 o, Jx xs h1 o → Le h1 h2 → Jx xs h2 o) →
  (∀ pre x h1 w1 B rest us, Le h h1 → J pre h1 rest → St h0 w0 h1 w1 (B ++ rest) → A pre h1 us x → Yields P l us.toArray w1 fun v w2 => ∃ h2 rest2, Le h1 h2 ∧ St h0 w0 h2 w2 (B ++ rest2) ∧ ((v = .bool true ∧ J (pre ++ [x]) h2 rest2) ∨ (v = .bool false ∧ Jx (pre ++ [x]) h2 rest2))) →
  ∀ h1 w rest, Le h h1 → J [] h1 rest → St h0 w0 h1 w rest →
   Calls P gf (.func (.yield l) #[] #[] :: caps).toArray w fun e w' => ∃ h' rest' v, e = .returned v ∧ Le h1 h' ∧ St h0 w0 h' w' rest' ∧ ((∃ xs, S xs ∧ J xs h' rest') ∨ (∃ pre, Jx pre h' rest'))
/-- a range over a function -/
theorem V.rangeFuncG {α : Type} {P : Program} {n : Nat} {Q : Exit → VS → World → Prop} {A : List α → Heap → List Value → α → Prop} {g : Operand} {ps : Array Tmp} {up : List Value → Env} {assign body : Code} {σ : Env} {w : World} {gf : FuncId} {caps : List Value} {S : List α → Prop} {h0 h : Heap} {w0 : World} {own : Own}
  (st : St h0 w0 h w own) (hg : ev σ g = .func (.func gf) #[] caps.toArray) (eg : ∀ a w, (callFunc gf a).run P w = .ok (.enter gf a) w) (hput : ∀ (a : Act) pre us h x, FitsD [] n a σ → A pre h us x → FitsD [] n ({ tmps := (ps.zip us.toArray).foldl (fun tmps (x : Nat × Value) => tmps.setIfInBounds x.1 x.2) a.tmps, defers := [] } : Act) (up us)) (hsz : ∀ pre us h x, A pre h us x → us.toArray.size = ps.size)
  (seq : GivesG P gf caps A S h0 w0 h) (I : List α → Heap → Own → Prop) (Ix : Code → List α → Heap → Own → Prop)
  (hI : ∀ xs h1 h2 o, I xs h1 o → Le h1 h2 → I xs h2 o) (hIx : ∀ c xs h1 h2 o, Ix c xs h1 o → Le h1 h2 → Ix c xs h2 o) (h00 : I [] h own)
  (hround : ∀ (l : Nat) pre x h1 w1 own1 tail us, Le h h1 → I pre h1 own1 → St h0 w0 h1 w1 (own1 ++ tail) → A pre h1 us x →
   V { Fence.wide with round := some l } P n assign (APost { Fence.wide with round := some l } P n body I Ix h0 w0 h1 (pre ++ [x]) tail) ([], up us) w1)
  (hdone : ∀ D xs h' w' own', Le h h' → S xs → I xs h' own' → St h0 w0 h' w' (own' ++ [[(D, .deferred (some []))]]) → Q .normal ([{ target := .collected D, args := #[] }], σ) w')
  (hstop : ∀ D c pre h' w' own', Le h h' → Ix c pre h' own' → St h0 w0 h' w' (own' ++ [[(D, .deferred (some []))]]) → V Fence.wide P n c Q ([{ target := .collected D, args := #[] }], σ) w') :
  V Fence.wide P n (.rangeFunc g ps assign body) Q ([], σ) w := by
 intro k a ha
 refine wpIn_rangeFunc ?_
 intro fn _
 obtain ⟨D, hD⟩ : ∃ D, D = w.heap.size := ⟨_, rfl⟩
 obtain ⟨l, hl⟩ : ∃ l, l = w.heap.size + 1 := ⟨_, rfl⟩
 obtain ⟨rec, hrec⟩ : ∃ rec : LoopState → Option Code → Loop, rec = fun st pe => { state := st, pending := pe, fn, tmps := a.tmps, params := ps, assign, body, defers := D } := ⟨_, rfl⟩
 have st1 := (st.alloc (.deferred (some []))).alloc (.loop (rec .ready none))
 have hsz' : (w.alloc (.deferred (some []))).heap.size = l := by rw [hl]; simp
 rw [hsz', ← hD] at st1
 have hxa : a.eval = ev σ := ha.eval
 obtain ⟨w1, ew1⟩ : ∃ w1, w1 = (w.alloc (.deferred (some []))).alloc (.loop (rec .ready none)) := ⟨_, rfl⟩
 rw [← ew1] at st1
 have e1 : (Instr.enterLoop fn a.tmps ps assign body none).run P w = .ok (l, [({ target := .collected D, args := #[] } : Deferred)]) w1 := by
  rw [ew1, hrec, hl, hD]; exact run_enterLoop_outer _ _ _ _ _
 refine ⟨l, [({ target := .collected D, args := #[] } : Deferred)], w1, ({ target := .fn (.func gf) caps.toArray, args := #[.func (.yield l) #[] #[]] } : Deferred), w1, gf, #[.func (.yield l) #[] #[]] ++ caps.toArray, w1, ?_, ?_, fun _ _ => trivial, ?_, fun hh => absurd hh (by simp [Fence.wide]), ?_⟩
 ·exact e1
 ·simp only [resolve, hxa, hg]
  simp [go_sem, rangeCall, ev]
 ·simp [invoke, go_sem, eg]
 ·
  have con := seq l (fun pre h1 rest => ∃ own1, I pre h1 own1 ∧ rest = own1 ++ [[(D, .deferred (some []))], [(l, .loop (rec .ready none))]])
   (fun pre h1 rest => ∃ own1 c, Ix c pre h1 own1 ∧ rest = own1 ++ [[(D, .deferred (some []))], [(l, .loop (rec .done (some c)))]])
   (by rintro xs h1 h2 o ⟨own1, hi, rfl⟩ le; exact ⟨own1, hI _ _ _ _ hi le, rfl⟩) (by rintro xs h1 h2 o ⟨own1, c, hi, rfl⟩ le; exact ⟨own1, c, hIx _ _ _ _ _ hi le, rfl⟩) ?_ h _ _ (Le.refl h) ⟨own, h00, rfl⟩ (by simpa using st1)
  ·refine (callsIn_wide.2 ?_)
   have e0 : (.func (.yield l) #[] #[] :: caps : List Value).toArray = #[.func (.yield l) #[] #[]] ++ caps.toArray := by simp
   rw [e0] at con
   refine con.mono ?_
   rintro e w2 ⟨h', rest', v, rfl, le, st2, hout⟩
   have tk : ∀ {own1 : Own} {r : Loop}, St h0 w0 h' w2 (own1 ++ [[(D, .deferred (some []))], [(l, .loop r)]]) → ∀ o', St h0 w0 h' (w2.putObj l o') (own1 ++ [[(D, .deferred (some []))]]) := by
    intro own1 r s o'
    have s2 : St h0 w0 h' w2 ((own1 ++ [[(D, .deferred (some []))]]) ++ [(l, .loop r)] :: []) := by simpa using s
    have s3 := (s2.setAt o').take (own1 ++ [[(D, Obj.deferred (some []))]]).length
    rwa [List.take_left'] at s3
    rfl
   rcases hout with ⟨xs, hS, own1, hi, rfl⟩ | ⟨pre, own1, c, hi, rfl⟩
   ·have hlr : w2.heap[l]? = some (.loop (rec .ready none)) := St.at (A := own1 ++ [[(D, .deferred (some []))]]) (C := []) (by simpa using st2)
    have hend := run_endLoop (P := P) hlr (by rw [hrec]; simp)
    rw [hrec] at hend
    refine ⟨none, _, hend, ⟨([{ target := .collected D, args := #[] }], σ), ⟨ha.size, by simp [ha.defers], ha.at_⟩, hdone D xs h' _ own1 le hS hi (tk st2 _)⟩⟩
   ·have hlr : w2.heap[l]? = some (.loop (rec .done (some c))) := St.at (A := own1 ++ [[(D, .deferred (some []))]]) (C := []) (by simpa using st2)
    have hend := run_endLoop (P := P) hlr (by rw [hrec]; simp)
    rw [hrec] at hend
    refine ⟨some c, _, hend, ?_⟩
    exact hstop D c pre h' _ own1 le hi (tk st2 _) k _ ⟨ha.size, by simp [ha.defers], ha.at_⟩
  ·rintro pre x h1 w1 B rest us le ⟨own1, hi, rfl⟩ s1 hA
   have hlr : w1.heap[l]? = some (.loop (rec .ready none)) := St.at (A := B ++ (own1 ++ [[(D, .deferred (some []))]])) (C := []) (by simpa using s1)
   have hy := run_yield (P := P) (args := us.toArray) hlr (by rw [hrec]; exact hsz pre us h1 x hA)
   rw [hrec] at hy
   refine ⟨fn, _, assign, body, hy, roundIn_of_wpIn trivial ?_⟩
   -- the caller's entries first
   have s2 : St h0 w0 h1 w1 (own1 ++ ([[(D, .deferred (some []))], [(l, .loop (rec .ready none))]] ++ B)) := s1.perm (perm_end own1 B _)
   have hfit := hput { tmps := a.tmps, defers := [] } pre us h1 x ⟨ha.size, rfl, ha.at_⟩ hA
   have hr := hround l pre x h1 w1 own1 _ us le hi s2 hA 0 _ hfit
   refine wpIn_mono hr ?_
   rintro e a2 w2 ⟨s', hf2, rfl, h2, own2, le2, s3, hbody⟩
   have s3' : St h0 w0 h2 w2 ((own2 ++ [[(D, .deferred (some []))]]) ++ [(l, .loop (rec .ready none))] :: B) := by simpa using s3
   have hl2 := s3'.at
   have hbr := run_beginRound (P := P) hl2 (by rw [hrec])
   refine ⟨_, hbr, ?_⟩
   have s4 := s3'.setAt (.loop { rec .ready none with state := .busy })
   have s4' := s4
   rw [show (own2 ++ [[(D, .deferred (some []))]]) ++ [(l, .loop { rec .ready none with state := .busy })] :: B = own2 ++ ([[(D, .deferred (some []))], [(l, .loop { rec .ready none with state := .busy })]] ++ B) by simp] at s4'
   refine wpIn_mono (hbody _ _ s4' 0 a2 hf2) ?_
   have fin : ∀ (jump : Option Code) (h3 : Heap) (own3 : Own) (w4 : World), St h0 w0 h3 w4 (own3 ++ ([[(D, .deferred (some []))], [(l, .loop { rec .ready none with state := .busy })]] ++ B)) →
     ∃ w5, (Instr.endRound l jump).run P w4 = .ok (.bool jump.isNone) w5 ∧ St h0 w0 h3 w5 (B ++ (own3 ++ [[(D, .deferred (some []))], [(l, .loop (rec (if jump.isNone then .ready else .done) jump))]])) := by
    intro jump h3 own3 w4 s5
    have s5' : St h0 w0 h3 w4 ((own3 ++ [[(D, .deferred (some []))]]) ++ [(l, .loop { rec .ready none with state := .busy })] :: B) := by simpa using s5
    refine ⟨_, run_endRound (P := P) jump s5'.at, ?_⟩
    have s6 := s5'.setAt (.loop (rec (if jump.isNone then .ready else .done) jump))
    rw [show (own3 ++ [[(D, .deferred (some []))]]) ++ [(l, .loop (rec (if jump.isNone then .ready else .done) jump))] :: B = own3 ++ ([[(D, .deferred (some []))], [(l, .loop (rec (if jump.isNone then .ready else .done) jump))]] ++ B) by simp] at s6
    have s7 := s6.perm (perm_end own3 B _).symm
    rw [hrec] at s7 ⊢
    exact s7
   rintro e a4 w4 ⟨s'', hf4, h3, own3, le3, s5, hm⟩
   cases e with
   | normal =>
    obtain ⟨w5, hr5, s6⟩ := fin none h3 own3 w4 s5
    exact ⟨_, w5, hr5, _, rfl, h3, _, le2.trans le3, s6, .inl ⟨rfl, own3, hm, rfl⟩⟩
   | ret =>
    obtain ⟨w5, hr5, s6⟩ := fin (some .ret) h3 own3 w4 s5
    exact ⟨_, w5, hr5, _, rfl, h3, _, le2.trans le3, s6, .inr ⟨rfl, own3, .ret, hm, rfl⟩⟩
   | exit id =>
    obtain ⟨w5, hr5, s6⟩ := fin (some (.exit id)) h3 own3 w4 s5
    exact ⟨_, w5, hr5, _, rfl, h3, _, le2.trans le3, s6, .inr ⟨rfl, own3, .exit id, hm, rfl⟩⟩
   | goto t =>
    obtain ⟨w5, hr5, s6⟩ := fin (some (.goto t)) h3 own3 w4 s5
    exact ⟨_, w5, hr5, _, rfl, h3, _, le2.trans le3, s6, .inr ⟨rfl, own3, .goto t, hm, rfl⟩⟩
   | panic ch => exact hm.elim
   | outgrown => exact hm.elim
theorem V.rangeFunc {α : Type} {P : Program} {n : Nat} {Q : Exit → VS → World → Prop} {A : Heap → Value → α → Prop} {g : Operand} {p : Tmp} {assign body : Code} {σ : Env} {w : World} {gf : FuncId} {caps : List Value} {S : List α → Prop} {h0 h : Heap} {w0 : World} {own : Own}
  (st : St h0 w0 h w own) (hg : ev σ g = .func (.func gf) #[] caps.toArray) (eg : ∀ a w, (callFunc gf a).run P w = .ok (.enter gf a) w) (hp : Nat.blt p n = true)
  (seq : Gives P gf caps A S h0 w0 h) (I : List α → Heap → Own → Prop) (Ix : Code → List α → Heap → Own → Prop)
  (hI : ∀ xs h1 h2 o, I xs h1 o → Le h1 h2 → I xs h2 o) (hIx : ∀ c xs h1 h2 o, Ix c xs h1 o → Le h1 h2 → Ix c xs h2 o) (h00 : I [] h own)
  (hround : ∀ (l : Nat) pre x h1 w1 own1 tail u, Le h h1 → I pre h1 own1 → St h0 w0 h1 w1 (own1 ++ tail) → A h1 u x →
   V { Fence.wide with round := some l } P n assign (APost { Fence.wide with round := some l } P n body I Ix h0 w0 h1 (pre ++ [x]) tail) ([], upd σ p u) w1)
  (hdone : ∀ D xs h' w' own', Le h h' → S xs → I xs h' own' → St h0 w0 h' w' (own' ++ [[(D, .deferred (some []))]]) → Q .normal ([{ target := .collected D, args := #[] }], σ) w')
  (hstop : ∀ D c pre h' w' own', Le h h' → Ix c pre h' own' → St h0 w0 h' w' (own' ++ [[(D, .deferred (some []))]]) → V Fence.wide P n c Q ([{ target := .collected D, args := #[] }], σ) w') :
  V Fence.wide P n (.rangeFunc g #[p] assign body) Q ([], σ) w := by
 refine V.rangeFuncG (A := fun _ h us x => ∃ u, us = [u] ∧ A h u x) (up := fun us => upd σ p (us.headD undef)) st hg eg ?_ (by rintro _ _ _ _ ⟨u, rfl, _⟩; rfl) ?_ I Ix hI hIx h00 ?_ hdone hstop
 ·rintro a pre us h x hf ⟨u, rfl, _⟩
  have h2 := hf.bare.put (d := some p) (by exact hp) u
  have e1 : (#[p].zip [u].toArray).foldl (fun tmps (x : Nat × Value) => tmps.setIfInBounds x.1 x.2) a.tmps = a.tmps.setIfInBounds p u := by simp
  show FitsD [] n ({ tmps := (#[p].zip [u].toArray).foldl (fun tmps (x : Nat × Value) => tmps.setIfInBounds x.1 x.2) a.tmps, defers := [] } : Act) (upd σ p u)
  rw [e1]; exact ⟨h2.size, rfl, h2.at_⟩
 ·intro l J Jx hm hxm hY
  exact seq l J Jx hm hxm fun pre x h1 w1 B rest u a b c d => hY pre x h1 w1 B rest [u] a b c ⟨u, rfl, d⟩
 ·rintro l pre x h1 w1 own1 tail us a b c ⟨u, rfl, d⟩
  exact hround l pre x h1 w1 own1 tail u a b c d
theorem V.rangeFunc2 {α : Type} {P : Program} {n : Nat} {Q : Exit → VS → World → Prop} {A : List α → Heap → Value → Value → α → Prop} {g : Operand} {p p2 : Tmp} {assign body : Code} {σ : Env} {w : World} {gf : FuncId} {caps : List Value} {S : List α → Prop} {h0 h : Heap} {w0 : World} {own : Own}
  (st : St h0 w0 h w own) (hg : ev σ g = .func (.func gf) #[] caps.toArray) (eg : ∀ a w, (callFunc gf a).run P w = .ok (.enter gf a) w) (hp : Nat.blt p n = true) (hp2 : Nat.blt p2 n = true)
  (seq : GivesG P gf caps (fun pre h us x => ∃ u v, us = [u, v] ∧ A pre h u v x) S h0 w0 h) (I : List α → Heap → Own → Prop) (Ix : Code → List α → Heap → Own → Prop)
  (hI : ∀ xs h1 h2 o, I xs h1 o → Le h1 h2 → I xs h2 o) (hIx : ∀ c xs h1 h2 o, Ix c xs h1 o → Le h1 h2 → Ix c xs h2 o) (h00 : I [] h own)
  (hround : ∀ (l : Nat) pre x h1 w1 own1 tail u v, Le h h1 → I pre h1 own1 → St h0 w0 h1 w1 (own1 ++ tail) → A pre h1 u v x →
   V { Fence.wide with round := some l } P n assign (APost { Fence.wide with round := some l } P n body I Ix h0 w0 h1 (pre ++ [x]) tail) ([], upd (upd σ p u) p2 v) w1)
  (hdone : ∀ D xs h' w' own', Le h h' → S xs → I xs h' own' → St h0 w0 h' w' (own' ++ [[(D, .deferred (some []))]]) → Q .normal ([{ target := .collected D, args := #[] }], σ) w')
  (hstop : ∀ D c pre h' w' own', Le h h' → Ix c pre h' own' → St h0 w0 h' w' (own' ++ [[(D, .deferred (some []))]]) → V Fence.wide P n c Q ([{ target := .collected D, args := #[] }], σ) w') :
  V Fence.wide P n (.rangeFunc g #[p, p2] assign body) Q ([], σ) w := by
 refine V.rangeFuncG (up := fun us => upd (upd σ p (us.headD undef)) p2 ((us.drop 1).headD undef)) st hg eg ?_ (by rintro _ _ _ _ ⟨u, v, rfl, _⟩; rfl) seq I Ix hI hIx h00 ?_ hdone hstop
 ·rintro a pre us h x hf ⟨u, v, rfl, _⟩
  have h2 := (hf.bare.put (d := some p) (by exact hp) u).put (d := some p2) (by exact hp2) v
  have e1 : (#[p, p2].zip [u, v].toArray).foldl (fun tmps (x : Nat × Value) => tmps.setIfInBounds x.1 x.2) a.tmps = (a.tmps.setIfInBounds p u).setIfInBounds p2 v := by simp
  show FitsD [] n ({ tmps := (#[p, p2].zip [u, v].toArray).foldl (fun tmps (x : Nat × Value) => tmps.setIfInBounds x.1 x.2) a.tmps, defers := [] } : Act) (upd (upd σ p u) p2 v)
  rw [e1]; exact ⟨h2.size, rfl, h2.at_⟩
 ·rintro l pre x h1 w1 own1 tail us a b c ⟨u, v, rfl, d⟩
  exact hround l pre x h1 w1 own1 tail u v a b c d
/-- what a function's body has to show, the marks taken in -/
def Taken (P : Program) : List Deferred → World → (World → Prop) → Prop
 | [], w, K => K w
 | d :: ds, w, K => ∃ D, d.target = .collected D ∧ w.heap[D]? = some (.deferred (some [])) ∧ Taken P ds (w.putObj D (.deferred none)) K
def PostV (fn : Func) (P : Program) (R : Ending → World → Prop) : Exit → VS → World → Prop
 | .normal, s, w | .ret, s, w => Taken P s.1 w fun w' => Post fn P R .ret s.2 w'
 | _, _, _ => False
theorem V.calls {P : Program} {f : FuncId} {fn : Func} {c : Code} {n : Nat} {args : List Value} {w : World} {R : Ending → World → Prop}
  (hf : P.funcs[f]? = some fn) (hb : fn.body = some c) (hn : fn.ntmps = n) (hl : Nat.ble args.length n = true)
  (h : V Fence.wide P n c (PostV fn P R) ([], start args) w) : Calls P f args.toArray w R := by
 have hl' : args.length ≤ n := by simpa using hl
 refine (callsIn_wide (n := 0)).1 (callsIn_of_wp_marks hf hb trivial ?_)
 have hfit : FitsD [] n { tmps := args.toArray ++ Array.replicate (fn.ntmps - args.toArray.size) undef, defers := [] } (start args) := by
  refine ⟨by simp [hn]; omega, rfl, fun i => ?_⟩
  rw [← start_eq]
  simp only [Array.getD_eq_getD_getElem?, List.getD_eq_getElem?_getD]
  by_cases hi : i < args.length
  ·rw [Array.getElem?_append_left (by simpa using hi)]; simp
  ·rw [Array.getElem?_append_right (by simpa using hi), List.getElem?_eq_none (by omega)]
   by_cases hj : i - args.toArray.size < fn.ntmps - args.toArray.size
   ·rw [Array.getElem?_replicate, if_pos hj]; rfl
   ·rw [Array.getElem?_replicate, if_neg hj]
 have key : ∀ (ds : List Deferred) (w : World) (tmps : Array Value) (σ : Env), (∀ i, tmps.getD i undef = σ i) → Taken P ds w (fun w' => Post fn P R .ret σ w') → LeavesInM Fence.wide 0 P fn tmps R ds .returning w := by
  intro ds
  induction ds with
  | nil =>
   intro w tmps σ ht h
   exact h tmps ht
  | cons d ds ih =>
   intro w tmps σ ht h
   obtain ⟨D, hd, hD, h⟩ := h
   exact ⟨by simp, .inl ⟨D, _, hd, run_takeDeferred hD, ih _ _ _ ht h⟩⟩
 refine wpIn_mono (h 0 _ hfit) ?_
 rintro e a' w' ⟨s', hf', hq⟩
 cases e with
 | normal => show LeavesInM _ _ _ _ _ _ a'.defers _ _; rw [hf'.defers]; exact key _ _ _ _ hf'.at_ hq
 | ret => show LeavesInM _ _ _ _ _ _ a'.defers _ _; rw [hf'.defers]; exact key _ _ _ _ hf'.at_ hq
 | exit id => exact hq.elim
 | goto l => exact hq.elim
 | panic ch => exact hq.elim
 | outgrown => exact hq.elim
theorem PostV.zero {fn : Func} {P : Program} {R : Ending → World → Prop} {σ : Env} {w : World} (h : Post fn P R .ret σ w) : PostV fn P R .ret ([], σ) w := h
theorem PostV.one {fn : Func} {P : Program} {R : Ending → World → Prop} {σ : Env} {w w0 : World} {h0 h : Heap} {own : Own} {D : Nat} (st : St h0 w0 h w (own ++ [[(D, .deferred (some []))]])) (hk : ∀ w', St h0 w0 h w' own → Post fn P R .ret σ w') : PostV fn P R .ret ([{ target := .collected D, args := #[] }], σ) w := by
 have s2 : St h0 w0 h w (own ++ [(D, .deferred (some []))] :: []) := st
 refine ⟨D, rfl, s2.at, hk _ ?_⟩
 have s3 := (s2.setAt (.deferred none)).take own.length
 rwa [List.take_left'] at s3
 rfl
end Go.Pk

namespace Go.Pk
open Go Go.RowKit
def cmpI (a b : Int) : Int := if a < b then -1 else if b < a then 1 else 0
def cmpL : List Int → List Int → Int
 | [], [] => 0
 | [], _ :: _ => -1
 | _ :: _, [] => 1
 | a :: az, b :: bs => if cmpI a b ≠ 0 then cmpI a b else cmpL az bs
def cmpS (a b : Str) : Int := Lib.compareBytes a b
def ordI (a b : Place) : Int := cmpL [a.chapter, a.line, a.word] [b.chapter, b.line, b.word]
def firstI (a b : Decision) : Int := if a.kind ≠ b.kind then a.kind - b.kind else if a.kind = 2 ∧ a.at_ ≠ b.at_ then ordI a.at_ b.at_ else a.number - b.number
def concB (d : Decision) (p : Place) (w : Str) : Bool :=
 if d.kind = 1 then decide (d.form = w) else if d.kind = 2 then decide (d.form = w) && !beforeB p d.at_ else if d.kind = 3 then decide (d.at_ = p) else false
def betterB (d e : Decision) : Bool := if d.kind ≠ e.kind then decide (d.kind > e.kind) else decide (d.kind ≠ 2) || !beforeB d.at_ e.at_
def cmpHead (a b : Head) : Int := if cmpS a.stem b.stem ≠ 0 then cmpS a.stem b.stem else a.mark - b.mark
def sLt (a b : Str) : Bool := Op.bytesLess a b
def headLt (a b : Head) : Bool := sLt a.stem b.stem || (decide (a.stem = b.stem) && decide (a.mark < b.mark))
theorem cmpL_step {a b : List Int} {k : Nat} {x y : Int} (ha : a[k]? = some x) (hb : b[k]? = some y) : cmpL (a.drop k) (b.drop k) = if cmpI x y ≠ 0 then cmpI x y else cmpL (a.drop (k + 1)) (b.drop (k + 1)) := by
 rw [drop_cons ha, drop_cons hb]; rfl
theorem cmpL_nil_cons {a b : List Int} (ha : a = []) (hb : b ≠ []) : cmpL a b = -1 := by
 subst ha; cases b with
 | nil => exact absurd rfl hb
 | cons => rfl
theorem cmpL_cons_nil {a b : List Int} (hb : b = []) (ha : a ≠ []) : cmpL a b = 1 := by
 subst hb; cases a with
 | nil => exact absurd rfl ha
 | cons => rfl
theorem ordI_eq (a b : Place) : ordI a b = if cmpI a.chapter b.chapter ≠ 0 then cmpI a.chapter b.chapter else if cmpI a.line b.line ≠ 0 then cmpI a.line b.line else cmpI a.word b.word := by
 simp only [ordI, cmpL]; repeat' split
 all_goals simp_all
theorem ordI_le (a b : Place) : decide (ordI a b ≤ 0) = !beforeB b a := by
 rw [ordI_eq]; simp only [cmpI, beforeB]
 by_cases h1 : a.chapter < b.chapter <;> by_cases h2 : b.chapter < a.chapter <;> by_cases h3 : a.line < b.line <;> by_cases h4 : b.line < a.line <;> by_cases h5 : a.word < b.word <;> by_cases h6 : b.word < a.word <;> simp [h1, h2, h3, h4, h5, h6] <;> (try omega) <;> (repeat' split) <;> simp <;> omega
theorem ordI_gt (a b : Place) : decide (ordI a b > 0) = beforeB b a := by
 have h := ordI_le a b
 cases e : beforeB b a <;> rw [e] at h <;> simp at h ⊢ <;> omega
theorem snoc_ind {α : Type} {m : List α → Prop} (nil : m []) (snoc : ∀ l a, m l → m (l ++ [a])) (l : List α) : m l := by
 have h : ∀ r : List α, m r.reverse := by
  intro r
  induction r with
  | nil => exact nil
  | cons a r ih => rw [List.reverse_cons]; exact snoc _ _ ih
 have := h l.reverse
 rwa [List.reverse_reverse] at this
def bestStep (b d : Decision) : Decision := if b.number = 0 ∨ firstI d b > 0 then d else b
def bestOf (l : List Decision) : Decision := l.foldl bestStep zDecision
theorem bestOf_snoc (l : List Decision) (d : Decision) : bestOf (l ++ [d]) = bestStep (bestOf l) d := by simp [bestOf]
theorem bestOf_mem (l : List Decision) : bestOf l = zDecision ∨ bestOf l ∈ l := by
 induction l using snoc_ind with
 | nil => exact .inl rfl
 | snoc l d ih =>
  rw [bestOf_snoc, bestStep]
  split
  ·exact .inr (by simp)
  ·rcases ih with h | h
   ·exact .inl h
   ·exact .inr (by simp [h])
theorem best_ok {p : Decision → Prop} (hz : p zDecision) {l : List Decision} (hp : ∀ y ∈ l, p y) : p (bestOf l) := by
 rcases bestOf_mem l with h | h
 ·rw [h]; exact hz
 ·exact hp _ h
theorem bestOf_zero {l : List Decision} (hp : ∀ y ∈ l, 1 ≤ y.number) (h : (bestOf l).number = 0) : bestOf l = zDecision := by
 rcases bestOf_mem l with h1 | h1
 ·exact h1
 ·have := hp _ h1; omega
theorem bestOf_pos {l : List Decision} (hp : ∀ y ∈ l, 1 ≤ y.number) (hl : l ≠ []) : 1 ≤ (bestOf l).number ∧ bestOf l ∈ l := by
 have key : bestOf l ∈ l := by
  induction l using snoc_ind with
  | nil => exact absurd rfl hl
  | snoc l d ih =>
   rw [bestOf_snoc, bestStep]
   split
   ·simp
   ·rename_i hn
    by_cases hl' : l = []
    ·subst hl'; exact absurd (.inl rfl) hn
    ·have := ih (fun y hy => hp y (by simp [hy])) hl'
     simp [this]
 exact ⟨hp _ key, key⟩
/-- the order of decisions, as a comparison of numbers -/
def lexD (a b : Decision) : Prop := a.kind < b.kind ∨ (a.kind = b.kind ∧ ((a.kind = 2 ∧ (a.at_.chapter < b.at_.chapter ∨ (a.at_.chapter = b.at_.chapter ∧ (a.at_.line < b.at_.line ∨ (a.at_.line = b.at_.line ∧ a.at_.word < b.at_.word))))) ∨ ((a.kind = 2 → a.at_ = b.at_) ∧ a.number < b.number)))
theorem firstI_lex {d e : Decision} : firstI d e > 0 ↔ lexD e d := by
 unfold firstI lexD
 by_cases hk : d.kind = e.kind
 ·have hk' : ¬ d.kind ≠ e.kind := by simp [hk]
  simp only [if_neg hk']
  by_cases h2 : d.kind = 2
  ·have h3 : e.kind = 2 := by omega
   by_cases ha : d.at_ = e.at_
   ·have q : ¬ (d.kind = 2 ∧ d.at_ ≠ e.at_) := by simp [ha]
    simp only [if_neg q, h3, h2, ha]
    simp
   ·have q : d.kind = 2 ∧ d.at_ ≠ e.at_ := ⟨h2, ha⟩
    rw [if_pos q]
    simp only [h3, h2]
    have hg := ordI_gt d.at_ e.at_
    have h5 : ordI d.at_ e.at_ > 0 ↔ beforeB e.at_ d.at_ = true := by rw [← hg]; simp
    rw [h5]
    have ha' : ¬ e.at_ = d.at_ := fun q => ha q.symm
    simp only [ha', Int.lt_irrefl, false_or, true_and, forall_const, false_and, or_false, beforeB]
    by_cases q1 : e.at_.chapter = d.at_.chapter <;> by_cases q2 : e.at_.line = d.at_.line <;> simp_all
  ·have h3 : ¬ e.kind = 2 := by omega
   have q : ¬ (d.kind = 2 ∧ d.at_ ≠ e.at_) := by simp [h2]
   simp only [if_neg q, h3]; simp [hk]
 ·have hk' : d.kind ≠ e.kind := hk
  simp only [if_pos hk']; omega
theorem lexD_trans {a b c : Decision} (h1 : lexD a b) (h2 : lexD b c) : lexD a c := by
 rcases a with ⟨n1, k1, f1, ⟨c1, l1, w1⟩, t1, o1⟩; rcases b with ⟨n2, k2, f2, ⟨c2, l2, w2⟩, t2, o2⟩; rcases c with ⟨n3, k3, f3, ⟨c3, l3, w3⟩, t3, o3⟩
 simp only [lexD, Place.mk.injEq] at *
 omega
theorem lexD_total {a b : Decision} (h : a.number ≠ b.number) : lexD a b ∨ lexD b a := by
 rcases a with ⟨n1, k1, f1, ⟨c1, l1, w1⟩, t1, o1⟩; rcases b with ⟨n2, k2, f2, ⟨c2, l2, w2⟩, t2, o2⟩
 simp only [lexD, Place.mk.injEq] at *
 omega
theorem lexD_irrefl (a : Decision) : ¬ lexD a a := by
 unfold lexD; omega
/-- the best one is best -/
theorem bestOf_best {l : List Decision} (hp : ∀ y ∈ l, 1 ≤ y.number) (hn : (l.map (·.number)).Nodup) : ∀ y ∈ l, y ≠ bestOf l → lexD y (bestOf l) := by
 induction l using snoc_ind with
 | nil => simp
 | snoc l d ih =>
  intro y hy hne
  have hn' : (l.map (·.number)).Nodup := by rw [List.map_append] at hn; exact (List.nodup_append.1 hn).1
  have ih := ih (fun y hy => hp y (by simp [hy])) hn'
  have hd : ∀ z ∈ l, z.number ≠ d.number := by
   intro z hz e
   rw [List.map_append] at hn
   exact (List.nodup_append.1 hn).2.2 _ (List.mem_map_of_mem hz) _ (List.mem_map.2 ⟨d, by simp, rfl⟩) e
  rw [bestOf_snoc] at hne ⊢
  unfold bestStep at hne ⊢
  split at hne
  ·rename_i hc
   rw [if_pos hc]
   rcases List.mem_append.1 hy with h | h
   ·by_cases hl : l = []
    ·subst hl; cases h
    ·have hb := bestOf_pos (fun y hy => hp y (by simp [hy])) hl
     have h1 : lexD (bestOf l) d := by
      rcases hc with h0 | h0
      ·omega
      ·exact firstI_lex.1 h0
     by_cases e : y = bestOf l
     ·rw [e]; exact h1
     ·exact lexD_trans (ih y h e) h1
   ·simp at h; exact absurd h hne
  ·rename_i hc
   rw [if_neg hc]
   have hc' : ¬ (bestOf l).number = 0 ∧ ¬ lexD (bestOf l) d := ⟨fun h => hc (.inl h), fun h => hc (.inr (firstI_lex.2 h))⟩
   rcases List.mem_append.1 hy with h | h
   ·exact ih y h hne
   ·simp at h; subst h
    by_cases hl : l = []
    ·subst hl; exact absurd rfl hc'.1
    ·have hb := bestOf_pos (fun y hy => hp y (by simp [hy])) hl
     rcases lexD_total (hd _ hb.2) with h1 | h1
     ·exact absurd h1 hc'.2
     ·exact h1
theorem bestOf_perm {xs ys : List Decision} (h : xs.Perm ys) (hp : ∀ y ∈ ys, 1 ≤ y.number) (hn : (ys.map (·.number)).Nodup) : bestOf xs = bestOf ys := by
 by_cases hy : ys = []
 ·subst hy; rw [h.eq_nil]
 ·have hx : xs ≠ [] := fun e => hy (by subst e; exact h.symm.eq_nil)
  have hp' : ∀ y ∈ xs, 1 ≤ y.number := fun y hy => hp y (h.mem_iff.1 hy)
  have hn' : (xs.map (·.number)).Nodup := (h.map _).nodup_iff.2 hn
  have h1 := (bestOf_pos hp' hx).2
  have h2 := (bestOf_pos hp hy).2
  by_cases e : bestOf xs = bestOf ys
  ·exact e
  ·have a := bestOf_best hp hn _ (h.mem_iff.1 h1) e
   have b := bestOf_best hp' hn' _ (h.mem_iff.2 h2) (Ne.symm e)
   exact absurd (lexD_trans a b) (lexD_irrefl _)
def wordD (t : Text) (p : Place) : Str := (wordAt t p).getD []
def conD (x : Lexicon) (p : Place) (wd : Str) : List Decision := ((standM x).map (·.2)).filter fun d => concB d p wd
def winD (x : Lexicon) (p : Place) (wd : Str) : Decision :=
 if (bestOf (conD x p wd)).number = 0 then { zDecision with to := ⟨((stepsN x.rules 4 wd).getLast?).getD [], 0⟩ } else bestOf (conD x p wd)
def OkO (o : Office) : Prop := checkN o.text o.lex = 0 ∧ o.stands = standM o.lex
theorem place_at {t : Text} {p : Place} (h : placeB t p = true) : ∃ c ln wd, 0 ≤ p.chapter ∧ t.chapters[p.chapter.toNat]? = some c ∧ 0 ≤ p.line ∧ c.lines[p.line.toNat]? = some ln ∧ 0 ≤ p.word ∧ ln[p.word.toNat]? = some wd ∧ wordD t p = wd := by
 unfold placeB at h
 unfold wordD
 unfold wordAt lineAt at *
 split at h
 ·rename_i h1
  split at h
  ·rename_i h2
   cases hc : t.chapters[p.chapter.toNat]? with
   | none => simp [hc] at h
   | some c =>
    simp only [hc, Option.bind_some] at h
    cases hl : c.lines[p.line.toNat]? with
    | none => simp [hl] at h
    | some ln =>
     simp only [hl, Option.bind_some] at h
     cases hw : ln[p.word.toNat]? with
     | none => simp [hw] at h
     | some wd => exact ⟨c, ln, wd, h2.1, rfl, h2.2, hl, h1, hw, by simp [if_pos h1, if_pos h2, hc, hl, hw]⟩
  ·simp at h
 ·simp at h
theorem okO_d {o : Office} (h : OkO o) : OkD o.lex := okD_of h.1
theorem standM_ok {t : Text} {x : Lexicon} (h : checkN t x = 0) {q : Int × Decision} (hq : q ∈ standM x) : decisionB t q.2 = true ∧ 1 ≤ q.2.number ∧ q.2.number ≤ 999 ∧ 1 ≤ q.2.kind ∧ q.2.kind ≤ 4 := by
 have h1 := (standM_mem hq).1
 have h2 : lexiconB t x = true := by
  unfold checkN at h
  split at h
  ·cases h
  ·split at h
   ·cases h
   ·rename_i h3; simpa using h3
 simp only [lexiconB, Bool.and_eq_true, List.all_eq_true] at h2
 have h3 := h2.1.2 _ h1
 have h4 := (okD_of h).2 _ h1
 refine ⟨h3, h4.1, h4.2.1, ?_⟩
 unfold decisionB at h3
 simp only [Bool.and_eq_true] at h3
 have h5 := h3.2
 split at h5
 ·omega
 ·split at h5
  ·omega
  ·split at h5
   ·omega
   ·split at h5
    ·omega
    ·cases h5
theorem standM_nodupD {x : Lexicon} (h : OkD x) : (((standM x).map (·.2)).map (·.number)).Nodup := by
 have := filter_nodup h (standsB x)
 simpa [standM, pairD, List.map_map, Function.comp_def] using this
theorem wordD_len {t : Text} {p : Place} (ht : textB t = true) (hp : placeB t p = true) : (wordD t p).length ≤ 12 := by
 obtain ⟨c, ln, wd, _, hc, _, hl, _, hw, e⟩ := place_at hp
 rw [e]
 simp only [textB, Bool.and_eq_true, List.all_eq_true] at ht
 have h1 := ht.1.2 _ (List.mem_of_getElem? hc)
 simp only [chapterB, Bool.and_eq_true, List.all_eq_true] at h1
 have h2 := h1.2 _ (List.mem_of_getElem? hl)
 simp only [lineB, Bool.and_eq_true, List.all_eq_true] at h2
 exact word_len (h2.2 _ (List.mem_of_getElem? hw))
theorem check_text {t : Text} {x : Lexicon} (h : checkN t x = 0) : textB t = true := by
 unfold checkN at h
 split at h
 ·cases h
 ·rename_i h1; simpa using h1
theorem conD_perm {x : Lexicon} {p : Place} {wd : Str} {dn : List (Int × Decision)} (h : OkD x) (hd : dn.Perm (standM x)) : bestOf ((dn.map (·.2)).filter fun d => concB d p wd) = bestOf (conD x p wd) := by
 refine bestOf_perm ((hd.map _).filter _) ?_ ?_
 ·intro y hy
  obtain ⟨q, hq, rfl⟩ := List.mem_map.1 (List.mem_filter.1 hy).1
  exact (h.2 _ (standM_mem hq).1).1
 ·exact (List.filter_sublist.map _).nodup (standM_nodupD h)
theorem stepsN_ne (rs : List Rule) (n : Nat) (w : Str) : stepsN rs n w ≠ [] := by
 cases n with
 | zero => simp [stepsN]
 | succ n => simp only [stepsN]; split <;> simp
end Go.Pk

namespace Go.Pk
open Go Go.RowKit
def linesAt (t : Text) (k : Nat) : List (List Str) := ((t.chapters[k]?).map (·.lines)).getD []
def wordsAt (t : Text) (k n : Nat) : List Str := ((linesAt t k)[n]?).getD []
def mkP (k n w : Nat) : Place := ⟨k, n, w⟩
def lineP (t : Text) (k n : Nat) : List Place := (List.range (wordsAt t k n).length).map (mkP k n)
def chapP (t : Text) (k : Nat) : List Place := (List.range (linesAt t k).length).flatMap (lineP t k)
/-- all places, in order -/
def placesT (t : Text) : List Place := (List.range t.chapters.length).flatMap (chapP t)
theorem linesAt_some {t : Text} {k : Nat} {c : Chapter} (h : t.chapters[k]? = some c) : linesAt t k = c.lines := by simp [linesAt, h]
theorem wordsAt_some {t : Text} {k n : Nat} {c : Chapter} {ln : List Str} (h : t.chapters[k]? = some c) (h2 : c.lines[n]? = some ln) : wordsAt t k n = ln := by simp [wordsAt, linesAt_some h, h2]
theorem flatMap_len {α : Type} {f : Nat → List α} {c : Nat} (h : ∀ k, (f k).length ≤ c) (n : Nat) : ((List.range n).flatMap f).length ≤ c * n := by
 induction n with
 | zero => simp
 | succ n ih =>
  rw [List.range_succ, List.flatMap_append, List.length_append]
  have := h n
  simp only [List.flatMap_cons, List.flatMap_nil, List.append_nil]
  rw [Nat.mul_succ]; omega
theorem wordsAt_len {t : Text} (ht : textB t = true) (k n : Nat) : (wordsAt t k n).length ≤ 10 := by
 unfold wordsAt linesAt
 simp only [textB, Bool.and_eq_true, List.all_eq_true] at ht
 cases hc : t.chapters[k]? with
 | none => simp
 | some c =>
  have h1 := ht.1.2 _ (List.mem_of_getElem? hc)
  simp only [chapterB, Bool.and_eq_true, List.all_eq_true] at h1
  simp only [Option.map_some, Option.getD_some]
  cases hl : c.lines[n]? with
  | none => simp
  | some ln =>
   have h2 := h1.2 _ (List.mem_of_getElem? hl)
   simp only [lineB, Bool.and_eq_true, inB, decide_eq_true_eq] at h2
   simp only [Option.getD_some]; omega
theorem linesAt_len {t : Text} (ht : textB t = true) (k : Nat) : (linesAt t k).length ≤ 10 := by
 unfold linesAt
 simp only [textB, Bool.and_eq_true, List.all_eq_true] at ht
 cases hc : t.chapters[k]? with
 | none => simp
 | some c =>
  have h1 := ht.1.2 _ (List.mem_of_getElem? hc)
  simp only [chapterB, Bool.and_eq_true, inB, decide_eq_true_eq] at h1
  simp only [Option.map_some, Option.getD_some]; omega
theorem chapters_len {t : Text} (ht : textB t = true) : t.chapters.length ≤ 6 := by
 simp only [textB, Bool.and_eq_true, inB, decide_eq_true_eq] at ht; omega
theorem lineP_len {t : Text} (ht : textB t = true) (k n : Nat) : (lineP t k n).length ≤ 10 := by
 rw [lineP, List.length_map, List.length_range]; exact wordsAt_len ht k n
theorem chapP_len {t : Text} (ht : textB t = true) (k : Nat) : (chapP t k).length ≤ 100 := by
 have h1 := flatMap_len (lineP_len ht k) (linesAt t k).length
 have h2 := linesAt_len ht k
 rw [chapP]; omega
theorem places_len {t : Text} (ht : textB t = true) : (placesT t).length ≤ 600 := by
 have h1 := flatMap_len (chapP_len ht) t.chapters.length
 have h2 := chapters_len ht
 rw [placesT]; omega
theorem place_mk {t : Text} {k n w : Nat} {c : Chapter} {ln : List Str} (hc : t.chapters[k]? = some c) (hl : c.lines[n]? = some ln) (hw : w < ln.length) : placeB t (mkP k n w) = true := by
 have h0 : ln[w]? = some ln[w] := List.getElem?_eq_getElem hw
 simp [placeB, wordAt, lineAt, mkP, hc, hl, h0]
theorem word_mk {t : Text} {k n w : Nat} {c : Chapter} {ln : List Str} {s : Str} (hc : t.chapters[k]? = some c) (hl : c.lines[n]? = some ln) (hw : ln[w]? = some s) : wordD t (mkP k n w) = s := by
 simp [wordD, wordAt, lineAt, mkP, hc, hl, hw]
theorem lineP_snoc {t : Text} {k n : Nat} {c : Chapter} {ln : List Str} (hc : t.chapters[k]? = some c) (hl : c.lines[n]? = some ln) {w : Nat} (hw : w = ln.length) : (List.range w).map (mkP k n) = lineP t k n := by
 rw [lineP, wordsAt_some hc hl, hw]
theorem chapP_snoc {t : Text} {k : Nat} {c : Chapter} (hc : t.chapters[k]? = some c) {n : Nat} (hn : n = c.lines.length) : (List.range n).flatMap (lineP t k) = chapP t k := by
 rw [chapP, linesAt_some hc, hn]
theorem range_flat_succ {α : Type} (f : Nat → List α) (n : Nat) : (List.range (n + 1)).flatMap f = (List.range n).flatMap f ++ f n := by
 rw [List.range_succ, List.flatMap_append]; simp
theorem placesT_mem {t : Text} {p : Place} (h : p ∈ placesT t) : placeB t p = true := by
 obtain ⟨k, hk, h⟩ := List.mem_flatMap.1 h
 obtain ⟨n, hn, h⟩ := List.mem_flatMap.1 h
 obtain ⟨w, hw, rfl⟩ := List.mem_map.1 h
 have hk' := List.mem_range.1 hk
 have hc : t.chapters[k]? = some t.chapters[k] := List.getElem?_eq_getElem hk'
 rw [linesAt_some hc] at hn
 have hn' := List.mem_range.1 hn
 have hl : t.chapters[k].lines[n]? = some t.chapters[k].lines[n] := List.getElem?_eq_getElem hn'
 rw [wordsAt_some hc hl] at hw
 exact place_mk hc hl (List.mem_range.1 hw)
/-- the head of a place, and all entries -/
def headAt (t : Text) (x : Lexicon) (p : Place) : Head := (winD x p (wordD t p)).to
def entryAt (t : Text) (x : Lexicon) (p : Place) : Entry := ⟨p, wordD t p, headAt t x p⟩
def entriesL (t : Text) (x : Lexicon) : List Entry := (placesT t).map (entryAt t x)
def headsL (t : Text) (x : Lexicon) : List Head := (placesT t).map (headAt t x)
/-- the document's way to a place's decision -/
def headR0 (x : Lexicon) (wd : Str) : Decision := { zDecision with to := ⟨((stepsN x.rules 4 wd).getLast?).getD [], 0⟩ }
def stepR (p : Place) (wd : Str) (b d : Decision) : Decision := if concB d p wd = true ∧ (b.number = 0 ∨ betterB d b = true) then d else b
def headR (x : Lexicon) (l : List Decision) (p : Place) (wd : Str) : Decision := l.foldl (stepR p wd) (headR0 x wd)
def askR (t : Text) (x : Lexicon) (p : Place) : Decision := if checkN t x = 0 ∧ placeB t p = true then winD x p (wordD t p) else zDecision
def askE (t : Text) (x : Lexicon) (p : Place) : Int := if checkN t x = 0 then (if placeB t p = true then 0 else 12) else checkN t x
theorem stepsN_mem_len {rs : List Rule} : ∀ (n : Nat) (w : Str), w.length ≤ 12 → ∀ s ∈ stepsN rs n w, s.length ≤ 12
 | 0, w, h, s, hs => by simp [stepsN] at hs; subst hs; exact h
 | n + 1, w, h, s, hs => by
  simp only [stepsN] at hs
  split at hs
  ·simp at hs; subst hs; exact h
  ·rename_i u hu
   rcases List.mem_cons.1 hs with rfl | hs
   ·exact h
   ·obtain ⟨r, _, hr⟩ := List.exists_of_findSome?_eq_some hu
    exact stepsN_mem_len n u (made_len hr) s hs
theorem head_of_valid {h : Head} (hv : headB h = true) : h.stem.length ≤ 12 ∧ 0 ≤ h.mark ∧ h.mark ≤ 3 := by
 simp only [headB, Bool.and_eq_true, inB, decide_eq_true_eq] at hv
 exact ⟨word_len hv.1, hv.2.1, hv.2.2⟩
theorem dec_head {t : Text} {d : Decision} {p : Place} {wd : Str} (h : decisionB t d = true) (hc : concB d p wd = true) : headB d.to = true := by
 simp only [decisionB, Bool.and_eq_true] at h
 have h := h.2
 unfold concB at hc
 by_cases k1 : d.kind = 1
 ·simp only [k1, if_true, Bool.and_eq_true] at h; exact h.1.2
 ·by_cases k2 : d.kind = 2
  ·simp [k2] at h; exact h.1.2
  ·by_cases k3 : d.kind = 3
   ·simp [k3] at h; exact h.1.2
   ·simp [k1, k2, k3] at hc
theorem winD_ok {t : Text} {x : Lexicon} {p : Place} (hx : checkN t x = 0) (hp : placeB t p = true) : (winD x p (wordD t p)).to.stem.length ≤ 12 ∧ 0 ≤ (winD x p (wordD t p)).to.mark ∧ (winD x p (wordD t p)).to.mark ≤ 3 := by
 unfold winD
 split
 ·refine ⟨?_, by simp, by simp⟩
  have hw := wordD_len (check_text hx) hp
  cases e : (stepsN x.rules 4 (wordD t p)).getLast? with
  | none => simp
  | some s => exact stepsN_mem_len 4 _ hw s (List.mem_of_getLast? e)
 ·rename_i h0
  rcases bestOf_mem (conD x p (wordD t p)) with h | h
  ·rw [h] at h0; exact absurd rfl h0
  ·obtain ⟨h1, h2⟩ := List.mem_filter.1 h
   obtain ⟨q, hq, e⟩ := List.mem_map.1 h1
   have h3 := (standM_ok hx hq).1
   rw [e] at h3
   exact head_of_valid (dec_head h3 h2)
end Go.Pk
