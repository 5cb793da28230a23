/- A PART OF THE PROOF: contracts of functions, each walked once (much of it printed by a program of the author's own). -/
import Derived.Test.YtfgkfdglomngiaaGreatDoorT2
import Derived.Test.YtfgkfdglomngiaaGreatDoorT1
import Derived.Sort.Walk0
import Derived.Test.YtfgkfdglomngiaaGreatDoorT0
set_option linter.unusedSimpArgs false
set_option linter.unusedVariables false
namespace Go.Pk
open Go Go.RowKit
theorem sub_flat {α : Type} {a b : List (List α)} (h : a.Sublist b) : a.flatten.Sublist b.flatten := by
 induction h with
 | slnil => exact List.Sublist.refl _
 | cons c _ ih => rw [List.flatten_cons]; exact ih.trans (List.sublist_append_right _ _)
 | cons_cons c _ ih => rw [List.flatten_cons, List.flatten_cons]; exact (List.Sublist.refl _).append ih
theorem St.sublist {h0 h : Heap} {w0 w : World} {own own' : Own} (st : St h0 w0 h w own) (hs : own'.Sublist own) : St h0 w0 h w own' := by
 have hsub : own'.flatten.Sublist own.flatten := sub_flat hs
 exact ⟨st.le, st.new, st.sub, st.below, fun p hp => st.mine p (hsub.subset hp), (hsub.map _).nodup st.nodup⟩
theorem heapOf_le {h : Heap} {w : World} (hs : Sub h w) : Le h (heapOf w) := fun b o hb => hs b o hb
theorem Rets.thaw {P : Program} {f : FuncId} {args : Array Value} {h : Heap} {w : World} {v : Value} (hs : Sub h w) (hc : Calls P f args w (Rets (heapOf w) w fun _ _ r => r = v)) : Calls P f args w (Rets h w fun _ _ r => r = v) := by
 refine hc.mono ?_
 rintro e w' ⟨h', r, rfl, s, rfl⟩
 exact ⟨h, _, rfl, St.thaw s hs, rfl⟩
section
variable {α : Type} {L : Lay α} {T : TypeId} {h : Heap} {v : Value} {xs : List α} {o : List (Nat × Obj)}
theorem OSl.retake (e : OSl L T h (vtake v xs.length) (xs.take xs.length) o) (hv : ∃ p c, v = .slice p xs.length c) : OSl L T h v xs o := by
 obtain ⟨p, c, rfl⟩ := hv
 rw [List.take_length] at e
 exact e
theorem vtake_caps (e : OSl L T h v xs o) (k : Nat) : ∀ p n c, vtake v k = .slice p n c → xs.length ≤ c := by
 obtain ⟨p0, c0, rfl⟩ := e.form
 have := e.caps _ _ _ rfl
 intro p n c q
 simp only [vtake] at q
 cases q
 exact this
theorem OSl.cap {p : Option Addr} {n c : Nat} (e : OSl L T h v xs o) (hv : v = .slice p n c) : n = xs.length ∧ xs.length ≤ c := by
 have h1 := e.caps _ _ _ hv
 have h2 := e.len _ _ _ hv
 exact ⟨h2, h2 ▸ h1⟩
end
section
variable {P : Program} {n : Nat} {ops : Array Oper} {rest : List Oper} {K : Env → World → Prop} {σ : Env} {w w0 : World} {h0 h : Heap} {own : Own} {ty : TypeId} {pos : String} {aft : Array Edge}
theorem set_seg {cs : List Value} {a s j : Nat} {u : Value} (hl : a + s ≤ cs.length) (hj : j < s) : cs.set (a + j) u = cs.take a ++ ((cs.drop a).take s).set j u ++ cs.drop (a + s) := by
 have e : cs = cs.take a ++ ((cs.drop a).take s ++ cs.drop (a + s)) := by
  have : cs.drop (a + s) = (cs.drop a).drop s := by rw [List.drop_drop]
  rw [this, List.take_append_drop, List.take_append_drop]
 have h1 : (cs.take a).length = a := by rw [List.length_take]; omega
 have h2 : ((cs.drop a).take s).length = s := by rw [List.length_take, List.length_drop]; omega
 conv => lhs; rw [e]
 rw [List.set_append_right _ _ (by omega), h1, Nat.add_sub_cancel_left, List.set_append_left _ _ (by omega), List.append_assoc]
/-- a cell of an element of one's own slice turns -/
theorem OpsL.storeElF {α : Type} {L : Lay α} {T : TypeId} {v : Value} {xs : List α} {o : List (Nat × Obj)} {k i j b off off' : Nat} {y y1 : α} {u : Value} {t : TypeId} {x z : Operand} (st : St h0 w0 h w own) (hO : OSl L T h v xs o) (hk : own[k]? = some o) (hy : xs[i]? = some y) (he : Elem v i L.size b off)
  (hj : Nat.blt j L.size = true) (ho : off' = off + j) (hx : ev σ x = .pointer (some ⟨b, off', none⟩)) (hv : ev σ z = u) (h1 : u.oneCell' = true) (hR : ∀ vs, L.R h vs y → L.R h (vs.set j u) y1) (hz : ∀ w, (sizeOf t).run P w = .ok 1 w)
  (hK : ∀ o' w' own', own' = own.set k o' → OSl L T h v (xs.set i y1) o' → St h0 w0 h w' own' → OpsL P n ops rest K σ w') : OpsL P n ops (⟨none, .store t x z, ty, pos, aft, none⟩ :: rest) K σ w := by
 obtain ⟨cs, e1, ⟨⟨p, rfl⟩, rfl, rfl⟩ | ⟨gb, cap, cur, rfl, rfl, hnc, hcm, hsz, htk⟩⟩ := hO
 ·simp at hy
 ·obtain ⟨off0, n', c', e2, hlt, rfl⟩ := he
  cases e2
  subst ho
  have hj' : j < L.size := Nat.le_of_ble_eq_true hj
  obtain ⟨hi, _⟩ := List.getElem?_eq_some_iff.1 hy
  have hRus := hR _ (e1.2 i y hy)
  have h3 : (i + 1) * L.size ≤ xs.length * L.size := Nat.mul_le_mul_right _ hi
  have h2 : xs.length * L.size ≤ cap * L.size := Nat.mul_le_mul_right _ hnc
  rw [Nat.succ_mul] at h3
  have hcl : cur.toList.length = cap * L.size := by rw [Array.length_toList, hsz]
  have hk' : own[k]? = some [(b, .cells cur.toList.toArray T)] := by simpa using hk
  refine OpsL.store1 st hk' hx hv h1 hz (Nat.ble_eq_true_of_le (show 0 + i * L.size + j < cur.toList.length by omega)) rfl rfl fun w' st' => ?_
  refine hK _ _ _ rfl ⟨_, e1.set hi hRus, .inr ⟨b, cap, _, by rw [List.length_set], rfl, by rw [List.length_set]; exact hnc, hcm, by simp [hsz], ?_⟩⟩ st'
  rw [List.length_set]
  show (cur.toList.set (0 + i * L.size + j) u).take (xs.length * L.size) = _
  rw [List.take_set, htk, Nat.zero_add, set_seg (s := L.size) (by rw [e1.1]; omega) hj', Nat.succ_mul]
end
theorem Box.up {α : Type} {L : Lay α} {h h' : Heap} {c : Bool} {x : α} {v : Value} (f : Box L h c x v) (hl : Le h h') : Box L h' c x v := by
 cases c with
 | false => exact f
 | true => obtain ⟨b, vs, e, hc, hr⟩ := f; exact ⟨b, vs, e, hc.up hl, L.up hr hl⟩
end Go.Pk

namespace Go.Pk
open Go Go.RowKit
section
variable {α : Type}
/-- slices.DeleteFunc, part way -/
structure DelF (q : α → Bool) (s ys : List α) (i j : Nat) : Prop where
 len : ys.length = s.length
 le : i ≤ j
 le2 : j ≤ s.length
 head : ys.take i = (s.take j).filter fun x => !q x
 tail : ys.drop j = s.drop j
theorem DelF.get {q : α → Bool} {s ys : List α} {i j : Nat} (d : DelF q s ys i j) {y : α} (h : ys[j]? = some y) : s[j]? = some y := by
 have h1 := congrArg (fun l : List α => l[0]?) d.tail
 simp only [List.getElem?_drop, Nat.add_zero] at h1
 rw [← h1]; exact h
theorem DelF.start {q : α → Bool} {s : List α} {k : Nat} (h1 : ∀ j x, j < k → s[j]? = some x → q x = false) (h2 : ∀ x, s[k]? = some x → q x = true) (hk : k < s.length) : DelF q s s k (k + 1) := by
 refine ⟨rfl, by omega, by omega, ?_, rfl⟩
 have hx : s[k]? = some s[k] := List.getElem?_eq_getElem hk
 rw [take_snoc hx, List.filter_append]
 have e1 : (s.take k).filter (fun x => !q x) = s.take k := by
  rw [List.filter_eq_self]
  intro x hx
  obtain ⟨j, hj⟩ := List.mem_iff_getElem?.1 hx
  rw [List.getElem?_take] at hj
  split at hj
  ·rename_i hjk; simp [h1 j x hjk hj]
  ·cases hj
 simp [e1, h2 _ hx]
theorem DelF.keep {q : α → Bool} {s ys : List α} {i j : Nat} (d : DelF q s ys i j) {y : α} (h : ys[j]? = some y) (hq : q y = false) : DelF q s (ys.set i y) (i + 1) (j + 1) := by
 obtain ⟨h1, _⟩ := List.getElem?_eq_some_iff.1 h
 have hl := d.len; have hle := d.le
 refine ⟨by rw [List.length_set]; exact d.len, by omega, by omega, ?_, ?_⟩
 ·rw [take_snoc (d.get h), List.filter_append, ← d.head]
  have e : (ys.set i y)[i]? = some y := by rw [List.getElem?_set]; simp; omega
  rw [take_snoc e, List.take_set_of_le (Nat.le_refl i)]
  simp [hq]
 ·rw [List.drop_set_of_lt (by omega)]
  have := congrArg (List.drop 1) d.tail
  simpa [List.drop_drop] using this
theorem DelF.skip {q : α → Bool} {s ys : List α} {i j : Nat} (d : DelF q s ys i j) {y : α} (h : ys[j]? = some y) (hq : q y = true) : DelF q s ys i (j + 1) := by
 obtain ⟨h1, _⟩ := List.getElem?_eq_some_iff.1 h
 have hl := d.len; have hle := d.le
 refine ⟨d.len, by omega, by omega, ?_, ?_⟩
 ·rw [take_snoc (d.get h), List.filter_append, ← d.head]
  simp [hq]
 ·have := congrArg (List.drop 1) d.tail
  simpa [List.drop_drop] using this
theorem DelF.fin {q : α → Bool} {s ys : List α} {i j : Nat} (d : DelF q s ys i j) (h : s.length ≤ j) : ys.take i = s.filter fun x => !q x := by
 rw [d.head, List.take_of_length_le h]
theorem filter_none {q : α → Bool} {s : List α} (h : ∀ j x, j < s.length → s[j]? = some x → q x = false) : (s.filter fun x => !q x) = s := by
 rw [List.filter_eq_self]
 intro x hx
 obtain ⟨j, hj⟩ := List.mem_iff_getElem?.1 hx
 obtain ⟨h1, _⟩ := List.getElem?_eq_some_iff.1 hj
 simp [h j x h1 hj]
variable [DecidableEq α]
/-- slices.Compact -/
def compStep (acc : List α) (x : α) : List α := if acc.getLast? = some x then acc else acc ++ [x]
def compactL (l : List α) : List α := l.foldl compStep []
theorem compactL_snoc (l : List α) (x : α) : compactL (l ++ [x]) = compStep (compactL l) x := by simp [compactL]
theorem compactL_last (l : List α) : (compactL l).getLast? = l.getLast? := by
 induction l using snoc_ind with
 | nil => rfl
 | snoc l d ih =>
  rw [compactL_snoc, compStep]
  split
  ·rename_i h; rw [h]; simp
  ·simp
theorem compactL_succ {s : List α} {k : Nat} {y z : α} (hz : s[k]? = some z) (hy : s[k + 1]? = some y) : compactL (s.take (k + 2)) = if z = y then compactL (s.take (k + 1)) else compactL (s.take (k + 1)) ++ [y] := by
 have e : (s.take (k + 1)).getLast? = some z := by rw [take_snoc hz]; simp
 rw [take_snoc hy, compactL_snoc, compStep, compactL_last, e]
 simp only [Option.some.injEq]
/-- part way: the first stretch -/
theorem comp_more {s : List α} {k : Nat} {y z : α} (hz : s[k - 1]? = some z) (hy : s[k]? = some y) (hk : 1 ≤ k) (h : compactL (s.take k) = s.take k) (hne : ¬ y = z) : compactL (s.take (k + 1)) = s.take (k + 1) := by
 obtain ⟨m, rfl⟩ : ∃ m, k = m + 1 := ⟨k - 1, by omega⟩
 rw [Nat.add_sub_cancel] at hz
 rw [show m + 1 + 1 = m + 2 from rfl, compactL_succ hz hy, if_neg (fun e => hne e.symm), h, ← take_snoc hy]
theorem comp_one {s : List α} (h : 1 ≤ s.length) : compactL (s.take 1) = s.take 1 := by
 cases s with
 | nil => simp at h
 | cons a s => simp [compactL, compStep]
theorem comp_short {s : List α} (h : s.length < 2) : compactL s = s := by
 match s, h with
 | [], _ => rfl
 | [a], _ => simp [compactL, compStep]
structure Comp (s ys : List α) (i j : Nat) : Prop where
 len : ys.length = s.length
 le : i + 1 ≤ j
 le2 : j ≤ s.length
 head : ys.take i = compactL (s.take j)
 tail : ys.drop (j - 1) = s.drop (j - 1)
theorem Comp.start {s : List α} {k : Nat} {y z : α} (hz : s[k - 1]? = some z) (hy : s[k]? = some y) (hk : 1 ≤ k) (h : compactL (s.take k) = s.take k) (he : y = z) : Comp s s k (k + 1) := by
 obtain ⟨h1, _⟩ := List.getElem?_eq_some_iff.1 hy
 refine ⟨rfl, Nat.le_refl _, by omega, ?_, rfl⟩
 obtain ⟨m, rfl⟩ : ∃ m, k = m + 1 := ⟨k - 1, by omega⟩
 rw [Nat.add_sub_cancel] at hz
 rw [show m + 1 + 1 = m + 2 from rfl, compactL_succ hz hy, if_pos he.symm, h]
theorem Comp.get {s ys : List α} {i j : Nat} (d : Comp s ys i j) {y : α} {n : Nat} (hn : j - 1 ≤ n) (h : ys[n]? = some y) : s[n]? = some y := by
 have h1 := congrArg (fun l : List α => l[n - (j - 1)]?) d.tail
 simp only [List.getElem?_drop] at h1
 rw [show j - 1 + (n - (j - 1)) = n by omega] at h1
 rw [← h1]; exact h
theorem Comp.keep {s ys : List α} {i j : Nat} (d : Comp s ys i j) {y z : α} (h : ys[j]? = some y) (hz : ys[j - 1]? = some z) (hne : ¬ y = z) : Comp s (ys.set i y) (i + 1) (j + 1) := by
 obtain ⟨h1, _⟩ := List.getElem?_eq_some_iff.1 h
 have hl := d.len; have hle := d.le; have hle2 := d.le2
 have g1 := d.get (by omega) h
 have g2 := d.get (Nat.le_refl _) hz
 refine ⟨by rw [List.length_set]; exact d.len, by omega, by omega, ?_, ?_⟩
 ·obtain ⟨m, rfl⟩ : ∃ m, j = m + 1 := ⟨j - 1, by omega⟩
  rw [Nat.add_sub_cancel] at g2
  rw [show m + 1 + 1 = m + 2 from rfl, compactL_succ g2 g1, if_neg (fun e => hne e.symm), ← d.head]
  have e : (ys.set i y)[i]? = some y := by rw [List.getElem?_set]; simp; omega
  rw [take_snoc e, List.take_set_of_le (Nat.le_refl i)]
 ·rw [Nat.add_sub_cancel, List.drop_set_of_lt (by omega)]
  have := congrArg (List.drop 1) d.tail
  rw [List.drop_drop, List.drop_drop, show j - 1 + 1 = j by omega] at this
  exact this
theorem Comp.skip {s ys : List α} {i j : Nat} (d : Comp s ys i j) {y z : α} (h : ys[j]? = some y) (hz : ys[j - 1]? = some z) (he : y = z) : Comp s ys i (j + 1) := by
 obtain ⟨h1, _⟩ := List.getElem?_eq_some_iff.1 h
 have hl := d.len; have hle := d.le; have hle2 := d.le2
 have g1 := d.get (by omega) h
 have g2 := d.get (Nat.le_refl _) hz
 refine ⟨d.len, by omega, by omega, ?_, ?_⟩
 ·obtain ⟨m, rfl⟩ : ∃ m, j = m + 1 := ⟨j - 1, by omega⟩
  rw [Nat.add_sub_cancel] at g2
  rw [show m + 1 + 1 = m + 2 from rfl, compactL_succ g2 g1, if_pos he.symm, ← d.head]
 ·have := congrArg (List.drop 1) d.tail
  rw [List.drop_drop, List.drop_drop, show j - 1 + 1 = j by omega] at this
  rw [Nat.add_sub_cancel]; exact this
theorem Comp.fin {s ys : List α} {i j : Nat} (d : Comp s ys i j) (h : s.length ≤ j) : ys.take i = compactL s := by
 rw [d.head, List.take_of_length_le h]
end
end Go.Pk

namespace Go.Pk
open Go Go.RowKit
section
variable {α : Type} [DecidableEq α]
structure TLt (lt : α → α → Bool) : Prop where
 irrefl : ∀ a, lt a a = false
 trans : ∀ a b c, lt a b = true → lt b c = true → lt a c = true
 total : ∀ a b, a ≠ b → lt a b = true ∨ lt b a = true
def insBy (lt : α → α → Bool) (l : List α) (x : α) : List α := if (l.dropWhile fun a => lt a x).head? = some x then l else (l.takeWhile fun a => lt a x) ++ [x] ++ (l.dropWhile fun a => lt a x)
/-- in order, each once -/
def setL (lt : α → α → Bool) (l : List α) : List α := l.foldl (insBy lt) []
variable {lt : α → α → Bool}
theorem setL_snoc (l : List α) (x : α) : setL lt (l ++ [x]) = insBy lt (setL lt l) x := by simp [setL]
omit [DecidableEq α] in
theorem TLt.asymm (T : TLt lt) {a b : α} (h : lt a b = true) : lt b a = false := by
 cases e : lt b a with
 | false => rfl
 | true => have := T.trans _ _ _ h e; rw [T.irrefl] at this; cases this
theorem insBy_mem {l : List α} {x y : α} : y ∈ insBy lt l x ↔ y ∈ l ∨ y = x := by
 unfold insBy
 split
 ·rename_i h
  have : x ∈ l.dropWhile fun a => lt a x := List.mem_of_mem_head? h
  have hx : x ∈ l := (List.dropWhile_sublist _).subset this
  constructor
  ·exact .inl
  ·rintro (h | rfl)
   ·exact h
   ·exact hx
 ·have e : l = (l.takeWhile fun a => lt a x) ++ (l.dropWhile fun a => lt a x) := (List.takeWhile_append_dropWhile).symm
  have : y ∈ l ↔ y ∈ (l.takeWhile fun a => lt a x) ∨ y ∈ (l.dropWhile fun a => lt a x) := by
   rw [← List.mem_append, ← e]
  rw [this]
  simp only [List.mem_append, List.mem_singleton]
  constructor
  ·rintro ((h | h) | h)
   ·exact .inl (.inl h)
   ·exact .inr h
   ·exact .inl (.inr h)
  ·rintro ((h | h) | h)
   ·exact .inl (.inl h)
   ·exact .inr h
   ·exact .inl (.inr h)
theorem insBy_sorted (T : TLt lt) {l : List α} {x : α} (hs : l.Pairwise fun a b => lt a b = true) : (insBy lt l x).Pairwise fun a b => lt a b = true := by
 unfold insBy
 split
 ·exact hs
 ·rename_i hne
  have e : l = (l.takeWhile fun a => lt a x) ++ (l.dropWhile fun a => lt a x) := (List.takeWhile_append_dropWhile).symm
  have hs' := hs
  rw [e] at hs'
  obtain ⟨s1, s2, s3⟩ := List.pairwise_append.1 hs'
  have ht : ∀ a ∈ l.takeWhile (fun a => lt a x), lt a x = true := by
   intro a ha
   have := List.all_takeWhile (l := l) (p := fun a => lt a x)
   exact List.all_eq_true.1 this a ha
  have hd : ∀ b ∈ l.dropWhile (fun a => lt a x), lt x b = true := by
   cases hD : l.dropWhile (fun a => lt a x) with
   | nil => simp
   | cons c D =>
    have hc : ¬ lt c x = true := by
     have := List.head?_dropWhile_not (fun a => lt a x) l
     rw [hD] at this; simpa using this
    have hcx : c ≠ x := by
     intro q; rw [hD, q] at hne; exact hne rfl
    have h1 : lt x c = true := (T.total x c (Ne.symm hcx)).resolve_right hc
    intro b hb
    rcases List.mem_cons.1 hb with rfl | hb
    ·exact h1
    ·rw [hD] at s2
     exact T.trans _ _ _ h1 ((List.pairwise_cons.1 s2).1 b hb)
  rw [List.append_assoc]
  refine List.pairwise_append.2 ⟨s1, List.pairwise_append.2 ⟨by simp, s2, ?_⟩, ?_⟩
  ·intro a ha b hb
   simp at ha; subst ha
   exact hd b hb
  ·intro a ha b hb
   rcases List.mem_append.1 hb with hb | hb
   ·simp at hb; subst hb; exact ht a ha
   ·exact s3 a ha b hb
theorem setL_sorted (T : TLt lt) (l : List α) : (setL lt l).Pairwise fun a b => lt a b = true := by
 induction l using snoc_ind with
 | nil => exact List.Pairwise.nil
 | snoc l d ih => rw [setL_snoc]; exact insBy_sorted T ih
theorem setL_mem {l : List α} {y : α} : y ∈ setL lt l ↔ y ∈ l := by
 induction l using snoc_ind with
 | nil => simp [setL]
 | snoc l d ih => rw [setL_snoc, insBy_mem, ih]; simp
omit [DecidableEq α] in
theorem strict_eq (T : TLt lt) {a b : List α} (ha : a.Pairwise fun x y => lt x y = true) (hb : b.Pairwise fun x y => lt x y = true) (h : ∀ x, x ∈ a ↔ x ∈ b) : a = b := by
 have na : a.Nodup := ha.imp (fun h e => by subst e; rw [T.irrefl] at h; cases h)
 have nb : b.Nodup := hb.imp (fun h e => by subst e; rw [T.irrefl] at h; cases h)
 refine List.Perm.eq_of_pairwise (le := fun x y => lt x y = true) (fun x y _ _ h1 h2 => by have := T.asymm h1; rw [h2] at this; cases this) ha hb ((List.perm_ext_iff_of_nodup na nb).2 h)
theorem setL_len (T : TLt lt) (l : List α) : (setL lt l).length ≤ l.length := by
 induction l using snoc_ind with
 | nil => simp [setL]
 | snoc l d ih =>
  rw [setL_snoc, insBy]
  split
  ·simp; omega
  ·have e := congrArg List.length (List.takeWhile_append_dropWhile (p := fun a => lt a d) (l := setL lt l))
   simp only [List.length_append] at e ⊢
   simp only [List.length_cons, List.length_nil]; omega
theorem compactL_mem {l : List α} : ∀ {y : α}, y ∈ compactL l ↔ y ∈ l := by
 induction l using snoc_ind with
 | nil => simp [compactL]
 | snoc l d ih =>
  intro y
  rw [compactL_snoc, compStep]
  split
  ·rename_i h
   rw [ih]
   have : d ∈ compactL l := List.mem_of_getLast? h
   rw [ih] at this
   constructor
   ·intro h; simp [h]
   ·intro h
    rcases List.mem_append.1 h with h | h
    ·exact h
    ·simp at h; subst h; exact this
  ·simp [ih]
theorem compactL_sorted (T : TLt lt) {l : List α} (hs : l.Pairwise fun a b => lt b a = false) : (compactL l).Pairwise fun a b => lt a b = true := by
 induction l using snoc_ind with
 | nil => exact List.Pairwise.nil
 | snoc l d ih =>
  obtain ⟨s1, _, s3⟩ := List.pairwise_append.1 hs
  rw [compactL_snoc, compStep]
  split
  ·exact ih s1
  ·rename_i hne
   refine List.pairwise_append.2 ⟨ih s1, by simp, fun a ha b hb => ?_⟩
   simp at hb; subst hb
   have hal : a ∈ l := compactL_mem.1 ha
   have h1 := s3 a hal b (by simp)
   by_cases e : a = b
   ·exfalso
    subst e
    rw [compactL_last] at hne
    cases hL : l.getLast? with
    | none => rw [List.getLast?_eq_none_iff] at hL; subst hL; cases hal
    | some z =>
     rw [hL] at hne
     have hz : z ∈ l := List.mem_of_getLast? hL
     have h2 := s3 z hz a (by simp)
     -- a comes ahead of z, or is it
     have h3 : lt z a = false := by
      obtain ⟨i, hi⟩ := List.mem_iff_getElem?.1 hal
      rw [List.getLast?_eq_getElem?] at hL
      obtain ⟨i1, i2⟩ := List.getElem?_eq_some_iff.1 hi
      obtain ⟨z1, z2⟩ := List.getElem?_eq_some_iff.1 hL
      rcases Nat.lt_or_ge i (l.length - 1) with h | h
      ·have := List.pairwise_iff_getElem.1 s1 i (l.length - 1) i1 z1 h
       rw [i2, z2] at this; exact this
      ·have : i = l.length - 1 := by omega
       subst this
       rw [i2] at z2; subst z2; exact T.irrefl _
     by_cases e2 : z = a
     ·exact hne (by rw [e2])
     ·rcases T.total z a e2 with q | q
      ·rw [q] at h3; cases h3
      ·rw [q] at h2; cases h2
   ·rcases T.total a b e with q | q
    ·exact q
    ·rw [q] at h1; cases h1
theorem setOf_compact (T : TLt lt) {xs ys : List α} (hp : ys.Perm xs) (hs : ys.Pairwise fun a b => lt b a = false) : compactL ys = setL lt xs :=
 strict_eq T (compactL_sorted T hs) (setL_sorted T xs) (fun x => by rw [compactL_mem, setL_mem]; exact hp.mem_iff)
end
theorem sLt_eq (a b : Str) : sLt a b = decide (a < b) := Go.Proofs.bytesLess_eq a b
theorem cmpS_lt : ∀ (a b : Str), decide (cmpS a b < 0) = sLt a b
 | [], [] => rfl
 | [], _ :: _ => rfl
 | _ :: _, [] => rfl
 | x :: a, y :: b => by
  have ih := cmpS_lt a b
  simp only [cmpS, sLt, Lib.compareBytes, Op.bytesLess] at ih ⊢
  by_cases h1 : x < y
  ·simp [h1]
  ·by_cases h2 : y < x
   ·have : ¬ x = y := by rintro rfl; exact h1 h2
    simp [h1, h2, this]
   ·have : x = y := by
     apply UInt8.le_antisymm
     ·exact UInt8.not_lt.1 h2
     ·exact UInt8.not_lt.1 h1
    subst this
    have h1' : ¬ x < x := h1
    simp only [h1', if_false, beq_self_eq_true, Bool.true_and, decide_false, Bool.false_or]; exact ih
theorem cmpS_eq : ∀ (a b : Str), cmpS a b = 0 ↔ a = b
 | [], [] => by simp [cmpS, Lib.compareBytes]
 | [], _ :: _ => by simp [cmpS, Lib.compareBytes]
 | _ :: _, [] => by simp [cmpS, Lib.compareBytes]
 | x :: a, y :: b => by
  have ih := cmpS_eq a b
  simp only [cmpS, Lib.compareBytes] at ih ⊢
  by_cases h1 : x < y
  ·have : ¬ x = y := by rintro rfl; exact absurd h1 (UInt8.lt_irrefl _)
   simp [h1, this]
  ·by_cases h2 : y < x
   ·have : ¬ x = y := by rintro rfl; exact h1 h2
    simp [h1, h2, this]
   ·have : x = y := by
     apply UInt8.le_antisymm
     ·exact UInt8.not_lt.1 h2
     ·exact UInt8.not_lt.1 h1
    subst this
    simp [h1, ih]
theorem cmpS_bound : ∀ (a b : Str), -1 ≤ cmpS a b ∧ cmpS a b ≤ 1
 | [], [] => by simp [cmpS, Lib.compareBytes]
 | [], _ :: _ => by simp [cmpS, Lib.compareBytes]
 | _ :: _, [] => by simp [cmpS, Lib.compareBytes]
 | x :: a, y :: b => by
  have ih := cmpS_bound a b
  simp only [cmpS, Lib.compareBytes] at ih ⊢
  repeat' split
  all_goals omega
theorem sLt_T : TLt sLt := by
 refine ⟨fun a => ?_, fun a b c => ?_, fun a b h => ?_⟩
 ·rw [sLt_eq]; simp [List.lt_irrefl]
 ·rw [sLt_eq, sLt_eq, sLt_eq]; simp only [decide_eq_true_eq]; exact fun h1 h2 => List.lt_trans h1 h2
 ·rw [sLt_eq, sLt_eq]; simp only [decide_eq_true_eq]
  by_cases h1 : a < b
  ·exact .inl h1
  ·by_cases h2 : b < a
   ·exact .inr h2
   ·exact absurd (List.le_antisymm (List.not_lt.1 h2) (List.not_lt.1 h1)) h
theorem headLt_T : TLt headLt := by
 refine ⟨fun a => ?_, fun a b c h1 h2 => ?_, fun a b h => ?_⟩
 ·simp [headLt, sLt_T.irrefl]
 ·simp only [headLt, Bool.or_eq_true, Bool.and_eq_true, decide_eq_true_eq] at *
  rcases h1 with h1 | ⟨e1, h1⟩
  ·rcases h2 with h2 | ⟨e2, h2⟩
   ·exact .inl (sLt_T.trans _ _ _ h1 h2)
   ·exact .inl (e2 ▸ h1)
  ·rcases h2 with h2 | ⟨e2, h2⟩
   ·exact .inl (by rw [e1]; exact h2)
   ·exact .inr ⟨e1.trans e2, by omega⟩
 ·simp only [headLt, Bool.or_eq_true, Bool.and_eq_true, decide_eq_true_eq]
  rcases a with ⟨s, m⟩; rcases b with ⟨s', m'⟩
  by_cases e : s = s'
  ·subst e
   have hm : m ≠ m' := fun q => h (by rw [q])
   rcases Int.lt_or_gt_of_ne hm with q | q
   ·exact .inl (.inr ⟨rfl, q⟩)
   ·exact .inr (.inr ⟨rfl, q⟩)
  ·rcases sLt_T.total s s' e with q | q
   ·exact .inl (.inl q)
   ·exact .inr (.inl q)
theorem cmpHead_lt (a b : Head) : decide (cmpHead a b < 0) = headLt a b := by
 unfold cmpHead headLt
 rw [← cmpS_lt]
 by_cases h : cmpS a.stem b.stem = 0
 ·have e := (cmpS_eq _ _).1 h
  have h' : ¬ cmpS a.stem b.stem ≠ 0 := by simp [h]
  simp only [if_neg h', h, e]
  have e2 : cmpS b.stem b.stem = 0 := (cmpS_eq _ _).2 rfl
  have e3 : sLt b.stem b.stem = false := sLt_T.irrefl _
  rw [← cmpS_lt] at e3
  rw [e3]; simp only [decide_true, Bool.true_and, Bool.false_or, decide_eq_decide]; omega
 ·have e : ¬ a.stem = b.stem := fun q => h ((cmpS_eq _ _).2 q)
  simp only [if_pos h, e]; simp
theorem swo_head : Go.Sort.SWO (Go.Proofs.ltOf cmpHead) := by
 have e : Go.Proofs.ltOf cmpHead = headLt := by funext a b; exact cmpHead_lt a b
 rw [e]
 refine ⟨headLt_T.irrefl, headLt_T.trans, fun a b c h1 h2 => ?_⟩
 cases h : headLt a c with
 | false => rfl
 | true =>
  by_cases e1 : a = b
  ·subst e1; rw [h] at h2; cases h2
  ·rcases headLt_T.total a b e1 with q | q
   ·rw [q] at h1; cases h1
   ·have := headLt_T.trans _ _ _ q h; rw [this] at h2; cases h2
/-- the lists of the document -/
def headsN (t : Text) (x : Lexicon) : List Head := if checkN t x = 0 then setL headLt (headsL t x) else []
def underP (t : Text) (x : Lexicon) (hd : Head) : List Place := (placesT t).filter fun p => decide (headAt t x p = hd)
def underE (t : Text) (x : Lexicon) (hd : Head) : Int := if checkN t x = 0 then (if headB hd = true then (if underP t x hd = [] then 6 else 0) else 2) else checkN t x
def underR (t : Text) (x : Lexicon) (hd : Head) : List Place := if underE t x hd = 0 then underP t x hd else []
def underN (t : Text) (x : Lexicon) (hd : Head) : List Entry := if underE t x hd = 0 then (entriesL t x).filter fun y => !decide (y.head ≠ hd) else []
def formsR (t : Text) (x : Lexicon) (hd : Head) : List Str := if underE t x hd = 0 then setL sLt ((underP t x hd).map (wordD t)) else []
theorem under_filter (t : Text) (x : Lexicon) (hd : Head) : ((entriesL t x).filter fun y => !decide (y.head ≠ hd)) = (underP t x hd).map (entryAt t x) := by
 rw [entriesL, underP, List.filter_map]
 congr 1
 apply List.filter_congr
 intro p _
 simp only [entryAt, Function.comp]
 by_cases e : headAt t x p = hd <;> simp [e]
theorem entries_len {t : Text} (ht : textB t = true) (x : Lexicon) : (entriesL t x).length ≤ 600 := by rw [entriesL, List.length_map]; exact places_len ht
theorem under_check {t : Text} {x : Lexicon} {hd : Head} (h : underE t x hd = 0) : checkN t x = 0 := by
 unfold underE at h
 split at h
 ·assumption
 ·rename_i q; exact absurd h q
theorem setOf_sort (l : List Str) : compactL (l.mergeSort fun a b => decide (a ≤ b)) = setL sLt l := by
 refine setOf_compact sLt_T (List.mergeSort_perm _ _) ?_
 have h := List.pairwise_mergeSort (le := fun a b : Str => decide (a ≤ b)) (by intro a b c h1 h2; simp only [decide_eq_true_eq] at *; exact List.le_trans h1 h2) (by intro a b; simp only [Bool.or_eq_true, decide_eq_true_eq]; exact List.le_total a b) l
 refine h.imp fun h => ?_
 rw [sLt_eq]; simp only [decide_eq_true_eq] at h; simpa using h
end Go.Pk

namespace Go.Pk
open Go Go.RowKit
/-- the head that a word had first -/
def hdFirst (es : List Entry) (w : Str) : Option Head := (es.find? fun y => decide (y.word = w)).map (·.head)
def homAt (es : List Entry) (y : Entry) : List Str := match hdFirst es y.word with
 | some h => if h ≠ y.head then [y.word] else []
 | none => []
def homsN (es : List Entry) : Nat → List Str
 | 0 => []
 | n + 1 => homsN es n ++ (match es[n]? with
  | some y => homAt (es.take n) y
  | none => [])
theorem homsN_succ {es : List Entry} {n : Nat} {y : Entry} (h : es[n]? = some y) : homsN es (n + 1) = homsN es n ++ homAt (es.take n) y := by simp only [homsN, h]
theorem homsN_len (es : List Entry) : ∀ n, (homsN es n).length ≤ n
 | 0 => by simp [homsN]
 | n + 1 => by
  have ih := homsN_len es n
  simp only [homsN, List.length_append]
  split
  ·unfold homAt
   split
   ·split <;> simp <;> omega
   ·simp; omega
  ·simp; omega
theorem hdFirst_snoc (es : List Entry) (y : Entry) (w : Str) : hdFirst (es ++ [y]) w = match hdFirst es w with
  | some h => some h
  | none => if y.word = w then some y.head else none := by
 unfold hdFirst
 rw [List.find?_append]
 cases h : es.find? fun y => decide (y.word = w) with
 | some z => simp
 | none =>
  by_cases e : y.word = w <;> simp [e]
theorem hdFirst_put {es : List Entry} {n : Nat} {y : Entry} (h : es[n]? = some y) {m : List (Str × Head)} (hm : ∀ w, look m w = hdFirst (es.take n) w) (hc : ∀ z, hdFirst (es.take n) y.word = some z → z = y.head) : ∀ w, look (putM m y.word y.head) w = hdFirst (es.take (n + 1)) w := by
 intro w
 rw [look_putM, take_snoc h, hdFirst_snoc, hm]
 by_cases e : w = y.word
 ·subst e
  simp only [if_true]
  cases q : hdFirst (es.take n) y.word with
  | some z => rw [hc z q]
  | none => rfl
 ·rw [if_neg e]
  cases q : hdFirst (es.take n) w with
  | some z => rfl
  | none => simp only []; rw [if_neg (fun q => e q.symm)]
theorem hdFirst_keep {es : List Entry} {n : Nat} {y : Entry} (h : es[n]? = some y) {m : List (Str × Head)} (hm : ∀ w, look m w = hdFirst (es.take n) w) {z : Head} (hc : hdFirst (es.take n) y.word = some z) : ∀ w, look m w = hdFirst (es.take (n + 1)) w := by
 intro w
 rw [take_snoc h, hdFirst_snoc, hm]
 cases q : hdFirst (es.take n) w with
 | some z => rfl
 | none =>
  simp only []
  by_cases e : y.word = w
  ·subst e; rw [hc] at q; cases q
  ·rw [if_neg e]
/-- two places of a word whose heads differ -/
def pairAt (es : List Entry) (i j : Nat) : List Str := match es[i]?, es[j]? with
 | some a, some b => if a.word = b.word ∧ a.head ≠ b.head then [a.word] else []
 | _, _ => []
def pairRow (es : List Entry) (i : Nat) : List Str := (List.range i).flatMap (pairAt es i)
def pairsN (es : List Entry) (n : Nat) : List Str := (List.range n).flatMap (pairRow es)
def homR (t : Text) (x : Lexicon) : List Str := if checkN t x = 0 then setL sLt (homsN (entriesL t x) (entriesL t x).length) else []
/-- a lexicon without the decision with a Number -/
def lessX (x : Lexicon) (n : Int) : Lexicon := { x with decisions := x.decisions.filter fun d => decide (d.number ≠ n) }
theorem lexiconB_of {t : Text} {x y : Lexicon} (h : checkN t x = 0) (hr : y.rules = x.rules) (hd : ∀ d ∈ y.decisions, decisionB t d = true) (hl : y.decisions.length ≤ 20) (hn : (y.decisions.map (·.number)).Nodup) : checkN t y = 0 := by
 obtain ⟨h1, h2⟩ := lexicon_of h
 have h3 : lexiconB t y = true := by
  simp only [lexiconB, Bool.and_eq_true, decide_eq_true_eq, List.all_eq_true] at h2 ⊢
  exact ⟨⟨⟨⟨by rw [hr]; exact h2.1.1.1.1, hl⟩, by rw [hr]; exact h2.1.1.2⟩, hd⟩, hn⟩
 simp [checkN, h1, h3]
theorem lessX_check {t : Text} {x : Lexicon} (h : checkN t x = 0) (n : Int) : checkN t (lessX x n) = 0 := by
 refine lexiconB_of h rfl (fun d hd => lexicon_dec h d (List.mem_filter.1 hd).1) ?_ ?_
 ·exact Nat.le_trans (List.length_filter_le _ _) (lexicon_20 h)
 ·exact (List.filter_sublist.map _).nodup (okD_of h).1
theorem lexicon_12 {t : Text} {x : Lexicon} (h : checkN t x = 0) : x.rules.length ≤ 12 := by
 have h1 := (lexicon_of h).2
 simp only [lexiconB, Bool.and_eq_true, decide_eq_true_eq] at h1
 exact h1.1.1.1.1
def idleB (t : Text) (x : Lexicon) (n : Int) : Bool := decide ((lessX x n).decisions.length < x.decisions.length) && decide (headsL t (lessX x n) = headsL t x)
def natI (k : Nat) : Int := (k : Int) + 1
def idleK (t : Text) (x : Lexicon) (k : Nat) : List Int := ((List.range k).map natI).filter (idleB t x)
def idleR (t : Text) (x : Lexicon) : List Int := idleK t x 999
def idleN (t : Text) (x : Lexicon) : List Int := if checkN t x = 0 then idleR t x else []
theorem idleK_len (t : Text) (x : Lexicon) (k : Nat) : (idleK t x k).length ≤ k := by
 have := List.length_filter_le (idleB t x) ((List.range k).map natI)
 simpa [idleK] using this
theorem entries_heads {t : Text} {x y : Lexicon} : entriesL t y = entriesL t x ↔ headsL t y = headsL t x := by
 constructor
 ·intro h
  have := congrArg (fun l : List Entry => l.map (·.head)) h
  simpa [entriesL, headsL, List.map_map, Function.comp_def, entryAt] using this
 ·intro h
  simp only [headsL, entriesL] at h ⊢
  rw [List.map_inj_left] at h ⊢
  intro p hp
  rw [entryAt, entryAt, h p hp]
theorem without_at {ds : List Decision} {i : Nat} {d : Decision} (hn : (ds.map (·.number)).Nodup) (hd : ds[i]? = some d) : ds.take i ++ ds.drop (i + 1) = ds.filter fun e => decide (e.number ≠ d.number) := by
 have h1 : ds = ds.take i ++ d :: ds.drop (i + 1) := by rw [← drop_cons hd, List.take_append_drop]
 have hn' := hn
 rw [h1, List.map_append, List.map_cons, List.nodup_append] at hn'
 obtain ⟨_, n2, n3⟩ := hn'
 rw [List.nodup_cons] at n2
 have e1 : (ds.take i).filter (fun e => decide (e.number ≠ d.number)) = ds.take i := by
  rw [List.filter_eq_self]
  intro e he
  simpa using n3 _ (List.mem_map_of_mem he) _ (List.mem_cons_self ..)
 have e2 : (ds.drop (i + 1)).filter (fun e => decide (e.number ≠ d.number)) = ds.drop (i + 1) := by
  rw [List.filter_eq_self]
  intro e he
  have : ¬ e.number = d.number := fun q => n2.1 (q ▸ List.mem_map_of_mem he)
  simpa using this
 conv => rhs; rw [h1]
 rw [List.filter_append, List.filter_cons, if_neg (by simp), e1, e2]
/-- the decisions, from the first on, without which all heads are the same -/
def idleP (t : Text) (x : Lexicon) (d : Decision) : Bool := decide (entriesL t (lessX x d.number) = entriesL t x)
theorem idle_eq {t : Text} {x : Lexicon} (h : checkN t x = 0) : ((x.decisions.filter (idleP t x)).map (·.number)).mergeSort (fun a b => decide (a ≤ b)) = idleR t x := by
 have hx := okD_of h
 have hs : (idleR t x).Pairwise fun a b => a < b := by
  refine List.Pairwise.filter _ ?_
  rw [List.pairwise_map]
  refine List.pairwise_lt_range.imp fun h => ?_
  simp only [natI]; omega
 have hnd : (idleR t x).Nodup := hs.imp fun h => by omega
 have hn1 : ((x.decisions.filter (idleP t x)).map (·.number)).Nodup := (List.filter_sublist.map _).nodup hx.1
 have hperm : ((x.decisions.filter (idleP t x)).map (·.number)).Perm (idleR t x) := by
  rw [List.perm_ext_iff_of_nodup hn1 hnd]
  intro n
  simp only [idleR, idleK, List.mem_filter, List.mem_map, List.mem_range, idleB, Bool.and_eq_true, decide_eq_true_eq, idleP]
  constructor
  ·rintro ⟨d, ⟨h1, h2⟩, rfl⟩
   obtain ⟨h3, h4, _⟩ := hx.2 d h1
   refine ⟨⟨(d.number - 1).toNat, by omega, by simp only [natI]; omega⟩, ?_, entries_heads.1 h2⟩
   have h5 : (lessX x d.number).decisions.Sublist x.decisions := List.filter_sublist
   refine Nat.lt_of_le_of_ne h5.length_le fun e => ?_
   have h6 := h5.eq_of_length e
   have h7 : d ∈ (lessX x d.number).decisions := by rw [h6]; exact h1
   simpa using (List.mem_filter.1 h7).2
  ·rintro ⟨_, h1, h2⟩
   rcases Classical.em (∃ d ∈ x.decisions, d.number = n) with ⟨d, hd, e⟩ | hno
   ·exact ⟨d, ⟨hd, by rw [e]; exact entries_heads.2 h2⟩, e⟩
   ·exfalso
    have : (lessX x n).decisions = x.decisions := by
     simp only [lessX]
     rw [List.filter_eq_self]
     intro d hd
     have : ¬ d.number = n := fun e => hno ⟨d, hd, e⟩
     simpa using this
    rw [this] at h1; omega
 refine List.Perm.eq_of_pairwise (le := fun a b : Int => a ≤ b) (fun a b _ _ h1 h2 => by omega) ?_ (hs.imp (fun h => by omega)) ((List.mergeSort_perm _ _).trans hperm)
 have h := List.pairwise_mergeSort (le := fun a b : Int => decide (a ≤ b)) (by intro a b c h1 h2; simp at *; omega) (by intro a b; simp; omega) ((x.decisions.filter (idleP t x)).map (·.number))
 exact h.imp (fun h => by simpa using h)
/-- a decision more -/
def moreX (x : Lexicon) (d : Decision) : Lexicon := { x with decisions := x.decisions ++ [d] }
def ascD (l : List Decision) : List Decision := l.mergeSort fun a b => decide (a.number ≤ b.number)
def addX (x : Lexicon) (d : Decision) : Lexicon := { x with decisions := ascD (x.decisions ++ [d]) }
def addE (t : Text) (x : Lexicon) (d : Decision) : Int := if checkN t x ≠ 0 then checkN t x else if x.decisions.length = 20 then 9 else if checkN t (moreX x d) ≠ 0 then 41 else 0
def zLexicon : Lexicon := ⟨[], []⟩
def addN (t : Text) (x : Lexicon) (d : Decision) : Lexicon := if addE t x d = 0 then addX x d else zLexicon
theorem ascD_perm (l : List Decision) : (ascD l).Perm l := List.mergeSort_perm _ _
theorem ascD_sorted (l : List Decision) : (ascD l).Pairwise fun a b => a.number ≤ b.number := by
 have h := List.pairwise_mergeSort (le := fun a b : Decision => decide (a.number ≤ b.number)) (by intro a b c h1 h2; simp at *; omega) (by intro a b; simp; omega) l
 exact h.imp (fun h => by simpa using h)
theorem ascD_eq {l ys : List Decision} (hp : ys.Perm l) (hs : ys.Pairwise fun a b => a.number ≤ b.number) (hn : (l.map (·.number)).Nodup) : ys = ascD l := by
 refine List.Perm.eq_of_pairwise (le := fun a b : Decision => a.number ≤ b.number) ?_ hs (ascD_sorted l) (hp.trans (ascD_perm l).symm)
 intro a b ha hb h1 h2
 exact nodup_key hn (hp.mem_iff.1 ha) ((ascD_perm l).mem_iff.1 hb) (by omega)
theorem addE_zero {t : Text} {x : Lexicon} {d : Decision} (h : addE t x d = 0) : checkN t x = 0 ∧ ¬ x.decisions.length = 20 ∧ checkN t (moreX x d) = 0 := by
 unfold addE at h
 split at h
 ·rename_i q; exact absurd h q
 ·rename_i q
  split at h
  ·cases h
  ·rename_i q2
   split at h
   ·cases h
   ·rename_i q3
    exact ⟨by simpa using q, q2, by simpa using q3⟩
theorem addX_check {t : Text} {x : Lexicon} {d : Decision} (h : checkN t (moreX x d) = 0) : checkN t (addX x d) = 0 := by
 have hp := ascD_perm (x.decisions ++ [d])
 refine lexiconB_of h rfl (fun e he => lexicon_dec h e (hp.mem_iff.1 he)) ?_ ?_
 ·have := lexicon_20 h
  rw [show (addX x d).decisions.length = (moreX x d).decisions.length from hp.length_eq]; exact this
 ·exact (hp.map _).nodup_iff.2 (okD_of h).1
def changesP (t : Text) (x : Lexicon) (d : Decision) : List Place := (placesT t).filter fun p => decide (headAt t (addX x d) p ≠ headAt t x p)
def changesR (t : Text) (x : Lexicon) (d : Decision) : List Place := if addE t x d = 0 then changesP t x d else []
theorem hom_keep {es : List Entry} {n : Nat} {y : Entry} (h : es[n]? = some y) {m : List (Str × Head)} (hm : ∀ w, look m w = hdFirst (es.take n) w) (h1 : (look m y.word).isSome = true) : ∀ w, look m w = hdFirst (es.take (n + 1)) w := by
 obtain ⟨z, hz⟩ := Option.isSome_iff_exists.1 h1
 exact hdFirst_keep h hm ((hm _).symm.trans hz)
theorem hom_put {es : List Entry} {n : Nat} {y : Entry} (h : es[n]? = some y) {m : List (Str × Head)} (hm : ∀ w, look m w = hdFirst (es.take n) w) (h1 : (look m y.word).isSome = true → (look m y.word).getD zHead = y.head) : ∀ w, look (putM m y.word y.head) w = hdFirst (es.take (n + 1)) w := by
 refine hdFirst_put h hm fun z hz => ?_
 rw [← hm] at hz
 rw [hz] at h1
 exact h1 rfl
theorem homAt_yes {es : List Entry} {y : Entry} {m : List (Str × Head)} (hm : ∀ w, look m w = hdFirst es w) (h1 : (look m y.word).isSome = true) (h2 : (look m y.word).getD zHead ≠ y.head) : homAt es y = [y.word] := by
 obtain ⟨z, hz⟩ := Option.isSome_iff_exists.1 h1
 rw [hz] at h2
 rw [hm] at hz
 simp only [homAt, hz]
 exact if_pos h2
theorem homAt_no {es : List Entry} {y : Entry} {m : List (Str × Head)} (hm : ∀ w, look m w = hdFirst es w) (h1 : (look m y.word).isSome = true → (look m y.word).getD zHead = y.head) : homAt es y = [] := by
 unfold homAt
 rw [← hm]
 cases hz : look m y.word with
 | none => rfl
 | some z =>
  rw [hz] at h1
  simp only []
  exact if_neg (fun q => q (h1 rfl))
theorem entry_at {t : Text} {x : Lexicon} {i : Nat} {y : Entry} (h : (entriesL t x)[i]? = some y) : ∃ p, (placesT t)[i]? = some p ∧ y = entryAt t x p := by
 rw [entriesL, List.getElem?_map] at h
 obtain ⟨p, hp, rfl⟩ := Option.map_eq_some_iff.1 h
 exact ⟨p, hp, rfl⟩
theorem change_at {t : Text} {x x' : Lexicon} {i : Nat} {y z : Entry} (hy : (entriesL t x')[i]? = some y) (hz : (entriesL t x)[i]? = some z) : ∃ p, (placesT t)[i]? = some p ∧ y.at_ = p ∧ (y = z ↔ headAt t x' p = headAt t x p) := by
 obtain ⟨p, hp, rfl⟩ := entry_at hy
 obtain ⟨q, hq, rfl⟩ := entry_at hz
 rw [hp] at hq; cases hq
 exact ⟨p, hp, rfl, by simp [entryAt]⟩
theorem entries_length (t : Text) (x : Lexicon) : (entriesL t x).length = (placesT t).length := by rw [entriesL, List.length_map]
theorem heads_length (t : Text) (x : Lexicon) : (headsL t x).length = (placesT t).length := by rw [headsL, List.length_map]
theorem head_pl {t : Text} {x : Lexicon} {i : Nat} {p : Place} {a : Head} (hp : (placesT t)[i]? = some p) (ha : (headsL t x)[i]? = some a) : a = headAt t x p := by
 rw [headsL, List.getElem?_map, hp] at ha
 exact (Option.some.inj ha).symm
theorem addE_bad {t : Text} {x : Lexicon} {d : Decision} (h : ¬ checkN t x = 0) : addE t x d = checkN t x ∧ addN t x d = zLexicon := by
 have e : addE t x d = checkN t x := if_pos h
 exact ⟨e, by rw [addN, e]; exact if_neg h⟩
theorem addE_full {t : Text} {x : Lexicon} {d : Decision} (h : checkN t x = 0) (h2 : x.decisions.length = 20) : addE t x d = 9 ∧ addN t x d = zLexicon := by
 have e : addE t x d = 9 := by rw [addE, if_neg (fun q => q h), if_pos h2]
 exact ⟨e, by rw [addN, e]; rfl⟩
theorem addE_err {t : Text} {x : Lexicon} {d : Decision} (h : checkN t x = 0) (h2 : ¬ x.decisions.length = 20) (h3 : ¬ checkN t (moreX x d) = 0) : addE t x d = 41 ∧ addN t x d = zLexicon := by
 have e : addE t x d = 41 := by rw [addE, if_neg (fun q => q h), if_neg h2, if_pos h3]
 exact ⟨e, by rw [addN, e]; rfl⟩
theorem addE_ok {t : Text} {x : Lexicon} {d : Decision} (h : checkN t x = 0) (h2 : ¬ x.decisions.length = 20) (h3 : checkN t (moreX x d) = 0) : addE t x d = 0 ∧ addN t x d = addX x d := by
 have e : addE t x d = 0 := by rw [addE, if_neg (fun q => q h), if_neg h2, if_neg (fun q => q h3)]
 exact ⟨e, by rw [addN, e]; rfl⟩
end Go.Pk

namespace Go.Pk
open Go Go.RowKit
/-- the i-th decision on its way to the left, now at k -/
def insK (ds : List Decision) (i k : Nat) (y : Decision) : List Decision := ds.take k ++ y :: ((ds.take i).drop k ++ ds.drop (i + 1))
/-- part way: the first i in order -/
def sortedTo (ds : List Decision) (i : Nat) : Prop := (ds.take i).Pairwise fun a b => a.number ≤ b.number
end Go.Pk

namespace Go.Pk
open Go Go.RowKit
/-- a place's decision, without a sort -/
def winV (x : Lexicon) (p : Place) (wd : Str) : Decision :=
 if (bestOf ((x.decisions.filter (standsB x)).filter fun d => concB d p wd)).number = 0 then { zDecision with to := ⟨((stepsN x.rules 4 wd).getLast?).getD [], 0⟩ } else bestOf ((x.decisions.filter (standsB x)).filter fun d => concB d p wd)
theorem standM_perm (x : Lexicon) : ((standM x).map (·.2)).Perm (x.decisions.filter (standsB x)) := by
 have : (standM x).map (·.2) = (downD x).filter (standsB x) := by simp [standM, pairD, List.map_map, Function.comp_def]
 rw [this]
 exact (downD_perm x).filter _
theorem winV_eq {x : Lexicon} (h : OkD x) : winD x = winV x := by
 funext p wd
 have hp : (conD x p wd).Perm ((x.decisions.filter (standsB x)).filter fun d => concB d p wd) := (standM_perm x).filter _
 have e : bestOf (conD x p wd) = bestOf ((x.decisions.filter (standsB x)).filter fun d => concB d p wd) := by
  refine bestOf_perm hp ?_ ?_
  ·intro y hy
   exact (h.2 _ (List.mem_filter.1 (List.mem_filter.1 hy).1).1).1
  ·exact ((List.filter_sublist.trans List.filter_sublist).map _).nodup h.1
 rw [winD, winV, e]
def headV (t : Text) (x : Lexicon) (p : Place) : Head := (winV x p (wordD t p)).to
theorem headV_eq {t : Text} {x : Lexicon} (h : OkD x) : headAt t x = headV t x := by
 funext p
 rw [headAt, headV, winV_eq h]
def entryV (t : Text) (x : Lexicon) (p : Place) : Entry := ⟨p, wordD t p, headV t x p⟩
def headsV (t : Text) (x : Lexicon) : List Head := (placesT t).map (headV t x)
def entriesV (t : Text) (x : Lexicon) : List Entry := (placesT t).map (entryV t x)
theorem headsV_eq {t : Text} {x : Lexicon} (h : OkD x) : headsL t x = headsV t x := by rw [headsL, headsV, headV_eq h]
theorem entriesV_eq {t : Text} {x : Lexicon} (h : OkD x) : entriesL t x = entriesV t x := by
 rw [entriesL, entriesV]
 refine List.map_congr_left fun p _ => ?_
 rw [entryAt, entryV, headV_eq h]
def underV (t : Text) (x : Lexicon) (hd : Head) : List Place := (placesT t).filter fun p => decide (headV t x p = hd)
theorem underV_eq {t : Text} {x : Lexicon} {hd : Head} (h : OkD x) : underP t x hd = underV t x hd := by rw [underP, underV, headV_eq h]
def homV (t : Text) (x : Lexicon) : List Str := setL sLt (homsN (entriesV t x) (placesT t).length)
theorem homV_eq {t : Text} {x : Lexicon} (h : checkN t x = 0) : homR t x = homV t x := by
 rw [homR, if_pos h, homV, entries_length, entriesV_eq (okD_of h)]
def idleV (t : Text) (x : Lexicon) (n : Int) : Bool := decide ((lessX x n).decisions.length < x.decisions.length) && decide (headsV t (lessX x n) = headsV t x)
theorem idleV_eq {t : Text} {x : Lexicon} (h : checkN t x = 0) : idleN t x = ((List.range 999).map natI).filter (idleV t x) := by
 rw [idleN, if_pos h, idleR, idleK]
 refine List.filter_congr fun n _ => ?_
 rw [idleB, idleV, headsV_eq (okD_of h), headsV_eq (okD_of (lessX_check h n))]
def changesV (t : Text) (x y : Lexicon) : List Place := (placesT t).filter fun p => decide (headV t y p ≠ headV t x p)
theorem changesV_eq {t : Text} {x y : Lexicon} {d : Decision} (h : addE t x d = 0) (hy : addX x d = y) : changesR t x d = changesV t x y := by
 obtain ⟨h1, _, h3⟩ := addE_zero h
 have h4 := addX_check h3
 rw [changesR, if_pos h, changesP, headV_eq (okD_of h1), headV_eq (okD_of h4), hy]; rfl
theorem addX_eq {x : Lexicon} {d : Decision} {ys : List Decision} (hp : ys.Perm (x.decisions ++ [d])) (hs : ys.Pairwise fun a b => a.number ≤ b.number) (hn : ((x.decisions ++ [d]).map (·.number)).Nodup) : addX x d = ⟨x.rules, ys⟩ := by
 rw [addX, ← ascD_eq hp hs hn]
/-- the chapter's text and lexicon -/
def wThe : Str := [116, 104, 101]
def wSea : Str := [115, 101, 97]
def wSee : Str := [115, 101, 101]
def wIs : Str := [105, 115]
def wOld : Str := [111, 108, 100]
def wOlde : Str := [111, 108, 100, 101]
def wAnd : Str := [97, 110, 100]
def wAge : Str := [97, 103, 101]
def textE : Text := ⟨[⟨7, [[wThe, wSea, wIs, wOld], [wOld, wThe, wSea]]⟩, ⟨3, [[wSea, wAnd, wSea]]⟩]⟩
def rulesE : List Rule := [⟨[115], [], 2⟩, ⟨[108, 100], [108, 100, 101], 1⟩]
def d1E : Decision := ⟨1, 1, wSea, zPlace, ⟨wSea, 1⟩, 0⟩
def d2E : Decision := ⟨2, 2, wOld, ⟨0, 1, 0⟩, ⟨wAge, 3⟩, 0⟩
def d3E : Decision := ⟨3, 3, [], ⟨1, 0, 2⟩, ⟨wSee, 2⟩, 0⟩
def d4E : Decision := ⟨4, 1, wSea, zPlace, ⟨wSee, 2⟩, 0⟩
def d5E : Decision := ⟨5, 4, [], zPlace, zHead, 3⟩
def lexE (more : List Decision) : Lexicon := ⟨rulesE, [d1E, d2E, d3E] ++ more⟩
theorem checkE : checkN textE (lexE []) = 0 := by decide +kernel
theorem checkE4 : checkN textE (lexE [d4E]) = 0 := by decide +kernel
theorem checkE5 : checkN textE (lexE [d5E]) = 0 := by decide +kernel
theorem stepsE_old : stepsR textE (lexE []) wOld = [wOld, wOlde] ∧ stepsE textE (lexE []) wOld = 0 := by decide +kernel
theorem under_ok {t : Text} {x : Lexicon} {hd : Head} {l : List Place} (hx : checkN t x = 0) (hh : headB hd = true) (h : underV t x hd = l) (hl : l ≠ []) : underE t x hd = 0 ∧ underR t x hd = l := by
 have e : underP t x hd = l := by rw [underV_eq (okD_of hx)]; exact h
 have e1 : underE t x hd = 0 := by rw [underE, if_pos hx, if_pos hh, e, if_neg hl]
 exact ⟨e1, by rw [underR, if_pos e1, e]⟩
theorem under_none {t : Text} {x : Lexicon} {hd : Head} (hx : checkN t x = 0) (hh : headB hd = true) (h : underV t x hd = []) : underE t x hd = 6 := by
 rw [underE, if_pos hx, if_pos hh, underV_eq (okD_of hx), h, if_pos rfl]
theorem underE_sea : underE textE (lexE []) ⟨wSea, 1⟩ = 0 ∧ underR textE (lexE []) ⟨wSea, 1⟩ = [⟨0, 0, 1⟩, ⟨0, 1, 2⟩, ⟨1, 0, 0⟩] := under_ok checkE (by decide +kernel) (by decide +kernel) (by simp)
theorem homE : homR textE (lexE []) = [wOld, wSea] := by rw [homV_eq checkE]; decide +kernel
theorem addE4 : addE textE (lexE []) d4E = 0 := by decide +kernel
theorem addE54 : addE textE (lexE [d5E]) d4E = 0 := by decide +kernel
theorem addX4 : addX (lexE []) d4E = lexE [d4E] := addX_eq (ys := [d1E, d2E, d3E, d4E]) (List.Perm.refl _) (by decide +kernel) (by decide +kernel)
theorem addX54 : addX (lexE [d5E]) d4E = lexE [d4E, d5E] := addX_eq (ys := [d1E, d2E, d3E, d4E, d5E]) (by decide +kernel) (by decide +kernel) (by decide +kernel)
theorem changesE4 : changesR textE (lexE []) d4E = [⟨0, 0, 1⟩, ⟨0, 1, 2⟩, ⟨1, 0, 0⟩] := by rw [changesV_eq addE4 addX4]; decide +kernel
theorem idleE4 : idleN textE (lexE [d4E]) = [1, 3] := by rw [idleV_eq checkE4]; decide +kernel
theorem standingE5 : standingN textE (lexE [d5E]) = [1, 2, 5] := by decide +kernel
theorem askR_eq {t : Text} {x : Lexicon} {p : Place} (hx : checkN t x = 0) (hp : placeB t p = true) : askR t x p = winV x p (wordD t p) := by rw [askR, if_pos ⟨hx, hp⟩, winV_eq (okD_of hx)]
theorem askE_eq {t : Text} {x : Lexicon} {p : Place} (hx : checkN t x = 0) (hp : placeB t p = true) : askE t x p = 0 := by rw [askE, if_pos hx, if_pos hp]
theorem ask1 : askR textE (lexE []) ⟨0, 0, 3⟩ = { zDecision with to := ⟨wOlde, 0⟩ } ∧ askE textE (lexE []) ⟨0, 0, 3⟩ = 0 := ⟨by rw [askR_eq checkE (by decide +kernel)]; decide +kernel, askE_eq checkE (by decide +kernel)⟩
theorem ask2 : askR textE (lexE []) ⟨0, 1, 0⟩ = d2E ∧ askE textE (lexE []) ⟨0, 1, 0⟩ = 0 := ⟨by rw [askR_eq checkE (by decide +kernel)]; decide +kernel, askE_eq checkE (by decide +kernel)⟩
theorem ask3 : askR textE (lexE []) ⟨1, 0, 2⟩ = d3E ∧ askE textE (lexE []) ⟨1, 0, 2⟩ = 0 := ⟨by rw [askR_eq checkE (by decide +kernel)]; decide +kernel, askE_eq checkE (by decide +kernel)⟩
end Go.Pk

namespace Go.Pk
open Go Go.RowKit
theorem stepsN_len (rs : List Rule) : ∀ (n : Nat) (w : Str), 1 ≤ (stepsN rs n w).length ∧ (stepsN rs n w).length ≤ n + 1
 | 0, w => by simp [stepsN]
 | n + 1, w => by
  simp only [stepsN]
  split
  ·simp
  ·rename_i s _
   have := stepsN_len rs n s
   simp only [List.length_cons]; omega
theorem stepsN_head (rs : List Rule) (n : Nat) (w : Str) : (stepsN rs n w)[0]? = some w := by
 cases n with
 | zero => rfl
 | succ n => simp only [stepsN]; split <;> rfl
theorem stepsN_next {rs : List Rule} : ∀ {n : Nat} {w : Str} {i : Nat} {u v : Str}, (stepsN rs n w)[i]? = some u → (stepsN rs n w)[i + 1]? = some v → stepOf rs u = some v
 | 0, w, i, u, v, h1, h2 => by simp [stepsN] at h2
 | n + 1, w, i, u, v, h1, h2 => by
  simp only [stepsN] at h1 h2
  split at h1
  ·rename_i h; rw [h] at h2; simp at h2
  ·rename_i s h
   rw [h] at h2
   simp only [List.getElem?_cons_succ] at h2
   cases i with
   | zero =>
    simp at h1; subst h1
    rw [stepsN_head] at h2; cases h2; exact h
   | succ i =>
    simp only [List.getElem?_cons_succ] at h1
    exact stepsN_next h1 h2
theorem stepsN_last {rs : List Rule} : ∀ {n : Nat} {w : Str} {i : Nat} {u s : Str}, (stepsN rs n w)[i]? = some u → (stepsN rs n w).length = i + 1 → stepOf rs u = some s → (stepsN rs n w).length = n + 1
 | 0, w, i, u, s, h1, h2, h3 => by simp [stepsN]
 | n + 1, w, i, u, s, h1, h2, h3 => by
  simp only [stepsN] at h1 h2 ⊢
  split at h1
  ·rename_i h
   rw [h] at h2
   simp at h2; subst h2
   simp at h1; subst h1
   rw [h] at h3; cases h3
  ·rename_i q h
   rw [h] at h2
   simp only [List.length_cons] at h2 ⊢
   cases i with
   | zero =>
    have := (stepsN_len rs n q).1
    omega
   | succ i =>
    simp only [List.getElem?_cons_succ] at h1
    rw [stepsN_last h1 (by omega) h3]
theorem made_word {r : Rule} {w s : Str} (hr : ruleB r = true) (hw : wordB w = true) (h : made r w = some s) : wordB s = true := by
 unfold made at h
 split at h
 ·rename_i h1
  cases h
  simp only [ruleB, Bool.and_eq_true, lettersB, inB, decide_eq_true_eq] at hr
  simp only [wordB, lettersB, inB, Bool.and_eq_true, decide_eq_true_eq, List.all_eq_true] at hw ⊢
  refine ⟨?_, ?_⟩
  ·intro c hc
   rcases List.mem_append.1 hc with hc | hc
   ·exact hw.1 c (List.mem_of_mem_take hc)
   ·exact List.all_eq_true.1 hr.1.1.2.1 c hc
  ·rw [List.length_append, List.length_take]
   have := hr.2
   omega
 ·cases h
theorem stepsN_word {rs : List Rule} (hr : ∀ r ∈ rs, ruleB r = true) : ∀ (n : Nat) (w : Str), wordB w = true → ∀ s ∈ stepsN rs n w, wordB s = true
 | 0, w, hw, s, hs => by simp [stepsN] at hs; subst hs; exact hw
 | n + 1, w, hw, s, hs => by
  simp only [stepsN] at hs
  split at hs
  ·simp at hs; subst hs; exact hw
  ·rename_i u hu
   rcases List.mem_cons.1 hs with rfl | hs
   ·exact hw
   ·obtain ⟨r, hr1, hr2⟩ := List.exists_of_findSome?_eq_some hu
    exact stepsN_word hr n u (made_word (hr r hr1) hw hr2) s hs
theorem lexicon_rs {t : Text} {x : Lexicon} (h : checkN t x = 0) : ∀ r ∈ x.rules, ruleB r = true := by
 have h1 := (lexicon_of h).2
 simp only [lexiconB, Bool.and_eq_true, List.all_eq_true] at h1
 exact h1.1.1.2
theorem bare_check {t : Text} {x : Lexicon} (h : checkN t x = 0) : checkN t ⟨x.rules, []⟩ = 0 :=
 lexiconB_of h rfl (by simp) (by simp) (by simp)
/-- all that a lexicon gives hangs on its decisions as a set -/
theorem standsF_perm {x y : Lexicon} (h : y.decisions.Perm x.decisions) : ∀ n d, standsF y n d = standsF x n d
 | 0, _ => rfl
 | n + 1, d => by
  simp only [standsF]
  rw [h.all_eq]
  congr 1
  funext v
  rw [standsF_perm h n v]
theorem standsB_perm {x y : Lexicon} (h : y.decisions.Perm x.decisions) : standsB y = standsB x := by
 funext d; exact standsF_perm h 1000 d
theorem okD_perm {x y : Lexicon} (h : y.decisions.Perm x.decisions) (hx : OkD x) : OkD y :=
 ⟨(h.map _).nodup_iff.2 hx.1, fun v hv => hx.2 v (h.mem_iff.1 hv)⟩
/-- which decisions count at a place -/
def countV (x : Lexicon) (p : Place) (wd : Str) : List Decision := (x.decisions.filter (standsB x)).filter fun d => concB d p wd
theorem winV_of {x y : Lexicon} {p : Place} {wd : Str} (hr : y.rules = x.rules) (hx : OkD x) (h : (countV y p wd).Perm (countV x p wd)) : winV y p wd = winV x p wd := by
 have e : bestOf (countV y p wd) = bestOf (countV x p wd) := by
  refine bestOf_perm h ?_ ?_
  ·intro z hz
   exact (hx.2 _ (List.mem_filter.1 (List.mem_filter.1 hz).1).1).1
  ·exact ((List.filter_sublist.trans List.filter_sublist).map _).nodup hx.1
 simp only [countV] at e
 rw [winV, winV, e, hr]
theorem countV_perm {x y : Lexicon} (h : y.decisions.Perm x.decisions) (p : Place) (wd : Str) : (countV y p wd).Perm (countV x p wd) := by
 rw [countV, countV, standsB_perm h]
 exact (h.filter _).filter _
theorem winD_perm {x y : Lexicon} (hr : y.rules = x.rules) (hx : OkD x) (h : y.decisions.Perm x.decisions) : winD y = winD x := by
 funext p wd
 rw [winV_eq hx, winV_eq (okD_perm h hx), winV_of hr hx (countV_perm h p wd)]
theorem heads_perm {t : Text} {x y : Lexicon} (hr : y.rules = x.rules) (hx : OkD x) (h : y.decisions.Perm x.decisions) : headAt t y = headAt t x := by
 funext p
 rw [headAt, headAt, winD_perm hr hx h]
end Go.Pk

namespace Go.Pk
open Go Go.RowKit
/-- the numbers of the decisions that stand -/
def standS (x : Lexicon) : List Int := (standingR x).map (·.number)
theorem standS_mem {x : Lexicon} (hx : OkD x) {n : Int} : n ∈ standS x ↔ ∃ d ∈ x.decisions, d.number = n ∧ standsB x d = true := by
 simp only [standS, standingR, List.mem_map, List.mem_flatMap, List.mem_range, standAt_mem]
 constructor
 ·rintro ⟨d, ⟨k, _, h1, _, h3⟩, rfl⟩; exact ⟨d, h1, rfl, h3⟩
 ·rintro ⟨d, h1, rfl, h3⟩
  have h4 := hx.2 _ h1
  exact ⟨d, ⟨(d.number - 1).toNat, by omega, h1, by omega, h3⟩, rfl⟩
theorem standS_at {x : Lexicon} (hx : OkD x) {d : Decision} (hd : d ∈ x.decisions) : d.number ∈ standS x ↔ standsB x d = true := by
 rw [standS_mem hx]
 constructor
 ·rintro ⟨e, h1, h2, h3⟩
  rw [← nodup_key hx.1 h1 hd h2]; exact h3
 ·intro h; exact ⟨d, hd, rfl, h⟩
theorem standS_sorted {x : Lexicon} (hx : OkD x) : (standS x).Pairwise fun a b => a < b := (standing_sorted hx.1 999).1
theorem standN_eq {t : Text} {x : Lexicon} (h : checkN t x = 0) : standingN t x = standS x := by rw [standingN, if_pos h]; rfl
theorem standS_perm {x y : Lexicon} (hx : OkD x) (h : y.decisions.Perm x.decisions) : standS y = standS x := by
 have hy := okD_perm h hx
 have n1 : (standS y).Nodup := (standS_sorted hy).imp fun h => by omega
 have n2 : (standS x).Nodup := (standS_sorted hx).imp fun h => by omega
 refine List.Perm.eq_of_pairwise (le := fun a b : Int => a ≤ b) (fun a b _ _ h1 h2 => by omega) ((standS_sorted hy).imp fun h => by omega) ((standS_sorted hx).imp fun h => by omega) ((List.perm_ext_iff_of_nodup n1 n2).2 fun n => ?_)
 rw [standS_mem hy, standS_mem hx, standsB_perm h]
 constructor
 ·rintro ⟨d, h1, h2⟩; exact ⟨d, h.mem_iff.1 h1, h2⟩
 ·rintro ⟨d, h1, h2⟩; exact ⟨d, h.mem_iff.2 h1, h2⟩
/-- what is taken out of a list, in step with it -/
def cntQ {α : Type} (q : α → Bool) (l : List α) (i : Nat) : Nat := ((l.take i).filter q).length
theorem cntQ_succ {α : Type} {q : α → Bool} {l : List α} {i : Nat} {p : α} (h : l[i]? = some p) : cntQ q l (i + 1) = cntQ q l i + if q p = true then 1 else 0 := by
 rw [cntQ, take_snoc h, List.filter_append, List.length_append, List.filter_cons]
 split <;> simp [cntQ]
theorem cntQ_all {α : Type} {q : α → Bool} {l : List α} {i : Nat} (h : l.length ≤ i) : cntQ q l i = (l.filter q).length := by rw [cntQ, List.take_of_length_le h]
theorem cntQ_at {α : Type} {q : α → Bool} {l : List α} {i : Nat} {p : α} (h : l[i]? = some p) : (l.filter q)[cntQ q l i]? = some p ↔ q p = true := by
 have e : l.filter q = (l.take i).filter q ++ (l.drop i).filter q := by rw [← List.filter_append, List.take_append_drop]
 rw [e, cntQ, List.getElem?_append_right (Nat.le_refl _), Nat.sub_self, drop_cons h, List.filter_cons]
 split
 ·rename_i hq; simp [hq]
 ·rename_i hq
  refine ⟨fun q2 => ?_, fun q2 => absurd q2 hq⟩
  have h1 : p ∈ (l.drop (i + 1)).filter q := List.mem_of_getElem? q2
  exact (List.mem_filter.1 h1).2
theorem cntQ_le {α : Type} {q : α → Bool} {l : List α} (i : Nat) : cntQ q l i ≤ (l.filter q).length := by
 rw [cntQ]
 exact ((List.take_sublist i l).filter q).length_le
/-- with one more -/
theorem addX_perm (x : Lexicon) (d : Decision) : (addX x d).decisions.Perm (x.decisions ++ [d]) := ascD_perm _
theorem addX_ok {t : Text} {x : Lexicon} {d : Decision} (h : addE t x d = 0) : OkD x ∧ OkD (addX x d) ∧ ∀ e ∈ x.decisions, e.number ≠ d.number := by
 obtain ⟨h1, _, h3⟩ := addE_zero h
 refine ⟨okD_of h1, okD_of (addX_check h3), fun e he => ?_⟩
 have hn := (okD_of h3).1
 simp only [moreX, List.map_append, List.map_cons, List.map_nil] at hn
 exact (List.nodup_append.1 hn).2.2 _ (List.mem_map_of_mem he) _ (by simp)
theorem mem_addX {x : Lexicon} {d e : Decision} : e ∈ (addX x d).decisions ↔ e ∈ x.decisions ∨ e = d := by
 rw [(addX_perm x d).mem_iff, List.mem_append]; simp
theorem countV_nodup {x : Lexicon} (hx : OkD x) (p : Place) (wd : Str) : (countV x p wd).Nodup := nodup_of_map _ (((List.filter_sublist.trans List.filter_sublist).map _).nodup hx.1)
theorem countV_mem {x : Lexicon} {p : Place} {wd : Str} {e : Decision} : e ∈ countV x p wd ↔ e ∈ x.decisions ∧ standsB x e = true ∧ concB e p wd = true := by
 simp only [countV, List.mem_filter]
 constructor
 ·rintro ⟨⟨a, b⟩, c⟩; exact ⟨a, b, c⟩
 ·rintro ⟨a, b, c⟩; exact ⟨⟨a, b⟩, c⟩
theorem headAt_winV {t : Text} {x : Lexicon} (hx : OkD x) (p : Place) : headAt t x p = (winV x p (wordD t p)).to := by rw [headAt, winV_eq hx]
/-- a place that changes is one that a decision concerns which stands in one of both alone -/
theorem conc_differs {t : Text} {x : Lexicon} {d : Decision} (h : addE t x d = 0) {p : Place} (hp : headAt t (addX x d) p ≠ headAt t x p) :
  ∃ o ∈ (addX x d).decisions, decide (o.number ∈ standS x) ≠ decide (o.number ∈ standS (addX x d)) ∧ concB o p (wordD t p) = true := by
 obtain ⟨hx, hy, hd⟩ := addX_ok h
 refine Classical.byContradiction fun hno => hp ?_
 have hall : ∀ o ∈ (addX x d).decisions, concB o p (wordD t p) = true → (o.number ∈ standS x ↔ o.number ∈ standS (addX x d)) := by
  intro o ho hc
  have : ¬ decide (o.number ∈ standS x) ≠ decide (o.number ∈ standS (addX x d)) := fun hne => hno ⟨o, ho, hne, hc⟩
  simpa using this
 rw [headAt_winV hx, headAt_winV hy]
 congr 1
 refine winV_of rfl hx ((List.perm_ext_iff_of_nodup (countV_nodup hy _ _) (countV_nodup hx _ _)).2 fun e => ?_)
 rw [countV_mem, countV_mem]
 constructor
 ·rintro ⟨h1, h2, h3⟩
  have h4 := (hall e h1 h3).2 ((standS_at hy h1).2 h2)
  rcases mem_addX.1 h1 with h5 | rfl
  ·exact ⟨h5, (standS_at hx h5).1 h4, h3⟩
  ·obtain ⟨f, f1, f2, _⟩ := (standS_mem hx).1 h4
   exact absurd f2 (hd f f1)
 ·rintro ⟨h1, h2, h3⟩
  have h5 : e ∈ (addX x d).decisions := mem_addX.2 (.inl h1)
  exact ⟨h5, (standS_at hy h5).1 ((hall e h5 h3).1 ((standS_at hx h1).2 h2)), h3⟩
theorem standsF_more {x : Lexicon} {d : Decision} (hk : d.kind ≠ 4) : ∀ n e, standsF (addX x d) n e = standsF x n e
 | 0, _ => rfl
 | n + 1, e => by
  simp only [standsF]
  rw [(addX_perm x d).all_eq, List.all_append]
  simp only [List.all_cons, List.all_nil, hk, decide_false, Bool.false_and, Bool.not_false, Bool.and_true]
  congr 1
  funext v
  rw [standsF_more hk n v]
/-- by the new decision itself, if it makes none void -/
theorem conc_by {t : Text} {x : Lexicon} {d : Decision} (h : addE t x d = 0) (hk : d.kind ≠ 4) {p : Place} (hp : headAt t (addX x d) p ≠ headAt t x p) :
  winD (addX x d) p (wordD t p) = d := by
 obtain ⟨hx, hy, hd⟩ := addX_ok h
 rw [headAt_winV hx, headAt_winV hy] at hp
 rw [winV_eq hy]
 have hs : ∀ e, standsB (addX x d) e = standsB x e := fun e => standsF_more hk 1000 e
 have hsub : ∀ e ∈ countV x p (wordD t p), e ∈ countV (addX x d) p (wordD t p) := by
  intro e he
  obtain ⟨h1, h2, h3⟩ := countV_mem.1 he
  exact countV_mem.2 ⟨mem_addX.2 (.inl h1), by rw [hs]; exact h2, h3⟩
 have hback : ∀ e ∈ countV (addX x d) p (wordD t p), e ≠ d → e ∈ countV x p (wordD t p) := by
  intro e he hne
  obtain ⟨h1, h2, h3⟩ := countV_mem.1 he
  exact countV_mem.2 ⟨(mem_addX.1 h1).resolve_right hne, by rw [← hs]; exact h2, h3⟩
 have hpy : ∀ z ∈ countV (addX x d) p (wordD t p), 1 ≤ z.number := fun z hz => (hy.2 _ (countV_mem.1 hz).1).1
 have hpx : ∀ z ∈ countV x p (wordD t p), 1 ≤ z.number := fun z hz => (hx.2 _ (countV_mem.1 hz).1).1
 have hny : ((countV (addX x d) p (wordD t p)).map (·.number)).Nodup := ((List.filter_sublist.trans List.filter_sublist).map _).nodup hy.1
 have hnx : ((countV x p (wordD t p)).map (·.number)).Nodup := ((List.filter_sublist.trans List.filter_sublist).map _).nodup hx.1
 have key : bestOf (countV (addX x d) p (wordD t p)) = d := by
  refine Classical.byContradiction fun hne => hp ?_
  have e : bestOf (countV (addX x d) p (wordD t p)) = bestOf (countV x p (wordD t p)) := by
   by_cases hcy : countV (addX x d) p (wordD t p) = []
   ·have hcx : countV x p (wordD t p) = [] := by
     cases hc : countV x p (wordD t p) with
     | nil => rfl
     | cons e l => have := hsub e (by rw [hc]; exact List.mem_cons_self ..); rw [hcy] at this; cases this
    rw [hcy, hcx]
   ·have hby := bestOf_pos hpy hcy
    have hbx0 := hback _ hby.2 hne
    have hcx : countV x p (wordD t p) ≠ [] := fun q => by rw [q] at hbx0; cases hbx0
    have hbx := bestOf_pos hpx hcx
    refine Classical.byContradiction fun hne2 => ?_
    have a := bestOf_best hpx hnx _ hbx0 hne2
    have b := bestOf_best hpy hny _ (hsub _ hbx.2) (Ne.symm hne2)
    exact lexD_irrefl _ (lexD_trans a b)
  simp only [countV] at e
  rw [winV, winV, e]; rfl
 have hn : d.number ≠ 0 := by
  have := (hy.2 d (mem_addX.2 (.inr rfl))).1
  omega
 simp only [countV] at key
 rw [winV, key, if_neg hn]
theorem add_cases {t : Text} {x : Lexicon} {d : Decision} (h : checkN t x = 0) (he : addE t x d ≠ 0) : (addE t x d = 9 ∧ x.decisions.length = 20) ∨ addE t x d = 41 := by
 by_cases h2 : x.decisions.length = 20
 ·exact .inl ⟨(addE_full h h2).1, h2⟩
 ·by_cases h3 : checkN t (moreX x d) = 0
  ·exact absurd (addE_ok h h2 h3).1 he
  ·exact .inr (addE_err h h2 h3).1
/-- swaps -/
theorem swap_perm {α : Type} {ds : List α} {i k : Nat} {a b : α} (hi : ds[i]? = some b) (hk : ds[k]? = some a) : ((ds.set i a).set k b).Perm ds := by
 have aux : ∀ {i k : Nat} {a b : α}, i < k → ds[i]? = some b → ds[k]? = some a → ((ds.set i a).set k b).Perm ds := by
  intro i k a b hlt hi hk
  obtain ⟨h1, _⟩ := List.getElem?_eq_some_iff.1 hi
  obtain ⟨h2, _⟩ := List.getElem?_eq_some_iff.1 hk
  have hl : (ds.take i).length = i := by rw [List.length_take]; omega
  obtain ⟨m, rfl⟩ : ∃ m, k = i + 1 + m := ⟨k - i - 1, by omega⟩
  have hk2 : (ds.drop (i + 1))[m]? = some a := by rw [List.getElem?_drop]; exact hk
  have hlm : ((ds.drop (i + 1)).take m).length = m := by rw [List.length_take, List.length_drop]; omega
  have e : ds = ds.take i ++ b :: ((ds.drop (i + 1)).take m ++ a :: (ds.drop (i + 1)).drop (m + 1)) := by
   rw [← drop_cons hk2, List.take_append_drop, ← drop_cons hi, List.take_append_drop]
  have e2 : (ds.set i a).set (i + 1 + m) b = ds.take i ++ a :: ((ds.drop (i + 1)).take m ++ b :: (ds.drop (i + 1)).drop (m + 1)) := by
   conv => lhs; rw [e]
   rw [List.set_append_right _ _ (by omega), hl, Nat.sub_self, List.set_cons_zero, List.set_append_right _ _ (by omega), hl, show i + 1 + m - i = m + 1 by omega, List.set_cons_succ, List.set_append_right _ _ (by omega), hlm, Nat.sub_self, List.set_cons_zero]
  rw [e2]
  conv => rhs; rw [e]
  refine List.Perm.append_left _ ?_
  refine (List.Perm.cons a List.perm_middle).trans ((List.Perm.swap b a _).trans (List.Perm.cons b List.perm_middle.symm))
 rcases Nat.lt_trichotomy i k with h | rfl | h
 ·exact aux h hi hk
 ·have e : b = a := by rw [hi] at hk; exact Option.some.inj hk
  subst e
  rw [List.set_set]
  have : ds.set i b = ds := by
   apply List.ext_getElem?
   intro j
   rw [List.getElem?_set]
   split
   ·rename_i e; subst e
    split
    ·exact hi.symm
    ·rename_i hlt; exact absurd (List.getElem?_eq_some_iff.1 hi).1 hlt
   ·rfl
  rw [this]
 ·have := aux h hk hi
  rw [List.set_comm _ _ (by omega)]
  exact this
theorem lessX_perm {x y : Lexicon} (h : y.decisions.Perm x.decisions) (n : Int) : (lessX y n).decisions.Perm (lessX x n).decisions := h.filter _
theorem lessX_ok {x : Lexicon} (h : OkD x) (n : Int) : OkD (lessX x n) := ⟨(List.filter_sublist.map _).nodup h.1, fun v hv => h.2 v (List.mem_filter.1 hv).1⟩
theorem idleR_perm {t : Text} {x y : Lexicon} (hr : y.rules = x.rules) (hx : OkD x) (h : y.decisions.Perm x.decisions) : idleR t y = idleR t x := by
 rw [idleR, idleR, idleK, idleK]
 refine List.filter_congr fun n _ => ?_
 rw [idleB, idleB, (lessX_perm h n).length_eq, h.length_eq, headsL, headsL, headsL, headsL, heads_perm (t := t) (y := lessX y n) (x := lessX x n) hr (lessX_ok hx n) (lessX_perm h n), heads_perm (t := t) hr hx h]
theorem perm_check {t : Text} {x y : Lexicon} (h : checkN t x = 0) (hr : y.rules = x.rules) (hp : y.decisions.Perm x.decisions) : checkN t y = 0 :=
 lexiconB_of h hr (fun d hd => lexicon_dec h d (hp.mem_iff.1 hd)) (by rw [hp.length_eq]; exact lexicon_20 h) ((hp.map _).nodup_iff.2 (okD_of h).1)
end Go.Pk

namespace Go.Pk
open Go Go.RowKit
theorem winV_none {x : Lexicon} {p : Place} {wd : Str} (h : countV x p wd = []) : winV x p wd = { zDecision with to := ⟨((stepsN x.rules 4 wd).getLast?).getD [], 0⟩ } := by
 simp only [countV] at h
 rw [winV, h, if_pos (show (bestOf []).number = 0 from rfl)]
theorem winV_some {x : Lexicon} (hx : OkD x) {p : Place} {wd : Str} (h : countV x p wd ≠ []) : winV x p wd = bestOf (countV x p wd) ∧ bestOf (countV x p wd) ∈ countV x p wd ∧ ∀ y ∈ countV x p wd, y ≠ bestOf (countV x p wd) → lexD y (bestOf (countV x p wd)) := by
 have hp : ∀ z ∈ countV x p wd, 1 ≤ z.number := fun z hz => (hx.2 _ (countV_mem.1 hz).1).1
 have hn : ((countV x p wd).map (·.number)).Nodup := ((List.filter_sublist.trans List.filter_sublist).map _).nodup hx.1
 have hb := bestOf_pos hp h
 refine ⟨?_, hb.2, bestOf_best hp hn⟩
 have h1 := hb.1
 simp only [countV] at h1 ⊢
 rw [winV, if_neg (by omega)]
theorem wins_none {x : Lexicon} (hx : OkD x) {p : Place} {wd : Str} (h : ∀ d ∈ x.decisions, ¬ (d.number ∈ standS x ∧ concB d p wd = true)) : winD x p wd = { zDecision with to := ⟨((stepsN x.rules 4 wd).getLast?).getD [], 0⟩ } := by
 rw [winV_eq hx]
 refine winV_none ?_
 cases hc : countV x p wd with
 | nil => rfl
 | cons e l =>
  obtain ⟨h1, h2, h3⟩ := countV_mem.1 (show e ∈ countV x p wd by rw [hc]; exact List.mem_cons_self ..)
  exact absurd ⟨(standS_at hx h1).2 h2, h3⟩ (h e h1)
theorem wins_some {x : Lexicon} (hx : OkD x) {p : Place} {wd : Str} {d : Decision} (hd : d ∈ x.decisions) (h1 : d.number ∈ standS x) (h2 : concB d p wd = true) :
  winD x p wd ∈ x.decisions ∧ 1 ≤ (winD x p wd).number ∧ (winD x p wd).number ∈ standS x ∧ concB (winD x p wd) p wd = true ∧ ∀ e ∈ x.decisions, e.number ∈ standS x → concB e p wd = true → e.number ≠ (winD x p wd).number → lexD e (winD x p wd) := by
 rw [winV_eq hx]
 have hne : countV x p wd ≠ [] := by
  intro q
  have : d ∈ countV x p wd := countV_mem.2 ⟨hd, (standS_at hx hd).1 h1, h2⟩
  rw [q] at this; cases this
 obtain ⟨e1, e2, e3⟩ := winV_some hx hne
 rw [e1]
 obtain ⟨a1, a2, a3⟩ := countV_mem.1 e2
 refine ⟨a1, (hx.2 _ a1).1, (standS_at hx a1).2 a2, a3, fun e he hs hc hn => ?_⟩
 exact e3 e (countV_mem.2 ⟨he, (standS_at hx he).1 hs, hc⟩) (fun q => hn (by rw [q]))
/-- what lexD says in the law's words -/
theorem lexD_law {d w : Decision} (h : lexD d w) : ¬ w.kind < d.kind ∧ (¬ d.kind < w.kind → d.kind = 2 → d.at_ ≠ w.at_ → beforeB w.at_ d.at_ = false) ∧ (¬ d.kind < w.kind → ¬ (d.kind = 2 ∧ d.at_ ≠ w.at_) → ¬ w.number < d.number) := by
 rcases d with ⟨n1, k1, f1, ⟨c1, l1, w1⟩, t1, o1⟩; rcases w with ⟨n2, k2, f2, ⟨c2, l2, w2⟩, t2, o2⟩
 simp only [lexD, Place.mk.injEq, beforeB, ne_eq] at *
 refine ⟨by omega, fun h1 h2 h3 => ?_, fun h1 h2 => by omega⟩
 by_cases q1 : c2 = c1
 ·by_cases q2 : l2 = l1
  ·simp only [q1, q2, ne_eq, not_true_eq_false, if_false, decide_eq_false_iff_not]; omega
  ·simp only [q1, q2, ne_eq, not_true_eq_false, not_false_eq_true, if_false, if_true, decide_eq_false_iff_not]; omega
 ·simp only [q1, ne_eq, not_false_eq_true, if_true, decide_eq_false_iff_not]; omega
/-- the same decisions stand, where what makes them void is the same -/
theorem stands_same {x y : Lexicon} (hx : OkD x) (hy : OkD y) {P : Decision → Prop} (hP : ∀ e, P e → e ∈ x.decisions ∧ e ∈ y.decisions)
  (h1 : ∀ v ∈ x.decisions, ¬ P v → ∀ e, P e → v.kind = 4 → v.of_ = e.number → standsB x v = false) (h2 : ∀ v ∈ y.decisions, ¬ P v → ∀ e, P e → v.kind = 4 → v.of_ = e.number → standsB y v = false) : ∀ e, P e → standsB x e = standsB y e := by
 have key : ∀ (k : Nat) (e : Decision), 999 - e.number < (k : Int) → P e → standsB x e = standsB y e := by
  intro k
  induction k with
  | zero => intro e he hp; have := (hx.2 e (hP e hp).1).2.1; omega
  | succ k ih =>
   intro e he hp
   obtain ⟨m1, m2⟩ := hP e hp
   rw [standsB_eq hx (hx.2 e m1).1, standsB_eq hy (hy.2 e m2).1, Bool.eq_iff_iff, List.all_eq_true, List.all_eq_true]
   constructor
   ·intro h v hv
    by_cases hk : v.kind = 4
    ·by_cases ho : v.of_ = e.number
     ·rcases Classical.em (P v) with hpv | hpv
      ·have h3 := (hy.2 v hv).2.2 hk
       rw [← ih v (by omega) hpv]
       exact h v (hP v hpv).1
      ·simp [h2 v hv hpv e hp hk ho]
     ·simp [ho]
    ·simp [hk]
   ·intro h v hv
    by_cases hk : v.kind = 4
    ·by_cases ho : v.of_ = e.number
     ·rcases Classical.em (P v) with hpv | hpv
      ·have h3 := (hx.2 v hv).2.2 hk
       rw [ih v (by omega) hpv]
       exact h v (hP v hpv).2
      ·simp [h1 v hv hpv e hp hk ho]
     ·simp [ho]
    ·simp [hk]
 intro e hp
 exact key (999 - e.number).toNat.succ e (by have := (hx.2 e (hP e hp).1).2.1; omega) hp
/-- a decision that nothing makes void stands -/
theorem stands_free {x : Lexicon} (hx : OkD x) {d : Decision} (hd : 1 ≤ d.number) (h : ∀ v ∈ x.decisions, v.kind = 4 → v.of_ ≠ d.number) : standsB x d = true := by
 rw [standsB_eq hx hd, List.all_eq_true]
 intro v hv
 by_cases hk : v.kind = 4
 ·simp [h v hv hk]
 ·simp [hk]
theorem stands_not {x : Lexicon} (hx : OkD x) {d v : Decision} (hd : 1 ≤ d.number) (hv : v ∈ x.decisions) (hk : v.kind = 4) (ho : v.of_ = d.number) (hs : standsB x v = true) : standsB x d = false := by
 rw [standsB_eq hx hd, List.all_eq_false]
 exact ⟨v, hv, by simp [hk, ho, hs]⟩
theorem conc_void {d : Decision} (h : d.kind = 4) (p : Place) (wd : Str) : concB d p wd = false := by simp [concB, h]
def voidD (n o : Int) : Decision := ⟨n, 4, [], zPlace, zHead, o⟩
section
variable {t : Text} {x : Lexicon} {d : Decision} {most : Int}
/-- made void: as if it were not there -/
theorem void_one (hx : OkD x) (hd : d ∈ x.decisions) (hno : ∀ o ∈ x.decisions, o.kind = 4 → o.of_ ≠ d.number) (hm : ∀ o ∈ x.decisions, o.number ≤ most) (hy : OkD (addX x (voidD (most + 1) d.number))) :
  headAt t (addX x (voidD (most + 1) d.number)) = headAt t (lessX x d.number) := by
 have hl := lessX_ok hx d.number
 have hv : voidD (most + 1) d.number ∈ (addX x (voidD (most + 1) d.number)).decisions := mem_addX.2 (.inr rfl)
 have hd1 := (hx.2 d hd).1
 have hdm := hm d hd
 have hsv : standsB (addX x (voidD (most + 1) d.number)) (voidD (most + 1) d.number) = true := by
  refine stands_free hy (show (1 : Int) ≤ most + 1 by omega) fun v hv2 hk => ?_
  show v.of_ ≠ most + 1
  rcases mem_addX.1 hv2 with h | rfl
  ·have h1 := (hx.2 v h).2.2 hk
   have := hm v h
   omega
  ·show d.number ≠ most + 1
   omega
 have hsd : standsB (addX x (voidD (most + 1) d.number)) d = false := stands_not hy hd1 hv rfl rfl hsv
 have hsame : ∀ e, (e ∈ x.decisions ∧ e.number ≠ d.number) → standsB (addX x (voidD (most + 1) d.number)) e = standsB (lessX x d.number) e := by
  refine stands_same hy hl (P := fun e => e ∈ x.decisions ∧ e.number ≠ d.number) (fun e he => ⟨mem_addX.2 (.inl he.1), List.mem_filter.2 ⟨he.1, by simpa using he.2⟩⟩) ?_ ?_
  ·intro v hv2 hpv e he hk ho
   rcases mem_addX.1 hv2 with h | rfl
   ·have : v.number = d.number := Classical.byContradiction fun q => hpv ⟨h, q⟩
    rw [nodup_key hx.1 h hd this]; exact hsd
   ·exact absurd ho.symm he.2
  ·intro v hv2 hpv e he hk ho
   obtain ⟨a, b⟩ := List.mem_filter.1 hv2
   exact absurd ⟨a, by simpa using b⟩ hpv
 funext p
 rw [headAt_winV hy, headAt_winV hl]
 congr 1
 refine winV_of rfl hl ((List.perm_ext_iff_of_nodup (countV_nodup hy _ _) (countV_nodup hl _ _)).2 fun e => ?_)
 rw [countV_mem, countV_mem]
 constructor
 ·rintro ⟨h1, h2, h3⟩
  rcases mem_addX.1 h1 with h4 | rfl
  ·have hne : e.number ≠ d.number := by
    intro q
    rw [nodup_key hx.1 h4 hd q, hsd] at h2; cases h2
   exact ⟨List.mem_filter.2 ⟨h4, by simpa using hne⟩, by rw [← hsame e ⟨h4, hne⟩]; exact h2, h3⟩
  ·rw [conc_void rfl] at h3; cases h3
 ·rintro ⟨h1, h2, h3⟩
  obtain ⟨a, b⟩ := List.mem_filter.1 h1
  exact ⟨mem_addX.2 (.inl a), by rw [hsame e ⟨a, by simpa using b⟩]; exact h2, h3⟩
/-- void once more: it stands again -/
theorem void_two (hx : OkD x) {n o : Int} (hm : ∀ e ∈ x.decisions, e.number < n) (hn : 1 ≤ n) (hon : o < n) (hy : OkD (addX x (voidD n o))) (hz : OkD (addX (addX x (voidD n o)) (voidD (n + 1) n))) :
  headAt t (addX (addX x (voidD n o)) (voidD (n + 1) n)) = headAt t x := by
 have hmem : ∀ e, e ∈ (addX (addX x (voidD n o)) (voidD (n + 1) n)).decisions ↔ (e ∈ x.decisions ∨ e = voidD n o) ∨ e = voidD (n + 1) n := fun e => by rw [mem_addX, mem_addX]
 have hs2 : standsB (addX (addX x (voidD n o)) (voidD (n + 1) n)) (voidD (n + 1) n) = true := by
  refine stands_free hz (show (1 : Int) ≤ n + 1 by omega) fun v hv hk => ?_
  show v.of_ ≠ n + 1
  rcases (hmem v).1 hv with (h | rfl) | rfl
  ·have h1 := (hx.2 v h).2.2 hk
   have := hm v h
   omega
  ·show o ≠ n + 1
   omega
  ·show n ≠ n + 1
   omega
 have hs1 : standsB (addX (addX x (voidD n o)) (voidD (n + 1) n)) (voidD n o) = false := stands_not hz hn ((hmem _).2 (.inr rfl)) rfl rfl hs2
 have hsame : ∀ e, e ∈ x.decisions → standsB (addX (addX x (voidD n o)) (voidD (n + 1) n)) e = standsB x e := by
  refine stands_same hz hx (P := fun e => e ∈ x.decisions) (fun e he => ⟨(hmem e).2 (.inl (.inl he)), he⟩) ?_ (fun v hv hpv => absurd hv hpv)
  intro v hv hpv e he hk ho
  rcases (hmem v).1 hv with (h | rfl) | rfl
  ·exact absurd h hpv
  ·exact hs1
  ·have := hm e he
   have : n = e.number := ho
   omega
 funext p
 rw [headAt_winV hz, headAt_winV hx]
 congr 1
 refine winV_of rfl hx ((List.perm_ext_iff_of_nodup (countV_nodup hz _ _) (countV_nodup hx _ _)).2 fun e => ?_)
 rw [countV_mem, countV_mem, hmem]
 constructor
 ·rintro ⟨(h1 | rfl) | rfl, h2, h3⟩
  ·exact ⟨h1, by rw [← hsame e h1]; exact h2, h3⟩
  ·rw [conc_void rfl] at h3; cases h3
  ·rw [conc_void rfl] at h3; cases h3
 ·rintro ⟨h1, h2, h3⟩
  exact ⟨.inl (.inl h1), by rw [hsame e h1]; exact h2, h3⟩
end
theorem best_remove {l : List Decision} (hp : ∀ y ∈ l, 1 ≤ y.number) (hn : (l.map (·.number)).Nodup) {d : Decision} (hd : bestOf l ≠ d) : bestOf (l.filter fun e => decide (e ≠ d)) = bestOf l := by
 by_cases hl : l = []
 ·subst hl; rfl
 ·have hb := bestOf_pos hp hl
  have hb' : bestOf l ∈ l.filter fun e => decide (e ≠ d) := List.mem_filter.2 ⟨hb.2, by simpa using hd⟩
  have hp' : ∀ y ∈ l.filter (fun e => decide (e ≠ d)), 1 ≤ y.number := fun y hy => hp y (List.mem_filter.1 hy).1
  have hn' : ((l.filter fun e => decide (e ≠ d)).map (·.number)).Nodup := (List.filter_sublist.map _).nodup hn
  have hc := (bestOf_pos hp' (List.ne_nil_of_mem hb')).2
  refine Classical.byContradiction fun hne => ?_
  have a := bestOf_best hp hn _ (List.mem_filter.1 hc).1 hne
  have b := bestOf_best hp' hn' _ hb' (Ne.symm hne)
  exact lexD_irrefl _ (lexD_trans a b)
/-- the same form, decided again: the former decision is idle -/
theorem idle_again {t : Text} {x : Lexicon} {d : Decision} {n : Int} {to : Head} (h : addE t x ⟨n, 1, d.form, zPlace, to, 0⟩ = 0) (hd : d ∈ x.decisions) (hk : d.kind = 1) (hv : ∀ o ∈ x.decisions, o.kind ≠ 4) (hm : ∀ o ∈ x.decisions, o.number < n) :
  d.number ∈ idleN t (addX x ⟨n, 1, d.form, zPlace, to, 0⟩) := by
 obtain ⟨hx, hy, hne⟩ := addX_ok h
 have hcy := addX_check (addE_zero h).2.2
 have hdy : d ∈ (addX x ⟨n, 1, d.form, zPlace, to, 0⟩).decisions := mem_addX.2 (.inl hd)
 have hvy : ∀ o ∈ (addX x ⟨n, 1, d.form, zPlace, to, 0⟩).decisions, o.kind ≠ 4 := by
  intro o ho
  rcases mem_addX.1 ho with h1 | rfl
  ·exact hv o h1
  ·simp
 have hl := lessX_ok hy d.number
 have hsy : ∀ e, 1 ≤ e.number → standsB (addX x ⟨n, 1, d.form, zPlace, to, 0⟩) e = true := fun e he => stands_free hy he fun v hv2 hk2 => absurd hk2 (hvy v hv2)
 have hsl : ∀ e, 1 ≤ e.number → standsB (lessX (addX x ⟨n, 1, d.form, zPlace, to, 0⟩) d.number) e = true := fun e he => stands_free hl he fun v hv2 hk2 => absurd hk2 (hvy v (List.mem_filter.1 hv2).1)
 have hheads : headAt t (lessX (addX x ⟨n, 1, d.form, zPlace, to, 0⟩) d.number) = headAt t (addX x ⟨n, 1, d.form, zPlace, to, 0⟩) := by
  funext p
  rw [headAt_winV hl, headAt_winV hy]
  congr 1
  generalize wordD t p = wd
  have hpy : ∀ z ∈ countV (addX x ⟨n, 1, d.form, zPlace, to, 0⟩) p wd, 1 ≤ z.number := fun z hz => (hy.2 _ (countV_mem.1 hz).1).1
  have hny : ((countV (addX x ⟨n, 1, d.form, zPlace, to, 0⟩) p wd).map (·.number)).Nodup := ((List.filter_sublist.trans List.filter_sublist).map _).nodup hy.1
  have hbd : bestOf (countV (addX x ⟨n, 1, d.form, zPlace, to, 0⟩) p wd) ≠ d := by
   intro hb
   by_cases hcn : countV (addX x ⟨n, 1, d.form, zPlace, to, 0⟩) p wd = []
   ·rw [hcn] at hb
    have h1 := (hx.2 d hd).1
    have h2 : (bestOf []).number = d.number := by rw [hb]
    have h3 : (bestOf []).number = 0 := rfl
    omega
   ·have hin := (bestOf_pos hpy hcn).2
    rw [hb] at hin
    have hcd := (countV_mem.1 hin).2.2
    have hnew : (⟨n, 1, d.form, zPlace, to, 0⟩ : Decision) ∈ countV (addX x ⟨n, 1, d.form, zPlace, to, 0⟩) p wd := by
     have h1 := (hx.2 d hd).1
     have h2 := hm d hd
     refine countV_mem.2 ⟨mem_addX.2 (.inr rfl), hsy _ (show (1 : Int) ≤ n by omega), ?_⟩
     simpa [concB, hk] using hcd
    have hlt := hm d hd
    have := bestOf_best hpy hny _ hnew (by rw [hb]; intro q; have : n = d.number := congrArg Decision.number q; omega)
    rw [hb] at this
    simp only [lexD, hk] at this
    omega
  have hperm : (countV (lessX (addX x ⟨n, 1, d.form, zPlace, to, 0⟩) d.number) p wd).Perm ((countV (addX x ⟨n, 1, d.form, zPlace, to, 0⟩) p wd).filter fun e => decide (e ≠ d)) := by
   refine (List.perm_ext_iff_of_nodup (countV_nodup hl _ _) (List.filter_sublist.nodup (countV_nodup hy _ _))).2 fun e => ?_
   rw [List.mem_filter, countV_mem, countV_mem]
   constructor
   ·rintro ⟨h1, h2, h3⟩
    obtain ⟨a, b⟩ := List.mem_filter.1 h1
    refine ⟨⟨a, hsy e (hy.2 e a).1, h3⟩, ?_⟩
    simp only [ne_eq, decide_eq_true_eq] at b ⊢
    exact fun q => b (by rw [q])
   ·rintro ⟨⟨h1, h2, h3⟩, h4⟩
    have hne2 : e.number ≠ d.number := fun q => by
     have := nodup_key hy.1 h1 hdy q
     simp [this] at h4
    exact ⟨List.mem_filter.2 ⟨h1, by simpa using hne2⟩, hsl e (hy.2 e h1).1, h3⟩
  have e1 : bestOf (countV (lessX (addX x ⟨n, 1, d.form, zPlace, to, 0⟩) d.number) p wd) = bestOf (countV (addX x ⟨n, 1, d.form, zPlace, to, 0⟩) p wd) := by
   rw [← best_remove hpy hny hbd]
   refine bestOf_perm hperm (fun z hz => hpy z (List.mem_filter.1 hz).1) ((List.filter_sublist.map _).nodup hny)
  simp only [countV] at e1
  rw [winV, winV, e1]; rfl
 rw [idleN, if_pos hcy]
 obtain ⟨b1, b2, _⟩ := hy.2 d hdy
 refine List.mem_filter.2 ⟨List.mem_map.2 ⟨(d.number - 1).toNat, List.mem_range.2 (by omega), by simp only [natI]; omega⟩, ?_⟩
 simp only [idleB, Bool.and_eq_true, decide_eq_true_eq]
 refine ⟨?_, by rw [headsL, headsL, hheads]⟩
 have h5 : (lessX (addX x ⟨n, 1, d.form, zPlace, to, 0⟩) d.number).decisions.Sublist (addX x ⟨n, 1, d.form, zPlace, to, 0⟩).decisions := List.filter_sublist
 refine Nat.lt_of_le_of_ne h5.length_le fun e => ?_
 have h6 := h5.eq_of_length e
 have h7 : d ∈ (lessX (addX x ⟨n, 1, d.form, zPlace, to, 0⟩) d.number).decisions := by rw [h6]; exact hdy
 simpa using (List.mem_filter.1 h7).2
theorem idle_told {t : Text} {x : Lexicon} {d : Decision} (h : checkN t x = 0) (hd : d ∈ x.decisions) : d.number ∈ idleN t x ↔ headsL t (lessX x d.number) = headsL t x := by
 have hx := okD_of h
 rw [idleN, if_pos h, idleR, idleK, List.mem_filter]
 simp only [idleB, Bool.and_eq_true, decide_eq_true_eq]
 constructor
 ·exact fun q => q.2.2
 ·intro q
  obtain ⟨b1, b2, _⟩ := hx.2 d hd
  refine ⟨List.mem_map.2 ⟨(d.number - 1).toNat, List.mem_range.2 (by omega), by simp only [natI]; omega⟩, ?_, q⟩
  have h5 : (lessX x d.number).decisions.Sublist x.decisions := List.filter_sublist
  refine Nat.lt_of_le_of_ne h5.length_le fun e => ?_
  have h6 := h5.eq_of_length e
  have h7 : d ∈ (lessX x d.number).decisions := by rw [h6]; exact hd
  simpa using (List.mem_filter.1 h7).2
theorem idleN_sorted (t : Text) (x : Lexicon) : (idleN t x).Pairwise fun a b => a < b := by
 unfold idleN
 split
 ·refine List.Pairwise.filter _ ?_
  rw [List.pairwise_map]
  refine List.pairwise_lt_range.imp fun h => ?_
  simp only [natI]; omega
 ·exact List.Pairwise.nil
end Go.Pk

namespace Go.Pk
open Go Go.RowKit
def zRule : Rule := ⟨[], [], 0⟩
/-- the i-th of a list that goes round -/
def chooseN (l : List Int) (i : Nat) : Int := (l[i % l.length]?).getD 0
theorem tmod_nat {i : Int} {n : Nat} (hi : 0 ≤ i) : i.tmod (n : Int) = ((i.toNat % n : Nat) : Int) := by
 obtain ⟨m, rfl⟩ := Int.eq_ofNat_of_zero_le hi
 rw [Int.tmod_eq_emod_of_nonneg hi, Int.toNat_natCast, Int.natCast_emod]
theorem askR_head {t : Text} {x : Lexicon} {p : Place} (hx : checkN t x = 0) (hp : placeB t p = true) : (askR t x p).to = headAt t x p := by
 rw [askR, if_pos ⟨hx, hp⟩]; rfl
theorem askR_win {t : Text} {x : Lexicon} {p : Place} (hx : checkN t x = 0) (hp : placeB t p = true) : askR t x p = winD x p (wordD t p) := by
 rw [askR, if_pos ⟨hx, hp⟩]
theorem askR_ok {t : Text} {x : Lexicon} {p : Place} (hx : checkN t x = 0) (hp : placeB t p = true) : (askR t x p).to.stem.length ≤ 12 ∧ 0 ≤ (askR t x p).to.mark ∧ (askR t x p).to.mark ≤ 255 := by
 have q := winD_ok hx hp
 rw [askR_win hx hp]; exact ⟨q.1, q.2.1, by omega⟩
theorem stepsR_eq {t : Text} {x : Lexicon} {w : Str} (hx : checkN t x = 0) (hw : wordB w = true) : stepsR t x w = stepsN x.rules 4 w := by rw [stepsR, if_pos ⟨hx, hw⟩]
theorem stepsE_eq {t : Text} {x : Lexicon} {w : Str} (hx : checkN t x = 0) (hw : wordB w = true) : stepsE t x w = 0 := by rw [stepsE, if_neg (by simpa using hx), if_pos hw]
theorem stepOf_take {rs : List Rule} {w : Str} {i : Nat} {r : Rule} {s : Str} (h : ∀ r ∈ rs.take i, made r w = none) (hr : rs[i]? = some r) (hs : made r w = some s) : stepOf rs w = some s := by
 rw [stepOf, ← List.take_append_drop i rs, List.findSome?_append]
 have h1 : (rs.take i).findSome? (made · w) = none := by simpa [List.findSome?_eq_none_iff] using h
 rw [h1, drop_cons hr]
 simp [hs]
theorem stepOf_no {rs : List Rule} {w : Str} (h : ∀ r ∈ rs, made r w = none) : stepOf rs w = none := by
 simpa [stepOf, List.findSome?_eq_none_iff] using h
theorem addN54 : addN textE (lexE [d5E]) d4E = lexE [d4E, d5E] := by rw [addN, if_pos addE54, addX54]
end Go.Pk

namespace Go.Pk
open Go Go.RowKit
theorem at_word {t : Text} {p : Place} (ht : textB t = true) : (if textB t = true then (wordAt t p).getD [] else []) = wordD t p := by rw [if_pos ht]; rfl
theorem at_err {t : Text} {p : Place} (ht : textB t = true) (hp : placeB t p = true) : (if (textB t && placeB t p) = true then (0 : Int) else if textB t = true then 12 else 10) = 0 := by rw [if_pos (by rw [ht, hp]; rfl)]
theorem placesT_in {t : Text} {k n w : Nat} {c : Chapter} {ln : List Str} (hc : t.chapters[k]? = some c) (hl : c.lines[n]? = some ln) (hw : w < ln.length) : mkP k n w ∈ placesT t := by
 refine List.mem_flatMap.2 ⟨k, List.mem_range.2 (List.getElem?_eq_some_iff.1 hc).1, List.mem_flatMap.2 ⟨n, List.mem_range.2 ?_, List.mem_map.2 ⟨w, List.mem_range.2 ?_, rfl⟩⟩⟩
 ·rw [linesAt_some hc]; exact (List.getElem?_eq_some_iff.1 hl).1
 ·rw [wordsAt_some hc hl]; exact hw
theorem places_pos {t : Text} (ht : textB t = true) : 0 < (placesT t).length := by
 have ht' := ht
 simp only [textB, Bool.and_eq_true, List.all_eq_true, inB, decide_eq_true_eq] at ht
 obtain ⟨⟨h1, h2⟩, _⟩ := ht
 have hc : t.chapters[0]? = some t.chapters[0] := List.getElem?_eq_getElem (by omega)
 have h3 := h2 _ (List.mem_of_getElem? hc)
 simp only [chapterB, Bool.and_eq_true, List.all_eq_true, inB, decide_eq_true_eq] at h3
 have hl : t.chapters[0].lines[0]? = some t.chapters[0].lines[0] := List.getElem?_eq_getElem (by omega)
 have h4 := h3.2 _ (List.mem_of_getElem? hl)
 simp only [lineB, Bool.and_eq_true, List.all_eq_true, inB, decide_eq_true_eq] at h4
 exact List.length_pos_of_mem (placesT_in hc hl (w := 0) (by omega))
theorem wordD_word {t : Text} {p : Place} (ht : textB t = true) (hp : placeB t p = true) : wordB (wordD t p) = true := by
 obtain ⟨c, ln, wd, _, hc, _, hl, _, hw, e⟩ := place_at hp
 rw [e]
 simp only [textB, Bool.and_eq_true, List.all_eq_true] at ht
 have h1 := ht.1.2 _ (List.mem_of_getElem? hc)
 simp only [chapterB, Bool.and_eq_true, List.all_eq_true] at h1
 have h2 := h1.2 _ (List.mem_of_getElem? hl)
 simp only [lineB, Bool.and_eq_true, List.all_eq_true] at h2
 exact h2.2 _ (List.mem_of_getElem? hw)
/-- a map that says true of each number of a list -/
def trM (l : List Int) : List (Int × Bool) := l.map fun n => (n, true)
theorem look_tr {l : List Int} {n : Int} : look (trM l) n = if n ∈ l then some true else none := by
 induction l with
 | nil => rfl
 | cons a l ih =>
  simp only [trM, look, List.map_cons, List.find?_cons, List.mem_cons] at ih ⊢
  by_cases h : a = n
  ·subst h; simp
  ·simp only [h, decide_false, Ne.symm h, false_or]; exact ih
theorem tr_look {l : List Int} {n : Int} : (look (trM l) n).getD false = decide (n ∈ l) := by
 rw [look_tr]; split <;> simp_all
theorem tr_fill {l : List Int} {k : Nat} {n : Int} (hn : l.Nodup) (h : l[k]? = some n) : putM (trM (l.take k)) n true = trM (l.take (k + 1)) := by
 have hk := (List.getElem?_eq_some_iff.1 h).1
 have h1 : n ∉ l.take k := by
  intro q
  have e : l = l.take k ++ l.drop k := (List.take_append_drop k l).symm
  rw [e] at hn
  refine (List.nodup_append.1 hn).2.2 n q n ?_ rfl
  rw [drop_cons h]; exact List.mem_cons_self
 rw [putM, look_tr, if_neg h1, take_snoc h]
 simp [trM]
theorem standS_nodup {x : Lexicon} (hx : OkD x) : (standS x).Nodup := (standS_sorted hx).imp fun h => by omega
/-- the last one with a number -/
def wonF (l : List Decision) (n : Int) : Decision := l.foldl (fun a d => if d.number = n then d else a) zDecision
theorem wonF_snoc {l : List Decision} {k : Nat} {d : Decision} {n : Int} (h : l[k]? = some d) : wonF (l.take (k + 1)) n = if d.number = n then d else wonF (l.take k) n := by
 rw [wonF, take_snoc h, List.foldl_append]; rfl
theorem fold_no {n : Int} : ∀ (l : List Decision) (a : Decision), (∀ d ∈ l, d.number ≠ n) → l.foldl (fun a d => if d.number = n then d else a) a = a
 | [], _, _ => rfl
 | e :: l, a, h => by
  rw [List.foldl_cons, if_neg (h e List.mem_cons_self)]
  exact fold_no l a fun d hd => h d (List.mem_cons_of_mem _ hd)
theorem wonF_at {l : List Decision} (hn : (l.map (·.number)).Nodup) {d : Decision} (hd : d ∈ l) : wonF l d.number = d := by
 obtain ⟨a, b, rfl⟩ := List.append_of_mem hd
 rw [wonF, List.foldl_append, List.foldl_cons, if_pos rfl]
 refine fold_no _ _ fun e he q => ?_
 have h := nodup_key hn (List.mem_append_right _ (List.mem_cons_of_mem _ he)) (List.mem_append_right _ List.mem_cons_self) q
 subst h
 rw [List.map_append, List.map_cons] at hn
 exact (List.nodup_cons.1 (List.nodup_append.1 hn).2.1).1 (List.mem_map.2 ⟨e, he, rfl⟩)
theorem any_snoc {α : Type} {q : α → Bool} {l : List α} {k : Nat} {a : α} (h : l[k]? = some a) : (l.take (k + 1)).any q = ((l.take k).any q || q a) := by rw [take_snoc h, List.any_append]; simp
/-- some decision that stands concerns a place -/
def someS (x : Lexicon) (p : Place) (wd : Str) (d : Decision) : Bool := decide (d.number ∈ standS x) && concB d p wd
theorem some_no {x : Lexicon} (hx : OkD x) {p : Place} {wd : Str} (h : x.decisions.any (someS x p wd) = false) : winD x p wd = { zDecision with to := ⟨((stepsN x.rules 4 wd).getLast?).getD [], 0⟩ } := by
 refine wins_none hx fun d hd q => ?_
 have := List.any_eq_false.1 h d hd
 simp [someS, q.1, q.2] at this
theorem some_yes {x : Lexicon} (hx : OkD x) {p : Place} {wd : Str} (h : x.decisions.any (someS x p wd) = true) :
  winD x p wd ∈ x.decisions ∧ 1 ≤ (winD x p wd).number ∧ (winD x p wd).number ∈ standS x ∧ concB (winD x p wd) p wd = true ∧ ∀ e ∈ x.decisions, e.number ∈ standS x → concB e p wd = true → e.number ≠ (winD x p wd).number → lexD e (winD x p wd) := by
 obtain ⟨d, hd, q⟩ := List.any_eq_true.1 h
 simp only [someS, Bool.and_eq_true, decide_eq_true_eq] at q
 exact wins_some hx hd q.1 q.2
/-- the greatest number -/
def mostN (l : List Decision) : Int := l.foldl (fun a d => max a d.number) 0
theorem mostN_snoc {l : List Decision} {k : Nat} {d : Decision} (h : l[k]? = some d) : mostN (l.take (k + 1)) = max (mostN (l.take k)) d.number := by rw [mostN, take_snoc h, List.foldl_append]; rfl
theorem mostI_snoc {l : List Decision} {k : Nat} {d : Decision} (h : l[k]? = some d) : maxI (mostN (l.take k)) d.number = mostN (l.take (k + 1)) := by
 rw [mostN_snoc h, maxI]; split <;> omega
theorem fold_max : ∀ (l : List Decision) (a : Int), a ≤ l.foldl (fun a d => max a d.number) a ∧ ∀ d ∈ l, d.number ≤ l.foldl (fun a d => max a d.number) a
 | [], a => ⟨Int.le_refl _, fun d hd => by cases hd⟩
 | e :: l, a => by
  have ⟨h1, h2⟩ := fold_max l (max a e.number)
  rw [List.foldl_cons]
  refine ⟨by omega, fun d hd => ?_⟩
  rcases List.mem_cons.1 hd with rfl | hd
  ·omega
  ·exact h2 d hd
theorem fold_max_le : ∀ (l : List Decision) (a b : Int), a ≤ b → (∀ d ∈ l, d.number ≤ b) → l.foldl (fun a d => max a d.number) a ≤ b
 | [], a, b, h, _ => h
 | e :: l, a, b, h, h2 => by
  rw [List.foldl_cons]
  exact fold_max_le l _ b (by have := h2 e List.mem_cons_self; omega) fun d hd => h2 d (List.mem_cons_of_mem _ hd)
theorem mostN_ge {l : List Decision} {d : Decision} (h : d ∈ l) : d.number ≤ mostN l := (fold_max l 0).2 d h
theorem mostN_le {x : Lexicon} (hx : OkD x) : mostN x.decisions ≤ 999 := fold_max_le _ _ _ (by omega) fun d hd => (hx.2 d hd).2.1
theorem all_snoc {α : Type} {P : α → Prop} {l : List α} {k : Nat} {a : α} (h : ∀ o ∈ l.take k, P o) (ha : l[k]? = some a) (hp : P a) : ∀ o ∈ l.take (k + 1), P o := by
 intro o ho
 rw [take_snoc ha, List.mem_append] at ho
 rcases ho with ho | ho
 ·exact h o ho
 ·simp at ho; rw [ho]; exact hp
theorem made_some {o : Option Str} (h : o.isSome = true) : o = some (o.getD []) := by cases o with | none => cases h | some s => rfl
theorem made_none {o : Option Str} (h : o.isSome = false) : o = none := by cases o with | none => rfl | some s => cases h
theorem mem_snoc {l : List Int} {k : Nat} {n a : Int} (h : l[k]? = some n) : decide (a ∈ l.take (k + 1)) = (decide (a ∈ l.take k) || decide (n = a)) := by
 rw [take_snoc h, Bool.eq_iff_iff]
 simp only [List.mem_append, List.mem_singleton, decide_eq_true_eq, Bool.or_eq_true]
 exact ⟨fun q => q.imp id Eq.symm, fun q => q.imp id Eq.symm⟩
theorem lt_pred {l : List Int} (hs : l.Pairwise fun a b => a < b) {k : Nat} {m n : Int} (hk : 0 < k) (h1 : l[k - 1]? = some m) (h2 : l[k]? = some n) : m < n := by
 obtain ⟨a, b⟩ := List.getElem?_eq_some_iff.1 h1
 obtain ⟨c, d⟩ := List.getElem?_eq_some_iff.1 h2
 have := List.pairwise_iff_getElem.1 hs (k - 1) k a c (by omega)
 rw [b, d] at this; exact this
theorem small_of {t : Text} {x : Lexicon} (h : checkN t x = 0) : smallX x = true := by
 have h1 := (lexicon_of h).2
 simp only [lexiconB, Bool.and_eq_true, List.all_eq_true, decide_eq_true_eq] at h1
 obtain ⟨⟨⟨⟨a, b⟩, c⟩, d⟩, _⟩ := h1
 simp only [smallX, Bool.and_eq_true, List.all_eq_true, decide_eq_true_eq]
 refine ⟨⟨⟨by omega, by omega⟩, fun r hr => ?_⟩, fun e he => ?_⟩
 ·have q := c r hr
  simp only [ruleB, Bool.and_eq_true, lettersB, inB, decide_eq_true_eq] at q
  simp only [smallR, Bool.and_eq_true, decide_eq_true_eq]
  omega
 ·have q := d e he
  simp only [decisionB, Bool.and_eq_true] at q
  have q2 := q.2
  simp only [smallD, Bool.and_eq_true, decide_eq_true_eq]
  split at q2
  ·simp only [Bool.and_eq_true, headB] at q2
   have a := word_len q2.1.1.1; have b := word_len q2.1.2.1; omega
  ·split at q2
   ·simp only [Bool.and_eq_true, headB] at q2
    have a := word_len q2.1.1.1; have b := word_len q2.1.2.1; omega
   ·split at q2
    ·simp only [Bool.and_eq_true, headB, decide_eq_true_eq] at q2
     have b := word_len q2.1.2.1
     have a := q2.1.1.1
     rw [a]; simp; omega
    ·split at q2
     ·simp only [Bool.and_eq_true, decide_eq_true_eq] at q2
      have a := q2.1.1.1; have b := q2.1.2
      rw [a, b]; simp [zHead]
     ·cases q2
theorem ready_ok {t : Text} {x : Lexicon} (hs : smallT t = true) (h : checkN t x = 0) : (smallT t && smallX x && decide (checkN t x = 0)) = true := by rw [hs, small_of h, h]; rfl
theorem add_zero {t : Text} {x : Lexicon} {d : Decision} (h : checkN t x = 0) (hl : x.decisions.length < 20) (hd : decisionB t d = true) (hn : ∀ e ∈ x.decisions, e.number ≠ d.number) : addE t x d = 0 ∧ addN t x d = addX x d ∧ checkN t (addX x d) = 0 := by
 have h3 : checkN t (moreX x d) = 0 := by
  refine lexiconB_of h rfl ?_ ?_ ?_
  ·intro e he
   rcases List.mem_append.1 he with he | he
   ·exact lexicon_dec h e he
   ·simp at he; rw [he]; exact hd
  ·simp only [moreX, List.length_append, List.length_cons, List.length_nil]; omega
  ·simp only [moreX, List.map_append, List.map_cons, List.map_nil]
   refine List.nodup_append.2 ⟨(okD_of h).1, by simp, ?_⟩
   rintro a ha b hb rfl
   simp at hb
   obtain ⟨e, he, q⟩ := List.mem_map.1 ha
   exact hn e he (by rw [q, hb])
 have := addE_ok h (by omega) h3
 exact ⟨this.1, this.2, addX_check h3⟩
theorem void_dec {t : Text} {n o : Int} (h1 : 1 ≤ o) (h2 : o < n) (h3 : n ≤ 999) : decisionB t (voidD n o) = true := by
 simp only [decisionB, voidD, inB, Bool.and_eq_true, decide_eq_true_eq]
 refine ⟨⟨decide_eq_true (by omega), decide_eq_true (by omega)⟩, ?_⟩
 simp only [show ¬ (4 : Int) = 1 by decide, show ¬ (4 : Int) = 2 by decide, show ¬ (4 : Int) = 3 by decide, if_true, if_false, Bool.and_eq_true, decide_eq_true_eq]
 exact ⟨⟨⟨trivial, trivial⟩, trivial⟩, decide_eq_true (by omega), decide_eq_true (by omega)⟩
theorem again_dec {t : Text} {x : Lexicon} {d : Decision} {n : Int} {to : Head} (h : checkN t x = 0) (hd : d ∈ x.decisions) (hk : d.kind = 1) (h1 : 1 ≤ n) (h3 : n ≤ 999) (hh : headB to = true) : decisionB t ⟨n, 1, d.form, zPlace, to, 0⟩ = true := by
 have q := lexicon_dec h d hd
 simp only [decisionB, hk, if_true, Bool.and_eq_true, inB, decide_eq_true_eq] at q ⊢
 exact ⟨⟨h1, h3⟩, ⟨⟨q.2.1.1.1, trivial⟩, hh⟩, trivial⟩
theorem heads_of {t : Text} {x y : Lexicon} (h : headAt t x = headAt t y) : headsL t x = headsL t y := by rw [headsL, headsL, h]
theorem hom_perm {t : Text} {x y : Lexicon} (h : checkN t x = 0) (hr : y.rules = x.rules) (hp : y.decisions.Perm x.decisions) : homR t y = homR t x := by
 have e : entriesL t y = entriesL t x := by
  rw [entriesL, entriesL]
  refine List.map_congr_left fun p _ => ?_
  rw [entryAt, entryAt, heads_perm hr (okD_of h) hp]
 rw [homR, homR, if_pos h, if_pos (perm_check h hr hp), e]
theorem idleN_perm {t : Text} {x y : Lexicon} (h : checkN t x = 0) (hr : y.rules = x.rules) (hp : y.decisions.Perm x.decisions) : idleN t y = idleN t x := by
 rw [idleN, idleN, if_pos h, if_pos (perm_check h hr hp), idleR_perm hr (okD_of h) hp]
theorem standN_perm {t : Text} {x y : Lexicon} (h : checkN t x = 0) (hr : y.rules = x.rules) (hp : y.decisions.Perm x.decisions) : standingN t y = standingN t x := by
 rw [standN_eq h, standN_eq (perm_check h hr hp), standS_perm (okD_of h) hp]
theorem headsL_perm {t : Text} {x y : Lexicon} (h : checkN t x = 0) (hr : y.rules = x.rules) (hp : y.decisions.Perm x.decisions) : headsL t y = headsL t x := heads_of (heads_perm hr (okD_of h) hp)
theorem ask_perm {t : Text} {x y : Lexicon} {p : Place} (h : checkN t x = 0) (hr : y.rules = x.rules) (hp : y.decisions.Perm x.decisions) (hb : placeB t p = true) : askR t y p = askR t x p := by
 rw [askR_win h hb, askR_win (perm_check h hr hp) hb, winD_perm hr (okD_of h) hp]
/-- what a decision changes, place by place -/
def chQ (t : Text) (x : Lexicon) (d : Decision) (p : Place) : Bool := decide (headAt t (addX x d) p ≠ headAt t x p)
section
variable {t : Text} {x : Lexicon} {d : Decision}
theorem changes_ch (h : addE t x d = 0) : changesR t x d = (placesT t).filter (chQ t x d) := by rw [changesR, if_pos h]; rfl
theorem ch_a (h : addE t x d = 0) {i : Nat} {p c : Place} (hp : (placesT t)[i]? = some p) (hc : (changesR t x d)[cntQ (chQ t x d) (placesT t) i]? = some c) : decide (c = p) = chQ t x d p := by
 rw [changes_ch h] at hc
 have q := cntQ_at (q := chQ t x d) hp
 rw [Bool.eq_iff_iff, ← q, hc, decide_eq_true_eq, Option.some.injEq]
theorem ch_b (h : addE t x d = 0) {i : Nat} {p : Place} (hp : (placesT t)[i]? = some p) (hc : ¬ ((cntQ (chQ t x d) (placesT t) i : Nat) : Int) < ((changesR t x d).length : Int)) : chQ t x d p = false := by
 rw [changes_ch h] at hc
 have q := cntQ_at (q := chQ t x d) hp
 cases e : chQ t x d p with
 | false => rfl
 | true =>
  have := (List.getElem?_eq_some_iff.1 (q.2 e)).1
  omega
theorem ch_h (h : addE t x d = 0) {i : Nat} {p : Place} {a b : Head} (hp : (placesT t)[i]? = some p) (ha : (headsL t x)[i]? = some a) (hb : (headsL t (addN t x d))[i]? = some b) : chQ t x d p = decide (a ≠ b) := by
 rw [show addN t x d = addX x d by rw [addN, if_pos h]] at hb
 rw [head_pl hp ha, head_pl hp hb, chQ, Bool.eq_iff_iff, decide_eq_true_eq, decide_eq_true_eq]
 exact ⟨Ne.symm, Ne.symm⟩
def cdQ (x y : Lexicon) (p : Place) (wd : Str) (o : Decision) : Bool := (decide (o.number ∈ standS x) != decide (o.number ∈ standS y)) && concB o p wd
theorem cd_any (h : addE t x d = 0) {p : Place} (hq : chQ t x d p = true) : (addN t x d).decisions.any (cdQ x (addN t x d) p (wordD t p)) = true := by
 rw [show addN t x d = addX x d by rw [addN, if_pos h]]
 obtain ⟨o, ho, h1, h2⟩ := conc_differs h (p := p) (of_decide_eq_true hq)
 exact List.any_eq_true.2 ⟨o, ho, by rw [cdQ, h2, Bool.and_true]; simpa using h1⟩
theorem cd_by (h : addE t x d = 0) (hk : ¬ d.kind = 4) {p : Place} (hq : chQ t x d p = true) : winD (addN t x d) p (wordD t p) = d := by
 rw [show addN t x d = addX x d by rw [addN, if_pos h]]
 exact conc_by h hk (of_decide_eq_true hq)
theorem addN_check (h : addE t x d = 0) : checkN t (addN t x d) = 0 := by
 rw [show addN t x d = addX x d by rw [addN, if_pos h]]
 exact addX_check (addE_zero h).2.2
end
theorem choose_pos {l : List Int} {i : Nat} (h : ∀ v ∈ l, 0 ≤ v) : 0 ≤ chooseN l i := by
 rw [chooseN]
 cases e : l[i % l.length]? with
 | none => simp
 | some v => exact h v (List.mem_of_getElem? e)
end Go.Pk

namespace Go.Pk
open Go Go.RowKit
def zText : Text := ⟨[]⟩
theorem ask4 : askR textE (lexE []) ⟨1, 0, 0⟩ = d1E ∧ askE textE (lexE []) ⟨1, 0, 0⟩ = 0 := ⟨by rw [askR_eq checkE (by decide +kernel)]; decide +kernel, askE_eq checkE (by decide +kernel)⟩
theorem ask5 : askR textE (lexE [d5E]) ⟨1, 0, 2⟩ = d1E ∧ askE textE (lexE [d5E]) ⟨1, 0, 2⟩ = 0 := ⟨by rw [askR_eq checkE5 (by decide +kernel)]; decide +kernel, askE_eq checkE5 (by decide +kernel)⟩
theorem headsE_all : headsN textE (lexE []) = [⟨wAge, 3⟩, ⟨wAnd, 0⟩, ⟨wIs, 0⟩, ⟨wOlde, 0⟩, ⟨wSea, 1⟩, ⟨wSee, 2⟩, ⟨wThe, 0⟩] := by rw [headsN, if_pos checkE, headsV_eq (okD_of checkE)]; decide +kernel
theorem forms_ok {t : Text} {x : Lexicon} {hd : Head} {l : List Str} (hx : checkN t x = 0) (hh : headB hd = true) (h : underV t x hd ≠ []) (hl : setL sLt ((underV t x hd).map (wordD t)) = l) : formsR t x hd = l ∧ underE t x hd = 0 := by
 have e : underP t x hd = underV t x hd := underV_eq (okD_of hx)
 have e1 : underE t x hd = 0 := (under_ok hx hh rfl h).1
 exact ⟨by rw [formsR, if_pos e1, e]; exact hl, e1⟩
theorem formsE_age : underE textE (lexE []) ⟨wAge, 3⟩ = 0 ∧ formsR textE (lexE []) ⟨wAge, 3⟩ = [wOld] := (forms_ok checkE (by decide +kernel) (by decide +kernel) (by decide +kernel)).symm
theorem formsE_see : underE textE (lexE []) ⟨wSee, 2⟩ = 0 ∧ formsR textE (lexE []) ⟨wSee, 2⟩ = [wSea] := (forms_ok checkE (by decide +kernel) (by decide +kernel) (by decide +kernel)).symm
theorem underE_six : underE textE (lexE []) ⟨wSea, 2⟩ = 6 := under_none checkE (by decide +kernel) (by decide +kernel)
end Go.Pk

namespace Go.Pk
open Go Go.RowKit
theorem X {α : Sort _} {a : α} : a = a := rfl
theorem t_kr {p : Prop} (h : p := by kernel_rfl) : p := h
theorem zT {p : Prop} (h : p := by first | assumption | (simp [big]; done) | (simp [big]; omega) | omega) : p := h
theorem t_u8 {p : Prop} (h : p := by first | assumption | decide | omega | (dsimp only; omega) | (simp; omega)) : p := h
theorem t_om {p : Prop} (h : p := by first | omega | (simp; omega)) : p := h
theorem zU {p : Prop} (h : p := by repeat (first | exact Agree.mix _ _ _ | exact Agree.refl _ _ | refine Agree.updO rfl ?_ | refine Agree.upd rfl ?_ | refine Agree.known rfl ?_ | refine Agree.sub rfl ?_)) : p := h
theorem zZ {p : Prop} (h : p := by first | omega | simp | trivial) : p := h
section
variable {P : Program} {n : Nat} {ops : Array Oper} {rest : List Oper} {K : Env → World → Prop} {C : World → Prop} {σ : Env} {w : World} {ty : TypeId} {pos : String} {aft : Array Edge} {d : Nat}
theorem Z {dst : Option Tmp} {op : Op} {g : Nat} {b c : Bool} (hg : (ops[g]?).bind (·.dst) = some d) (hd : Nat.blt d n = true) (hv : σ d = .bool c) (hc : (c == b) = false) (hdst : dstOk n dst = true) (h : OpsL P n ops rest K (updO σ dst undef) w) : OpsL P n ops (⟨dst, op, ty, pos, aft, some (g, b)⟩ :: rest) K σ w := OpsL.skipped hg hd hv hc hdst h
theorem W.sr {Q : Exit → Env → World → Prop} {id : Nat} {l : List Oper} {y : Code} (h : OpsL P n l.toArray l (fun σ w => Then (W P n y Q) Q .normal σ w) σ w) : W P n (.seq (.region id l.toArray false) y) Q σ w := zl (zg h)
theorem M {Q : Exit → Env → World → Prop} {K' : Env → World → Prop} (h : K' σ w) : OpsL P n ops [] (fun σ w => Then K' Q .normal σ w) σ w := zm (U h)
end
section
variable {P : Program} {nT : Nat} {opT : Array Oper} {rsT : List Oper} {KT : Env → World → Prop} {CT : World → Prop} {σ : Env} {w : World} {ty : TypeId} {pos : String} {aft : Array Edge} {dT : Nat}

theorem v_add {t t' : TypeId} {x y : Operand} {a b : Int} (hx : ev σ x = .int .i64 a) (hy : ev σ y = .int .i64 b) (hb : -9223372036854775808 ≤ a + b ∧ a + b ≤ 9223372036854775807) (hdT : Nat.blt dT nT = true) (hKT : OpsL P nT opT rsT KT (upd σ dT (.int .i64 (a + b))) w) : OpsL P nT opT (⟨some dT, .binOp .add t x y t', ty, pos, aft, none⟩ :: rsT) KT σ w := ze rfl hdT (r_add hx hy hb) hKT
theorem u_add {KT : Env → Prop} {t t' : TypeId} {x y : Operand} {a b : Int} (hx : ev σ x = .int .i64 a) (hy : ev σ y = .int .i64 b) (hb : -9223372036854775808 ≤ a + b ∧ a + b ≤ 9223372036854775807) (hdT : Nat.blt dT nT = true) (hKT : OpsQ P nT opT CT rsT KT (upd σ dT (.int .i64 (a + b)))) : OpsQ P nT opT CT (⟨some dT, .binOp .add t x y t', ty, pos, aft, none⟩ :: rsT) KT σ := zr rfl hdT (fun _ _ => r_add hx hy hb) hKT
theorem v_asB {x : Operand} {a : Bool} (hv : ev σ x = .bool a) (hdT : Nat.blt dT nT = true) (hKT : OpsL P nT opT rsT KT (upd σ dT (.bool a)) w) : OpsL P nT opT (⟨some dT, .assign x, ty, pos, aft, none⟩ :: rsT) KT σ w := ze rfl hdT (r_asB hv) hKT
theorem u_asB {KT : Env → Prop} {x : Operand} {a : Bool} (hv : ev σ x = .bool a) (hdT : Nat.blt dT nT = true) (hKT : OpsQ P nT opT CT rsT KT (upd σ dT (.bool a))) : OpsQ P nT opT CT (⟨some dT, .assign x, ty, pos, aft, none⟩ :: rsT) KT σ := zr rfl hdT (fun _ _ => r_asB hv) hKT
theorem v_asI {x : Operand} {k : IntKind} {a : Int} (hv : ev σ x = .int k a) (hdT : Nat.blt dT nT = true) (hKT : OpsL P nT opT rsT KT (upd σ dT (.int k a)) w) : OpsL P nT opT (⟨some dT, .assign x, ty, pos, aft, none⟩ :: rsT) KT σ w := ze rfl hdT (r_asI hv) hKT
theorem u_asI {KT : Env → Prop} {x : Operand} {k : IntKind} {a : Int} (hv : ev σ x = .int k a) (hdT : Nat.blt dT nT = true) (hKT : OpsQ P nT opT CT rsT KT (upd σ dT (.int k a))) : OpsQ P nT opT CT (⟨some dT, .assign x, ty, pos, aft, none⟩ :: rsT) KT σ := zr rfl hdT (fun _ _ => r_asI hv) hKT
theorem v_asL {x : Operand} {a : Option Addr} {m c : Nat} (hv : ev σ x = .slice a m c) (hdT : Nat.blt dT nT = true) (hKT : OpsL P nT opT rsT KT (upd σ dT (.slice a m c)) w) : OpsL P nT opT (⟨some dT, .assign x, ty, pos, aft, none⟩ :: rsT) KT σ w := ze rfl hdT (r_asL hv) hKT
theorem v_asP {x : Operand} {a : Option Addr} (hv : ev σ x = .pointer a) (hdT : Nat.blt dT nT = true) (hKT : OpsL P nT opT rsT KT (upd σ dT (.pointer a)) w) : OpsL P nT opT (⟨some dT, .assign x, ty, pos, aft, none⟩ :: rsT) KT σ w := ze rfl hdT (r_asP hv) hKT
theorem v_asS {x : Operand} {a : Str} (hv : ev σ x = strV a) (hdT : Nat.blt dT nT = true) (hKT : OpsL P nT opT rsT KT (upd σ dT (strV a)) w) : OpsL P nT opT (⟨some dT, .assign x, ty, pos, aft, none⟩ :: rsT) KT σ w := ze rfl hdT (r_asS hv) hKT
theorem u_asS {KT : Env → Prop} {x : Operand} {a : Str} (hv : ev σ x = strV a) (hdT : Nat.blt dT nT = true) (hKT : OpsQ P nT opT CT rsT KT (upd σ dT (strV a))) : OpsQ P nT opT CT (⟨some dT, .assign x, ty, pos, aft, none⟩ :: rsT) KT σ := zr rfl hdT (fun _ _ => r_asS hv) hKT
theorem v_assign {x : Operand} {v : Value} (hv : ev σ x = v) (hdT : Nat.blt dT nT = true) (hKT : OpsL P nT opT rsT KT (upd σ dT v) w) : OpsL P nT opT (⟨some dT, .assign x, ty, pos, aft, none⟩ :: rsT) KT σ w := ze rfl hdT (r_assign hv) hKT
theorem u_assign {KT : Env → Prop} {x : Operand} {v : Value} (hv : ev σ x = v) (hdT : Nat.blt dT nT = true) (hKT : OpsQ P nT opT CT rsT KT (upd σ dT v)) : OpsQ P nT opT CT (⟨some dT, .assign x, ty, pos, aft, none⟩ :: rsT) KT σ := zr rfl hdT (fun _ _ => r_assign hv) hKT
theorem v_eql {t t' : TypeId} {x y : Operand} {k : IntKind} {a b : Int} (hx : ev σ x = .int k a) (hy : ev σ y = .int k b) (hdT : Nat.blt dT nT = true) (hKT : OpsL P nT opT rsT KT (upd σ dT (.bool (decide (a = b)))) w) : OpsL P nT opT (⟨some dT, .binOp .eql t x y t', ty, pos, aft, none⟩ :: rsT) KT σ w := ze rfl hdT (r_eql hx hy) hKT
theorem u_eql {KT : Env → Prop} {t t' : TypeId} {x y : Operand} {k : IntKind} {a b : Int} (hx : ev σ x = .int k a) (hy : ev σ y = .int k b) (hdT : Nat.blt dT nT = true) (hKT : OpsQ P nT opT CT rsT KT (upd σ dT (.bool (decide (a = b))))) : OpsQ P nT opT CT (⟨some dT, .binOp .eql t x y t', ty, pos, aft, none⟩ :: rsT) KT σ := zr rfl hdT (fun _ _ => r_eql hx hy) hKT
theorem v_extract {x : Operand} {k : Nat} {vs : List Value} {v : Value} (hx : ev σ x = .tuple vs.toArray) (hv : vs[k]? = some v) (hdT : Nat.blt dT nT = true) (hKT : OpsL P nT opT rsT KT (upd σ dT v) w) : OpsL P nT opT (⟨some dT, .extract x k, ty, pos, aft, none⟩ :: rsT) KT σ w := ze rfl hdT (r_extract hx hv) hKT
theorem v_field_addr {s : TypeId} {x : Operand} {k b off m : Nat} {fs : Array Field} {f : Field} (hx : ev σ x = .pointer (some ⟨b, off, none⟩)) (hu : P.underlying s = some (.struct fs)) (hf : fs[k]? = some f) (hz : ∀ w, (sizeOf f.type).run P w = .ok (m + 1) w) {off' : Nat} (ho : off + f.offset = off') (hdT : Nat.blt dT nT = true) (hKT : OpsL P nT opT rsT KT (upd σ dT (.pointer (some ⟨b, off', none⟩))) w) : OpsL P nT opT (⟨some dT, .fieldAddr s x k, ty, pos, aft, none⟩ :: rsT) KT σ w := ze rfl hdT (zC hx hu hf hz ho) hKT
theorem u_field_addr {KT : Env → Prop} {s : TypeId} {x : Operand} {k b off m : Nat} {fs : Array Field} {f : Field} (hx : ev σ x = .pointer (some ⟨b, off, none⟩)) (hu : P.underlying s = some (.struct fs)) (hf : fs[k]? = some f) (hz : ∀ w, (sizeOf f.type).run P w = .ok (m + 1) w) {off' : Nat} (ho : off + f.offset = off') (hdT : Nat.blt dT nT = true) (hKT : OpsQ P nT opT CT rsT KT (upd σ dT (.pointer (some ⟨b, off', none⟩)))) : OpsQ P nT opT CT (⟨some dT, .fieldAddr s x k, ty, pos, aft, none⟩ :: rsT) KT σ := zr rfl hdT (fun _ _ => zC hx hu hf hz ho) hKT
theorem v_geq {t t' : TypeId} {x y : Operand} {k : IntKind} {a b : Int} (hx : ev σ x = .int k a) (hy : ev σ y = .int k b) (hdT : Nat.blt dT nT = true) (hKT : OpsL P nT opT rsT KT (upd σ dT (.bool (decide (b ≤ a)))) w) : OpsL P nT opT (⟨some dT, .binOp .geq t x y t', ty, pos, aft, none⟩ :: rsT) KT σ w := ze rfl hdT (r_geq hx hy) hKT
theorem v_gtr {t t' : TypeId} {x y : Operand} {k : IntKind} {a b : Int} (hx : ev σ x = .int k a) (hy : ev σ y = .int k b) (hdT : Nat.blt dT nT = true) (hKT : OpsL P nT opT rsT KT (upd σ dT (.bool (decide (b < a)))) w) : OpsL P nT opT (⟨some dT, .binOp .gtr t x y t', ty, pos, aft, none⟩ :: rsT) KT σ w := ze rfl hdT (r_gtr hx hy) hKT
theorem u_gtr {KT : Env → Prop} {t t' : TypeId} {x y : Operand} {k : IntKind} {a b : Int} (hx : ev σ x = .int k a) (hy : ev σ y = .int k b) (hdT : Nat.blt dT nT = true) (hKT : OpsQ P nT opT CT rsT KT (upd σ dT (.bool (decide (b < a))))) : OpsQ P nT opT CT (⟨some dT, .binOp .gtr t x y t', ty, pos, aft, none⟩ :: rsT) KT σ := zr rfl hdT (fun _ _ => r_gtr hx hy) hKT
theorem v_index_el {v : Value} {t e : TypeId} {x ix : Operand} {i : Int} {k s b o : Nat} (he : Elem v k s b o) (hx : ev σ x = v) (hi : ev σ ix = .int .i64 i) (hk : i = (k : Int)) (hu : P.underlying t = some (.slice e)) (hz : ∀ w, (sizeOf e).run P w = .ok s w) (hdT : Nat.blt dT nT = true) (hKT : OpsL P nT opT rsT KT (upd σ dT (.pointer (some ⟨b, o, none⟩))) w) : OpsL P nT opT (⟨some dT, .indexAddr t x ix, ty, pos, aft, none⟩ :: rsT) KT σ w := ze rfl hdT (zR he hx hi hk hu hz) hKT
theorem u_index_el {KT : Env → Prop} {v : Value} {t e : TypeId} {x ix : Operand} {i : Int} {k s b o : Nat} (he : Elem v k s b o) (hx : ev σ x = v) (hi : ev σ ix = .int .i64 i) (hk : i = (k : Int)) (hu : P.underlying t = some (.slice e)) (hz : ∀ w, (sizeOf e).run P w = .ok s w) (hdT : Nat.blt dT nT = true) (hKT : OpsQ P nT opT CT rsT KT (upd σ dT (.pointer (some ⟨b, o, none⟩)))) : OpsQ P nT opT CT (⟨some dT, .indexAddr t x ix, ty, pos, aft, none⟩ :: rsT) KT σ := zr rfl hdT (fun _ _ => zR he hx hi hk hu hz) hKT
theorem v_len {α : Type} {L : Lay α} {h : Heap} {xs : List α} {v : Value} {t e : TypeId} {x : Operand} (hs : Sl L h v xs) (hx : ev σ x = v) (hu : P.underlying t = some (.slice e)) (hdT : Nat.blt dT nT = true) (hKT : OpsL P nT opT rsT KT (upd σ dT (.int .i64 xs.length)) w) : OpsL P nT opT (⟨some dT, .call ⟨.builtin .len, #[x], #[t]⟩, ty, pos, aft, none⟩ :: rsT) KT σ w := ze rfl hdT (r_len hs hx hu) hKT
theorem u_len {KT : Env → Prop} {α : Type} {L : Lay α} {h : Heap} {xs : List α} {v : Value} {t e : TypeId} {x : Operand} (hs : Sl L h v xs) (hx : ev σ x = v) (hu : P.underlying t = some (.slice e)) (hdT : Nat.blt dT nT = true) (hKT : OpsQ P nT opT CT rsT KT (upd σ dT (.int .i64 xs.length))) : OpsQ P nT opT CT (⟨some dT, .call ⟨.builtin .len, #[x], #[t]⟩, ty, pos, aft, none⟩ :: rsT) KT σ := zr rfl hdT (fun _ _ => r_len hs hx hu) hKT
theorem v_len_own {h : Heap} {α : Type} {L : Lay α} {T : TypeId} {xs : List α} {v : Value} {o : List (Nat × Obj)} {t e : TypeId} {x : Operand} (hs : OSl L T h v xs o) (hx : ev σ x = v) (hu : P.underlying t = some (.slice e)) (hdT : Nat.blt dT nT = true) (hKT : OpsL P nT opT rsT KT (upd σ dT (.int .i64 xs.length)) w) : OpsL P nT opT (⟨some dT, .call ⟨.builtin .len, #[x], #[t]⟩, ty, pos, aft, none⟩ :: rsT) KT σ w := ze rfl hdT (r_len_own hs hx hu) hKT
theorem v_len_str {t : TypeId} {x : Operand} {s : Str} (hx : ev σ x = strV s) (hu : P.underlying t = some .string) (hdT : Nat.blt dT nT = true) (hKT : OpsL P nT opT rsT KT (upd σ dT (.int .i64 s.length)) w) : OpsL P nT opT (⟨some dT, .call ⟨.builtin .len, #[x], #[t]⟩, ty, pos, aft, none⟩ :: rsT) KT σ w := ze rfl hdT (r_len_str hx hu) hKT
theorem u_len_str {KT : Env → Prop} {t : TypeId} {x : Operand} {s : Str} (hx : ev σ x = strV s) (hu : P.underlying t = some .string) (hdT : Nat.blt dT nT = true) (hKT : OpsQ P nT opT CT rsT KT (upd σ dT (.int .i64 s.length))) : OpsQ P nT opT CT (⟨some dT, .call ⟨.builtin .len, #[x], #[t]⟩, ty, pos, aft, none⟩ :: rsT) KT σ := zr rfl hdT (fun _ _ => r_len_str hx hu) hKT
theorem v_load_b1 {b off : Nat} {cs : List Value} {T : TypeId} {fr : Nat × Nat} {v : Value} {t : TypeId} {x : Operand} (hb : w.heap[b]? = some (.cells cs.toArray T fr)) (hx : ev σ x = .pointer (some ⟨b, off, none⟩)) (hv : cs[off]? = some v) (ha : ∀ w, (isAgg t).run P w = .ok false w) (hdT : Nat.blt dT nT = true) (hKT : OpsL P nT opT rsT KT (upd σ dT v) w) : OpsL P nT opT (⟨some dT, .load t x, ty, pos, aft, none⟩ :: rsT) KT σ w := ze rfl hdT (r_load_b1 hb hx hv ha) hKT
theorem v_load_ball {b m : Nat} {cs : List Value} {T : TypeId} {fr : Nat × Nat} {t : TypeId} {x : Operand} (hb : w.heap[b]? = some (.cells cs.toArray T fr)) (hx : ev σ x = .pointer (some ⟨b, 0, none⟩)) (ha : ∀ w, (isAgg t).run P w = .ok true w) (hz : ∀ w, (sizeOf t).run P w = .ok m w) (hn : cs.length = m) (hdT : Nat.blt dT nT = true) (hKT : OpsL P nT opT rsT KT (upd σ dT (.agg cs.toArray)) w) : OpsL P nT opT (⟨some dT, .load t x, ty, pos, aft, none⟩ :: rsT) KT σ w := ze rfl hdT (r_load_ball hb hx ha hz hn) hKT
theorem v_load_call {h : Heap} (hs : Sub h w) {t : TypeId} {x : Operand} {b o m : Nat} {vs : List Value} (hc : Cells h b o vs) (hx : ev σ x = .pointer (some ⟨b, o, none⟩)) (ha : ∀ w, (isAgg t).run P w = .ok true w) (hz : ∀ w, (sizeOf t).run P w = .ok m w) (hn : vs.length = m) (hdT : Nat.blt dT nT = true) (hKT : OpsL P nT opT rsT KT (upd σ dT (.agg vs.toArray)) w) : OpsL P nT opT (⟨some dT, .load t x, ty, pos, aft, none⟩ :: rsT) KT σ w := ze rfl hdT (zA hs hc hx ha hz hn) hKT
theorem v_load_cells1 {h : Heap} (hs : Sub h w) {t : TypeId} {x : Operand} {b off j : Nat} {vs : List Value} {v : Value} (hc : Cells h b off vs) {off' : Nat} (hx : ev σ x = .pointer (some ⟨b, off', none⟩)) (ho : off' = off + j) (hv : vs[j]? = some v) (ha : ∀ w, (isAgg t).run P w = .ok false w) (hdT : Nat.blt dT nT = true) (hKT : OpsL P nT opT rsT KT (upd σ dT v) w) : OpsL P nT opT (⟨some dT, .load t x, ty, pos, aft, none⟩ :: rsT) KT σ w := ze rfl hdT (zf hs hc hx ho hv ha) hKT
theorem v_load_cellsN {h : Heap} (hs : Sub h w) {t : TypeId} {x : Operand} {b off j n : Nat} {vs us : List Value} (hc : Cells h b off vs) {off' : Nat} (hx : ev σ x = .pointer (some ⟨b, off', none⟩)) (ho : off' = off + j) (ha : ∀ w, (isAgg t).run P w = .ok true w) (hz : ∀ w, (sizeOf t).run P w = .ok n w) (hu : (vs.drop j).take n = us) (hn : us.length = n) (hdT : Nat.blt dT nT = true) (hKT : OpsL P nT opT rsT KT (upd σ dT (.agg us.toArray)) w) : OpsL P nT opT (⟨some dT, .load t x, ty, pos, aft, none⟩ :: rsT) KT σ w := ze rfl hdT (r_load_cellsN hs hc hx ho ha hz hu hn) hKT
theorem v_lss {t t' : TypeId} {x y : Operand} {k : IntKind} {a b : Int} (hx : ev σ x = .int k a) (hy : ev σ y = .int k b) (hdT : Nat.blt dT nT = true) (hKT : OpsL P nT opT rsT KT (upd σ dT (.bool (decide (a < b)))) w) : OpsL P nT opT (⟨some dT, .binOp .lss t x y t', ty, pos, aft, none⟩ :: rsT) KT σ w := ze rfl hdT (r_lss hx hy) hKT
theorem u_lss {KT : Env → Prop} {t t' : TypeId} {x y : Operand} {k : IntKind} {a b : Int} (hx : ev σ x = .int k a) (hy : ev σ y = .int k b) (hdT : Nat.blt dT nT = true) (hKT : OpsQ P nT opT CT rsT KT (upd σ dT (.bool (decide (a < b))))) : OpsQ P nT opT CT (⟨some dT, .binOp .lss t x y t', ty, pos, aft, none⟩ :: rsT) KT σ := zr rfl hdT (fun _ _ => r_lss hx hy) hKT
theorem v_make_func {fn : Fn} {first captured : Array Operand} {fs cs : List Value} (hf : first.toList.map (ev σ) = fs) (hc : captured.toList.map (ev σ) = cs) (hdT : Nat.blt dT nT = true) (hKT : OpsL P nT opT rsT KT (upd σ dT (.func fn fs.toArray cs.toArray)) w) : OpsL P nT opT (⟨some dT, .makeFunc fn first captured, ty, pos, aft, none⟩ :: rsT) KT σ w := ze rfl hdT (r_make_func hf hc) hKT
theorem v_move {x : Operand} {v : Value} (hv : ev σ x = v) (hdT : Nat.blt dT nT = true) (hKT : OpsL P nT opT rsT KT (upd σ dT v) w) : OpsL P nT opT (⟨some dT, .move x, ty, pos, aft, none⟩ :: rsT) KT σ w := ze rfl hdT (r_move hv) hKT
theorem u_move {KT : Env → Prop} {x : Operand} {v : Value} (hv : ev σ x = v) (hdT : Nat.blt dT nT = true) (hKT : OpsQ P nT opT CT rsT KT (upd σ dT v)) : OpsQ P nT opT CT (⟨some dT, .move x, ty, pos, aft, none⟩ :: rsT) KT σ := zr rfl hdT (fun _ _ => r_move hv) hKT
theorem v_mvB {x : Operand} {a : Bool} (hv : ev σ x = .bool a) (hdT : Nat.blt dT nT = true) (hKT : OpsL P nT opT rsT KT (upd σ dT (.bool a)) w) : OpsL P nT opT (⟨some dT, .move x, ty, pos, aft, none⟩ :: rsT) KT σ w := ze rfl hdT (r_mvB hv) hKT
theorem u_mvB {KT : Env → Prop} {x : Operand} {a : Bool} (hv : ev σ x = .bool a) (hdT : Nat.blt dT nT = true) (hKT : OpsQ P nT opT CT rsT KT (upd σ dT (.bool a))) : OpsQ P nT opT CT (⟨some dT, .move x, ty, pos, aft, none⟩ :: rsT) KT σ := zr rfl hdT (fun _ _ => r_mvB hv) hKT
theorem v_mvF {x : Operand} {f : Fn} {a c : Array Value} (hv : ev σ x = .func f a c) (hdT : Nat.blt dT nT = true) (hKT : OpsL P nT opT rsT KT (upd σ dT (.func f a c)) w) : OpsL P nT opT (⟨some dT, .move x, ty, pos, aft, none⟩ :: rsT) KT σ w := ze rfl hdT (r_mvF hv) hKT
theorem v_mvI {x : Operand} {k : IntKind} {a : Int} (hv : ev σ x = .int k a) (hdT : Nat.blt dT nT = true) (hKT : OpsL P nT opT rsT KT (upd σ dT (.int k a)) w) : OpsL P nT opT (⟨some dT, .move x, ty, pos, aft, none⟩ :: rsT) KT σ w := ze rfl hdT (r_mvI hv) hKT
theorem u_mvI {KT : Env → Prop} {x : Operand} {k : IntKind} {a : Int} (hv : ev σ x = .int k a) (hdT : Nat.blt dT nT = true) (hKT : OpsQ P nT opT CT rsT KT (upd σ dT (.int k a))) : OpsQ P nT opT CT (⟨some dT, .move x, ty, pos, aft, none⟩ :: rsT) KT σ := zr rfl hdT (fun _ _ => r_mvI hv) hKT
theorem v_mvP {x : Operand} {a : Option Addr} (hv : ev σ x = .pointer a) (hdT : Nat.blt dT nT = true) (hKT : OpsL P nT opT rsT KT (upd σ dT (.pointer a)) w) : OpsL P nT opT (⟨some dT, .move x, ty, pos, aft, none⟩ :: rsT) KT σ w := ze rfl hdT (r_mvP hv) hKT
theorem u_mvP {KT : Env → Prop} {x : Operand} {a : Option Addr} (hv : ev σ x = .pointer a) (hdT : Nat.blt dT nT = true) (hKT : OpsQ P nT opT CT rsT KT (upd σ dT (.pointer a))) : OpsQ P nT opT CT (⟨some dT, .move x, ty, pos, aft, none⟩ :: rsT) KT σ := zr rfl hdT (fun _ _ => r_mvP hv) hKT
theorem v_mvS {x : Operand} {a : Str} (hv : ev σ x = strV a) (hdT : Nat.blt dT nT = true) (hKT : OpsL P nT opT rsT KT (upd σ dT (strV a)) w) : OpsL P nT opT (⟨some dT, .move x, ty, pos, aft, none⟩ :: rsT) KT σ w := ze rfl hdT (r_mvS hv) hKT
theorem u_mvS {KT : Env → Prop} {x : Operand} {a : Str} (hv : ev σ x = strV a) (hdT : Nat.blt dT nT = true) (hKT : OpsQ P nT opT CT rsT KT (upd σ dT (strV a))) : OpsQ P nT opT CT (⟨some dT, .move x, ty, pos, aft, none⟩ :: rsT) KT σ := zr rfl hdT (fun _ _ => r_mvS hv) hKT
theorem v_mvT {x : Operand} {a : List Value} (hv : ev σ x = .tuple a.toArray) (hdT : Nat.blt dT nT = true) (hKT : OpsL P nT opT rsT KT (upd σ dT (.tuple a.toArray)) w) : OpsL P nT opT (⟨some dT, .move x, ty, pos, aft, none⟩ :: rsT) KT σ w := ze rfl hdT (r_mvT hv) hKT
theorem v_neq {t t' : TypeId} {x y : Operand} {k : IntKind} {a b : Int} (hx : ev σ x = .int k a) (hy : ev σ y = .int k b) (hdT : Nat.blt dT nT = true) (hKT : OpsL P nT opT rsT KT (upd σ dT (.bool (decide (a ≠ b)))) w) : OpsL P nT opT (⟨some dT, .binOp .neq t x y t', ty, pos, aft, none⟩ :: rsT) KT σ w := ze rfl hdT (r_neq hx hy) hKT
theorem u_neq {KT : Env → Prop} {t t' : TypeId} {x y : Operand} {k : IntKind} {a b : Int} (hx : ev σ x = .int k a) (hy : ev σ y = .int k b) (hdT : Nat.blt dT nT = true) (hKT : OpsQ P nT opT CT rsT KT (upd σ dT (.bool (decide (a ≠ b))))) : OpsQ P nT opT CT (⟨some dT, .binOp .neq t x y t', ty, pos, aft, none⟩ :: rsT) KT σ := zr rfl hdT (fun _ _ => r_neq hx hy) hKT
theorem v_not {t : TypeId} {x : Operand} {b : Bool} (hx : ev σ x = .bool b) (hdT : Nat.blt dT nT = true) (hKT : OpsL P nT opT rsT KT (upd σ dT (.bool (!b))) w) : OpsL P nT opT (⟨some dT, .unOp .not t x, ty, pos, aft, none⟩ :: rsT) KT σ w := ze rfl hdT (r_not hx) hKT
theorem u_not {KT : Env → Prop} {t : TypeId} {x : Operand} {b : Bool} (hx : ev σ x = .bool b) (hdT : Nat.blt dT nT = true) (hKT : OpsQ P nT opT CT rsT KT (upd σ dT (.bool (!b)))) : OpsQ P nT opT CT (⟨some dT, .unOp .not t x, ty, pos, aft, none⟩ :: rsT) KT σ := zr rfl hdT (fun _ _ => r_not hx) hKT
theorem v_pickF {c a b : Operand} {v : Value} (hc : ev σ c = .bool false) (hv : ev σ b = v) (hdT : Nat.blt dT nT = true) (hKT : OpsL P nT opT rsT KT (upd σ dT v) w) : OpsL P nT opT (⟨some dT, .pick c a b, ty, pos, aft, none⟩ :: rsT) KT σ w := ze rfl hdT (r_pickF hc hv) hKT
theorem u_pickF {KT : Env → Prop} {c a b : Operand} {v : Value} (hc : ev σ c = .bool false) (hv : ev σ b = v) (hdT : Nat.blt dT nT = true) (hKT : OpsQ P nT opT CT rsT KT (upd σ dT v)) : OpsQ P nT opT CT (⟨some dT, .pick c a b, ty, pos, aft, none⟩ :: rsT) KT σ := zr rfl hdT (fun _ _ => r_pickF hc hv) hKT
theorem v_pickT {c a b : Operand} {v : Value} (hc : ev σ c = .bool true) (hv : ev σ a = v) (hdT : Nat.blt dT nT = true) (hKT : OpsL P nT opT rsT KT (upd σ dT v) w) : OpsL P nT opT (⟨some dT, .pick c a b, ty, pos, aft, none⟩ :: rsT) KT σ w := ze rfl hdT (r_pickT hc hv) hKT
theorem u_pickT {KT : Env → Prop} {c a b : Operand} {v : Value} (hc : ev σ c = .bool true) (hv : ev σ a = v) (hdT : Nat.blt dT nT = true) (hKT : OpsQ P nT opT CT rsT KT (upd σ dT v)) : OpsQ P nT opT CT (⟨some dT, .pick c a b, ty, pos, aft, none⟩ :: rsT) KT σ := zr rfl hdT (fun _ _ => r_pickT hc hv) hKT
theorem v_seql {t t' : TypeId} {x y : Operand} {a b : Str} (hx : ev σ x = strV a) (hy : ev σ y = strV b) (hdT : Nat.blt dT nT = true) (hKT : OpsL P nT opT rsT KT (upd σ dT (.bool (decide (a = b)))) w) : OpsL P nT opT (⟨some dT, .binOp .eql t x y t', ty, pos, aft, none⟩ :: rsT) KT σ w := ze rfl hdT (r_seql hx hy) hKT
theorem u_seql {KT : Env → Prop} {t t' : TypeId} {x y : Operand} {a b : Str} (hx : ev σ x = strV a) (hy : ev σ y = strV b) (hdT : Nat.blt dT nT = true) (hKT : OpsQ P nT opT CT rsT KT (upd σ dT (.bool (decide (a = b))))) : OpsQ P nT opT CT (⟨some dT, .binOp .eql t x y t', ty, pos, aft, none⟩ :: rsT) KT σ := zr rfl hdT (fun _ _ => r_seql hx hy) hKT
theorem v_sub {t t' : TypeId} {x y : Operand} {a b : Int} (hx : ev σ x = .int .i64 a) (hy : ev σ y = .int .i64 b) (hb : -9223372036854775808 ≤ a - b ∧ a - b ≤ 9223372036854775807) (hdT : Nat.blt dT nT = true) (hKT : OpsL P nT opT rsT KT (upd σ dT (.int .i64 (a - b))) w) : OpsL P nT opT (⟨some dT, .binOp .sub t x y t', ty, pos, aft, none⟩ :: rsT) KT σ w := ze rfl hdT (r_sub hx hy hb) hKT
theorem u_sub {KT : Env → Prop} {t t' : TypeId} {x y : Operand} {a b : Int} (hx : ev σ x = .int .i64 a) (hy : ev σ y = .int .i64 b) (hb : -9223372036854775808 ≤ a - b ∧ a - b ≤ 9223372036854775807) (hdT : Nat.blt dT nT = true) (hKT : OpsQ P nT opT CT rsT KT (upd σ dT (.int .i64 (a - b)))) : OpsQ P nT opT CT (⟨some dT, .binOp .sub t x y t', ty, pos, aft, none⟩ :: rsT) KT σ := zr rfl hdT (fun _ _ => r_sub hx hy hb) hKT
end
end Go.Pk
