/- A PART OF THE PROOF: contracts of functions, each walked once (much of it printed by a program of the author's own). -/
import Derived.Test.YtfpiiheehdedmaaGreatDoorT2
import Derived.Test.YtfpiiheehdedmaaGreatDoorT0
import Derived.Test.YtfpiiheehdedmaaGreatDoorT1
set_option linter.unusedSimpArgs false
set_option linter.unusedVariables false
namespace Go.Pk
open Go Go.RowKit
def allE (p : Poll) (so : Bool) : Int := if checkP p ≠ 0 then checkP p else if so = false then 2 else if truthsL p = [] then 8 else 0
def allL (p : Poll) (so : Bool) : List (List Int) := if allE p so = 0 then truthsL p else []
theorem check_ok {p : Poll} (h : checkP p = 0) : checkN p.text p.lexicon = 0 ∧ pollB p = true := by
 unfold checkP at h
 split at h
 ·rename_i q; exact absurd h q
 ·rename_i q
  split at h
  ·rename_i q2; exact ⟨by simpa using q, q2⟩
  ·cases h
theorem all_ok {p : Poll} {so : Bool} (h : allE p so = 0) : checkP p = 0 ∧ so = true ∧ truthsL p ≠ [] ∧ allL p so = truthsL p := by
 have h0 := h
 unfold allE at h
 split at h
 ·rename_i q; exact absurd h q
 ·rename_i q
  split at h
  ·cases h
  ·rename_i q2
   split at h
   ·cases h
   ·rename_i q3
    exact ⟨by simpa using q, by simpa using q2, q3, by rw [allL, if_pos h0]⟩
/-- the candidates, by number -/
theorem flat_at {α : Type} {f : Nat → List α} {L : Nat} (hL : ∀ h, (f h).length = L) : ∀ {n h j : Nat}, h < n → j < L → ((List.range n).flatMap f)[h * L + j]? = (f h)[j]?
 | n + 1, h, j, hh, hj => by
  have hlen : ∀ m, ((List.range m).flatMap f).length = m * L := by
   intro m
   induction m with
   | zero => simp
   | succ m ih => rw [range_flat_succ, List.length_append, ih, hL, Nat.succ_mul]
  rw [range_flat_succ]
  by_cases e : h = n
  ·subst e
   rw [List.getElem?_append_right (by rw [hlen]; omega), hlen]
   congr 1; omega
  ·have h1 : h < n := by omega
   rw [List.getElem?_append_left (by rw [hlen]; have := Nat.mul_le_mul_right L (show h + 1 ≤ n by omega); rw [Nat.succ_mul] at this; omega)]
   exact flat_at hL h1 hj
def prodL : List Nat → Nat
 | [] => 1
 | n :: ns => n * prodL ns
theorem candL_len : ∀ ns : List Nat, (candL ns).length = prodL ns
 | [] => rfl
 | n :: ns => by
  rw [candL, prodL, List.length_flatMap]
  simp only [List.length_map, candL_len ns]
  induction n with
  | zero => simp
  | succ n ih => rw [List.range_succ, List.map_append, List.sum_append, ih, Nat.succ_mul]; simp
theorem prodL_pos : ∀ {ns : List Nat}, (∀ n ∈ ns, 0 < n) → 0 < prodL ns
 | [], _ => Nat.one_pos
 | n :: ns, h => Nat.mul_pos (h n List.mem_cons_self) (prodL_pos fun m hm => h m (List.mem_cons_of_mem _ hm))
theorem cand_cons {n : Nat} {ns : List Nat} {h j : Nat} (hh : h < n) (hj : j < prodL ns) : (candL (n :: ns))[h * prodL ns + j]? = ((candL ns)[j]?).map fun t => (h : Int) :: t := by
 rw [candL, flat_at (L := prodL ns) (fun h => by rw [List.length_map, candL_len]) hh hj, List.getElem?_map]
theorem cand_zero : ∀ {ns : List Nat}, (∀ n ∈ ns, 0 < n) → (candL ns)[0]? = some (List.replicate ns.length 0)
 | [], _ => rfl
 | n :: ns, h => by
  have h1 := prodL_pos fun m hm => h m (List.mem_cons_of_mem _ hm)
  have := cand_cons (n := n) (ns := ns) (h := 0) (j := 0) (h n List.mem_cons_self) h1
  rw [Nat.zero_mul] at this
  rw [this, cand_zero fun m hm => h m (List.mem_cons_of_mem _ hm)]; rfl
/-- where the j-th candidate of n :: ns lies -/
theorem cand_split {n : Nat} {ns : List Nat} {j : Nat} {xs : List Int} (hx : (candL (n :: ns))[j]? = some xs) : ∃ h j' t, j = h * prodL ns + j' ∧ h < n ∧ j' < prodL ns ∧ (candL ns)[j']? = some t ∧ xs = (h : Int) :: t := by
 have hj := (List.getElem?_eq_some_iff.1 hx).1
 rw [candL_len, prodL] at hj
 have hp : 0 < prodL ns := by
  rcases Nat.eq_zero_or_pos (prodL ns) with e | e
  ·rw [e] at hj; omega
  ·exact e
 have e : j = j / prodL ns * prodL ns + j % prodL ns := by rw [Nat.mul_comm]; exact (Nat.div_add_mod j (prodL ns)).symm
 have h1 : j / prodL ns < n := Nat.div_lt_of_lt_mul (by rw [Nat.mul_comm]; exact hj)
 have h2 : j % prodL ns < prodL ns := Nat.mod_lt _ hp
 have h3 := cand_cons (n := n) (ns := ns) h1 h2
 rw [← e, hx] at h3
 cases ht : (candL ns)[j % prodL ns]? with
 | none => rw [ht] at h3; cases h3
 | some t => rw [ht] at h3; exact ⟨_, _, t, e, h1, h2, ht, Option.some.inj h3⟩
/-- all digits at their end: the last candidate -/
theorem cand_last : ∀ {ns : List Nat} {j : Nat} {xs : List Int}, (candL ns)[j]? = some xs → (∀ (k n : Nat) (x : Int), ns[k]? = some n → xs[k]? = some x → x = (n : Int) - 1) → j + 1 = prodL ns
 | [], j, xs, hx, _ => by
  have := (List.getElem?_eq_some_iff.1 hx).1
  rw [candL_len] at this
  simp only [prodL] at this ⊢; omega
 | n :: ns, j, xs, hx, hm => by
  obtain ⟨h, j', t, rfl, h1, h2, h3, rfl⟩ := cand_split hx
  have e1 := hm 0 n (h : Int) rfl rfl
  have e2 := cand_last h3 fun k m x hk hx => hm (k + 1) m x (by simpa using hk) (by simpa using hx)
  rw [prodL, show n = h + 1 by omega, Nat.succ_mul]; omega
/-- the next candidate -/
theorem cand_next : ∀ {ns : List Nat} {j m : Nat} {xs : List Int} {a : Int} {n : Nat}, (∀ n ∈ ns, 0 < n) → (candL ns)[j]? = some xs → (∀ (k n : Nat) (x : Int), m < k → ns[k]? = some n → xs[k]? = some x → x = (n : Int) - 1) → xs[m]? = some a → ns[m]? = some n → a ≠ (n : Int) - 1 →
  (candL ns)[j + 1]? = some (xs.take m ++ (a + 1) :: List.replicate (xs.length - (m + 1)) 0)
 | [], j, m, xs, a, n, _, hx, _, ha, hn, _ => by simp at hn
 | n0 :: ns, j, m, xs, a, n, hp, hx, hm, ha, hn, hne => by
  obtain ⟨h, j', t, rfl, h1, h2, h3, rfl⟩ := cand_split hx
  have hp' : ∀ n ∈ ns, 0 < n := fun q hq => hp q (List.mem_cons_of_mem _ hq)
  have hlen : t.length = ns.length := (candL_mem.1 (List.mem_of_getElem? h3)).1
  cases m with
  | zero =>
   simp at ha hn; subst ha; subst hn
   have e2 := cand_last h3 fun k q x hk hx => hm (k + 1) q x (by omega) (by simpa using hk) (by simpa using hx)
   have e3 := cand_cons (n := n0) (ns := ns) (h := h + 1) (j := 0) (by omega) (prodL_pos hp')
   rw [show (h + 1) * prodL ns + 0 = h * prodL ns + j' + 1 by rw [Nat.succ_mul]; omega] at e3
   rw [e3, cand_zero hp']
   simp [hlen]
  | succ m =>
   have ha' : t[m]? = some a := by simpa using ha
   have hn' : ns[m]? = some n := by simpa using hn
   have ih := cand_next hp' h3 (fun k q x hk hq hx => hm (k + 1) q x (by omega) (by simpa using hq) (by simpa using hx)) ha' hn' hne
   have hj : j' + 1 < prodL ns := by
    have := (List.getElem?_eq_some_iff.1 ih).1
    rwa [candL_len] at this
   have e3 := cand_cons (n := n0) (ns := ns) (h := h) (j := j' + 1) h1 hj
   rw [← Nat.add_assoc] at e3
   rw [e3, ih]
   simp
/-- how many truths leave a head, and the most of them -/
def cntH (l : List (List Int)) (q : Nat) (h : Int) : Nat := (l.filter fun t => decide (t[q]? = some h)).length
def worstK (l : List (List Int)) (q : Nat) : Nat → Int
 | 0 => 0
 | k + 1 => maxI (worstK l q k) (cntH l q (k : Int))
def worstN (l : List (List Int)) (q : Nat) : Int := worstK l q 3
theorem cntH_snoc {l : List (List Int)} {i : Nat} {t : List Int} {q : Nat} {h : Int} (ht : l[i]? = some t) : cntH (l.take (i + 1)) q h = cntH (l.take i) q h + if t[q]? = some h then 1 else 0 := by
 rw [cntH, take_snoc ht, List.filter_append, List.length_append, List.filter_cons, List.filter_nil, cntH]
 congr 1
 by_cases e : t[q]? = some h <;> simp [e]
theorem cntH_le (l : List (List Int)) (q : Nat) (h : Int) : cntH l q h ≤ l.length := List.length_filter_le _ _
end Go.Pk

namespace Go.Pk
open Go Go.RowKit
theorem sizes_len (p : Poll) : (sizesP p).length = p.questions.length := by rw [sizesP, List.length_map]
theorem sizes_at {p : Poll} {k : Nat} {q : Question} (hq : p.questions[k]? = some q) : (sizesP p)[k]? = some q.heads.length := by rw [sizesP, List.getElem?_map, hq]; rfl
theorem sizes_ok {p : Poll} (h : pollB p = true) : ∀ n ∈ sizesP p, 2 ≤ n ∧ n ≤ 3 := by
 intro n hn
 obtain ⟨q, hq, rfl⟩ := List.mem_map.1 hn
 obtain ⟨i, hi⟩ := List.mem_iff_getElem?.1 hq
 have := poll_quest h hi
 exact ⟨this.2.1, this.2.2.1⟩
theorem sizes_pos {p : Poll} (h : pollB p = true) : ∀ n ∈ sizesP p, 0 < n := fun n hn => by have := sizes_ok h n hn; omega
theorem prod_pow : ∀ {ns : List Nat}, (∀ n ∈ ns, n ≤ 3) → prodL ns ≤ 3 ^ ns.length
 | [], _ => Nat.le_refl _
 | n :: ns, h => by
  rw [prodL, List.length_cons, Nat.pow_succ, Nat.mul_comm]
  exact Nat.mul_le_mul (prod_pow fun m hm => h m (List.mem_cons_of_mem _ hm)) (h n List.mem_cons_self)
theorem prod_le {p : Poll} (h : pollB p = true) : prodL (sizesP p) ≤ 729 := by
 refine Nat.le_trans (prod_pow fun n hn => (sizes_ok h n hn).2) ?_
 have : (sizesP p).length ≤ 6 := by rw [sizes_len]; exact (poll_len h).1
 exact Nat.pow_le_pow_right (by omega) this
theorem cand_xlen {p : Poll} {j : Nat} {xs : List Int} (hx : (candL (sizesP p))[j]? = some xs) : xs.length = p.questions.length := by
 rw [(candL_mem.1 (List.mem_of_getElem? hx)).1, sizes_len]
theorem odo_at {xs : List Int} {m : Nat} {a : Int} {R : List Int} (h : (xs.take m ++ R)[m - 1]? = some a) (h1 : 1 ≤ m) (h2 : m ≤ xs.length) : xs[m - 1]? = some a := by
 rw [List.getElem?_append_left (by rw [List.length_take]; omega), List.getElem?_take_of_lt (by omega)] at h
 exact h
theorem odo_set {xs : List Int} {m : Nat} {b : Int} (h1 : 1 ≤ m) (h2 : m ≤ xs.length) : (xs.take m ++ List.replicate (xs.length - m) 0).set (m - 1) b = xs.take (m - 1) ++ b :: List.replicate (xs.length - m) 0 := by
 have hx : xs[m - 1]? = some xs[m - 1] := List.getElem?_eq_getElem (by omega)
 have e : xs.take m = xs.take (m - 1) ++ [xs[m - 1]] := by
  have := take_snoc hx
  rwa [show m - 1 + 1 = m by omega] at this
 rw [e, List.append_assoc, List.set_append_right _ _ (by rw [List.length_take]; omega), List.length_take, Nat.min_eq_left (by omega), Nat.sub_self]
 rfl
theorem odo_zero {xs : List Int} {m : Nat} (h1 : 1 ≤ m) (h2 : m ≤ xs.length) : (xs.take m ++ List.replicate (xs.length - m) 0).set (m - 1) 0 = xs.take (m - 1) ++ List.replicate (xs.length - (m - 1)) 0 := by
 rw [odo_set h1 h2, show xs.length - (m - 1) = xs.length - m + 1 by omega]; rfl
theorem odo_max {p : Poll} {xs : List Int} {m : Nat} {a : Int} {q : Question} (hz : ∀ (k n : Nat) (x : Int), m ≤ k → (sizesP p)[k]? = some n → xs[k]? = some x → x = (n : Int) - 1) (hm : 1 ≤ m) (ha : xs[m - 1]? = some a) (hq : p.questions[m - 1]? = some q) (he : a = (q.heads.length : Int) - 1) :
  ∀ (k n : Nat) (x : Int), m - 1 ≤ k → (sizesP p)[k]? = some n → xs[k]? = some x → x = (n : Int) - 1 := by
 intro k n x hk hn hx
 by_cases e : k = m - 1
 ·subst e
  rw [sizes_at hq] at hn; cases hn
  rw [ha] at hx; cases hx; exact he
 ·exact hz k n x (by omega) hn hx
theorem odo_next {p : Poll} {xs : List Int} {j m : Nat} {a : Int} {q : Question} (hp : pollB p = true) (hx : (candL (sizesP p))[j]? = some xs) (hz : ∀ (k n : Nat) (x : Int), m ≤ k → (sizesP p)[k]? = some n → xs[k]? = some x → x = (n : Int) - 1) (hm : 1 ≤ m) (ha : xs[m - 1]? = some a) (hq : p.questions[m - 1]? = some q) (he : ¬ a = (q.heads.length : Int) - 1) :
  (candL (sizesP p))[j + 1]? = some (xs.take (m - 1) ++ (a + 1) :: List.replicate (xs.length - m) 0) := by
 have := cand_next (sizes_pos hp) hx (m := m - 1) (fun k n x hk => hz k n x (by omega)) ha (sizes_at hq) he
 rwa [show xs.length - (m - 1 + 1) = xs.length - m by omega] at this
theorem cand_small {p : Poll} {xs : List Int} {j k : Nat} {a : Int} (hp : pollB p = true) (hx : (candL (sizesP p))[j]? = some xs) (ha : xs[k]? = some a) : 0 ≤ a ∧ a ≤ 2 := by
 have h1 := candL_mem.1 (List.mem_of_getElem? hx)
 have hk : k < (sizesP p).length := by rw [← h1.1]; exact (List.getElem?_eq_some_iff.1 ha).1
 have h2 := h1.2 k _ a (List.getElem?_eq_getElem hk) ha
 have h3 := sizes_ok hp _ (List.getElem_mem hk)
 omega
theorem truths_end {p : Poll} {xs : List Int} {j : Nat} (hx : (candL (sizesP p))[j]? = some xs) (hz : ∀ (k n : Nat) (x : Int), 0 ≤ k → (sizesP p)[k]? = some n → xs[k]? = some x → x = (n : Int) - 1) : truthsL p = ((candL (sizesP p)).take j).filter (trueB p) ++ if trueB p xs = true then [xs] else [] := by
 have h1 := cand_last hx fun k n x => hz k n x (Nat.zero_le _)
 have h2 : (candL (sizesP p)).take (j + 1) = candL (sizesP p) := List.take_of_length_le (by rw [candL_len]; omega)
 rw [truthsL, ← h2, take_snoc hx, List.filter_append, List.filter_cons, List.filter_nil]
 rw [List.take_append_of_le_length (by rw [List.length_take]; have := (List.getElem?_eq_some_iff.1 hx).1; omega), List.take_take, Nat.min_self]
theorem truths_le {p : Poll} (hp : pollB p = true) : (truthsL p).length ≤ 729 := by
 refine Nat.le_trans (List.length_filter_le _ _) ?_
 rw [candL_len]; exact prod_le hp
end Go.Pk

namespace Go.Pk
open Go Go.RowKit
def ltL : List Int → List Int → Bool
 | a :: s, b :: t => if a = b then ltL s t else decide (a < b)
 | _, _ => false
def beforeL (a b : List Int) : Bool := if a.length ≠ b.length then decide (a.length < b.length) else ltL a b
theorem ltL_self : ∀ a : List Int, ltL a a = false
 | [] => rfl
 | a :: s => by simp only [ltL, if_true]; exact ltL_self s
theorem ltL_at : ∀ {a b : List Int} {i : Nat} {x y : Int}, a.take i = b.take i → a[i]? = some x → b[i]? = some y → x ≠ y → ltL a b = decide (x < y)
 | [], _, _, _, _, _, h, _, _ => by simp at h
 | _ :: _, [], _, _, _, _, _, h, _ => by simp at h
 | a :: s, b :: t, 0, x, y, _, h1, h2, h => by
  simp at h1 h2; subst h1; subst h2
  rw [ltL, if_neg h]
 | a :: s, b :: t, i + 1, x, y, h0, h1, h2, h => by
  simp only [List.take_succ_cons, List.cons.injEq] at h0
  rw [ltL, if_pos h0.1]
  exact ltL_at h0.2 (by simpa using h1) (by simpa using h2) h
def alikeL (a b l : List Int) : Bool := l.all fun k => decide (a[k.toNat]? = b[k.toNat]?)
def tellsAt (ts : List (List Int)) (l : List Int) (i : Nat) : Bool := match ts[i]? with | some t => (ts.take i).all fun u => !alikeL t u l | none => true
def tellsL (ts : List (List Int)) (l : List Int) : Bool := (List.range ts.length).all (tellsAt ts l)
theorem tells_no {ts : List (List Int)} {l : List Int} {i : Nat} (h : tellsAt ts l i = false) : tellsL ts l = false := by
 refine range_no h ?_
 refine Classical.byContradiction fun q => ?_
 simp [tellsAt, List.getElem?_eq_none (show ts.length ≤ i by omega)] at h
theorem tells_no2 {ts : List (List Int)} {l : List Int} {i k : Nat} {t u : List Int} (ht : ts[i]? = some t) (hu : ts[k]? = some u) (hk : k < i) (h : alikeL t u l = true) : tellsL ts l = false := by
 refine tells_no (i := i) ?_
 simp only [tellsAt, ht]
 refine List.all_eq_false.2 ⟨u, List.mem_of_getElem? (i := k) (by rw [List.getElem?_take_of_lt hk]; exact hu), by simp [h]⟩
def membersL (s : Int) (n : Nat) : List Int := ((List.range n).filter fun (i : Nat) => decide (bitN s (i : Int) = 1)).map fun (i : Nat) => (i : Int)
theorem members_succ (s : Int) (n : Nat) : membersL s (n + 1) = membersL s n ++ if bitN s (n : Int) = 1 then [(n : Int)] else [] := by
 rw [membersL, List.range_succ, List.filter_append, List.map_append, List.filter_cons, List.filter_nil, membersL]
 by_cases h : bitN s (n : Int) = 1 <;> simp [h]
theorem members_len (s : Int) (n : Nat) : (membersL s n).length ≤ n := by
 rw [membersL, List.length_map]
 have := List.length_filter_le (fun i : Nat => decide (bitN s (i : Int) = 1)) (List.range n)
 rwa [List.length_range] at this
theorem members_mem {s : Int} {n : Nat} {k : Int} (h : k ∈ membersL s n) : 0 ≤ k ∧ k < (n : Int) := by
 obtain ⟨i, hi, rfl⟩ := List.mem_map.1 h
 have := List.mem_range.1 (List.mem_filter.1 hi).1
 omega
/-- the fewest questions that tell the truths apart, so far -/
def askK (ts : List (List Int)) (n : Nat) : Nat → Option (List Int)
 | 0 => none
 | k + 1 => if ((match askK ts n k with | none => true | some b => beforeL (membersL (k : Int) n) b) && tellsL ts (membersL (k : Int) n)) = true then some (membersL (k : Int) n) else askK ts n k
def askR7 (p : Poll) : List Int := if allE p true = 0 then (askK (truthsL p) p.questions.length (2 ^ p.questions.length)).getD [] else []
/-- the question that is to be asked next, so far -/
def nextK (ts : List (List Int)) : Nat → Nat
 | 0 => 0
 | k + 1 => if worstN ts (k + 1) < worstN ts (nextK ts k) then k + 1 else nextK ts k
theorem nextK_le (ts : List (List Int)) : ∀ k, nextK ts k ≤ k
 | 0 => Nat.le_refl _
 | k + 1 => by
  have := nextK_le ts k
  rw [nextK]; split <;> omega
def nextE (p : Poll) : Int := if allE p true ≠ 0 then allE p true else if (truthsL p).length = 1 then 6 else 0
def nextR (p : Poll) : Int := if nextE p = 0 then (nextK (truthsL p) (p.questions.length - 1) : Int) else 0
theorem truth_len {p : Poll} {t : List Int} (h : t ∈ truthsL p) : t.length = p.questions.length := true_len (List.mem_filter.1 h).2
theorem truth_in {p : Poll} {t : List Int} (h : t ∈ truthsL p) {k : Nat} {a : Int} {q : Question} (ha : t[k]? = some a) (hq : p.questions[k]? = some q) : 0 ≤ a ∧ a < (q.heads.length : Int) := true_in (List.mem_filter.1 h).2 ha hq
/-- the heads of a question that are open -/
def openB (ts : List (List Int)) (q : Nat) (h : Int) : Bool := ts.any fun t => decide (t[q]? = some h)
def openK (ts : List (List Int)) (q n : Nat) : List Int := ((List.range n).filter fun (h : Nat) => openB ts q (h : Int)).map fun (h : Nat) => (h : Int)
def openR (p : Poll) (question : Int) : List Int := if allE p (inB question 0 ((p.questions.length : Int) - 1)) = 0 then openK (truthsL p) question.toNat (((p.questions[question.toNat]?).getD zQuestion).heads.length) else []
/-- how votes fall -/
def tallyL (vs : List Voter) (q n : Nat) : List Int := (List.range n).map fun (h : Nat) => (((vs.filter fun v => decide (v.votes[q]? = some (h : Int))).length : Nat) : Int)
theorem tally_len (vs : List Voter) (q n : Nat) : (tallyL vs q n).length = n := by simp [tallyL]
theorem tally_zero (q n : Nat) : List.replicate n (0 : Int) = tallyL [] q n := by
 refine List.ext_getElem (by simp [tally_len]) fun i h1 h2 => ?_
 simp [tallyL]
theorem tally_at (vs : List Voter) (q : Nat) {n h : Nat} (hh : h < n) : (tallyL vs q n)[h]? = some (((vs.filter fun v => decide (v.votes[q]? = some (h : Int))).length : Nat) : Int) := by
 rw [tallyL, List.getElem?_map, List.getElem?_range hh]; rfl
theorem tally_skip {vs : List Voter} {q n i : Nat} {v : Voter} {a : Int} (hv : vs[i]? = some v) (ha : v.votes[q]? = some a) (h : a < 0) : tallyL (vs.take (i + 1)) q n = tallyL (vs.take i) q n := by
 rw [tallyL, tallyL]
 refine List.map_congr_left fun k _ => ?_
 rw [take_snoc hv, List.filter_append, List.length_append, List.filter_cons, List.filter_nil, ha, if_neg (by simp; omega)]
 rfl
theorem tally_set {vs : List Voter} {q n i : Nat} {v : Voter} {a x : Int} (hv : vs[i]? = some v) (ha : v.votes[q]? = some a) (h : 0 ≤ a) (hx : (tallyL (vs.take i) q n)[a.toNat]? = some x) : (tallyL (vs.take i) q n).set a.toNat (x + 1) = tallyL (vs.take (i + 1)) q n := by
 have hl := (List.getElem?_eq_some_iff.1 hx).1
 rw [tally_len] at hl
 rw [tally_at _ _ hl] at hx
 refine List.ext_getElem? fun k => ?_
 by_cases hk : k < n
 ·rw [tally_at _ _ hk, take_snoc hv, List.filter_append, List.length_append, List.filter_cons, List.filter_nil, ha]
  by_cases e : k = a.toNat
  ·subst e
   rw [List.getElem?_set_self (by rw [tally_len]; exact hk), ← Option.some.inj hx, if_pos (by simp; omega)]
   simp
  ·rw [List.getElem?_set_ne (Ne.symm e), tally_at _ _ hk, if_neg (by simp; omega)]
   simp
 ·rw [List.getElem?_eq_none (by rw [List.length_set, tally_len]; omega), List.getElem?_eq_none (by rw [tally_len]; omega)]
def tallyE (p : Poll) (question : Int) : Int := if checkP p ≠ 0 then checkP p else if inB question 0 ((p.questions.length : Int) - 1) = true then 0 else 2
def tallyR (p : Poll) (question : Int) : List Int := if tallyE p question = 0 then tallyL p.voters question.toNat (((p.questions[question.toNat]?).getD zQuestion).heads.length) else []
theorem bits_ok {s b : Int} (h0 : 0 ≤ s) (h1 : s ≤ 1000000) : 0 ≤ s / 2 ^ b.toNat ∧ s / 2 ^ b.toNat ≤ 1000000 := by
 have hp : (0 : Int) < 2 ^ b.toNat := by
  have : 0 < (2 : Nat) ^ b.toNat := Nat.pow_pos (by omega)
  exact_mod_cast this
 exact ⟨Int.ediv_nonneg h0 (by omega), Int.le_trans (Int.ediv_le_self _ h0) h1⟩
theorem pow_le {n : Nat} (h : n ≤ 6) : 2 ^ n ≤ 64 ∧ (2 : Int) ^ ((n : Int)).toNat = ((2 ^ n : Nat) : Int) := by
 refine ⟨Nat.le_trans (Nat.pow_le_pow_right (by omega) h) (by decide), ?_⟩
 rw [Int.toNat_natCast]; exact_mod_cast rfl
theorem votes_in {p : Poll} {v : Voter} (h : votesOk p v = true) {k : Nat} {a : Int} {q : Question} (ha : v.votes[k]? = some a) (hq : p.questions[k]? = some q) : -1 ≤ a ∧ a < (q.heads.length : Int) := by
 rw [votesOk, List.all_eq_true] at h
 have := h k (List.mem_range.2 (List.getElem?_eq_some_iff.1 ha).1)
 simp only [votesAt, ha, hq, inB, Bool.and_eq_true, decide_eq_true_eq] at this
 omega
theorem tally_small {vs : List Voter} {q n h : Nat} {x : Int} (hx : (tallyL vs q n)[h]? = some x) : 0 ≤ x ∧ x ≤ (vs.length : Int) := by
 have hl := (List.getElem?_eq_some_iff.1 hx).1
 rw [tally_len] at hl
 rw [tally_at _ _ hl] at hx
 have := List.length_filter_le (fun v : Voter => decide (v.votes[q]? = some (h : Int))) vs
 have := Option.some.inj hx
 omega
end Go.Pk

namespace Go.Pk
open Go Go.RowKit
/-- what all truths have in common -/
def setAt (ts : List (List Int)) (a0 : List Int) (k : Nat) : Int := match a0[k]? with | some h => if (ts.all fun t => decide (t[k]? = some h)) = true then h else -1 | none => -1
def setK (ts : List (List Int)) (a0 : List Int) : List Int := (List.range a0.length).map (setAt ts a0)
def setL7 (ts : List (List Int)) : List Int := match ts[0]? with | some a0 => setK ts a0 | none => []
/-- the i-th truth taken in, up to the k-th question -/
def setM (ts : List (List Int)) (a0 : List Int) (i k : Nat) : List Int := (setK (ts.take (i + 1)) a0).take k ++ (setK (ts.take i) a0).drop k
def settledR (p : Poll) : List Int := if allE p true = 0 then setL7 (truthsL p) else []
/-- how often a voter is wrong, in all truths -/
def spanK (v : Voter) (ts : List (List Int)) : Span := ts.foldl (fun s t => ⟨minI s.lo (wrongN v t), maxI s.hi (wrongN v t)⟩) ⟨6, 0⟩
theorem spanK_snoc {v : Voter} {ts : List (List Int)} {i : Nat} {t : List Int} (ht : ts[i]? = some t) : spanK v (ts.take (i + 1)) = ⟨minI (spanK v (ts.take i)).lo (wrongN v t), maxI (spanK v (ts.take i)).hi (wrongN v t)⟩ := by rw [spanK, take_snoc ht, List.foldl_append]; rfl
theorem spanK_one {v : Voter} {ts : List (List Int)} {t : List Int} (ht : ts[0]? = some t) (h : wrongN v t ≤ 6) : spanK v (ts.take 1) = ⟨wrongN v t, wrongN v t⟩ := by
 have := spanK_snoc (v := v) ht
 simp only [Nat.zero_add, List.take_zero, spanK, List.foldl_nil] at this ⊢
 rw [this]
 simp only [minI, maxI, Span.mk.injEq]
 constructor <;> split <;> omega
def wrongsR (p : Poll) (voter : Int) : Span := if allE p (inB voter 0 ((p.voters.length : Int) - 1)) = 0 then spanK ((p.voters[voter.toNat]?).getD zVoter) (truthsL p) else zSpan
theorem wrongN_le {p : Poll} {t : List Int} (h : t ∈ truthsL p) (v : Voter) : wrongN v t ≤ p.questions.length := by
 rw [wrongN, ← truth_len h]
 have := List.length_filter_le (wrongAt v t) (List.range t.length)
 rwa [List.length_range] at this
end Go.Pk

namespace Go.Pk
open Go Go.RowKit
section
variable {P : Program} {σ : Env} {w : World} {ty : TypeId} {pos : String} {aft : Array Edge} {g : Option (Nat × Bool)} {dst : Option Tmp}
theorem r_sgtr {t t' : TypeId} {x y : Operand} {a b : Str} (hx : ev σ x = strV a) (hy : ev σ y = strV b) : Run P σ w ⟨dst, .binOp .gtr t x y t', ty, pos, aft, g⟩ (.bool (!(Op.bytesLess a b || decide (a = b)))) w := by
 simp only [strV] at hx hy
 simp [Run, execOp, hx, hy, eqGuard, binOp, Op.stringOp, beq_str]
theorem r_index_arrv {t e : TypeId} {x ix : Operand} {i : Int} {k m n : Nat} {vs us : List Value} (hx : ev σ x = .agg vs.toArray) (hi : ev σ ix = .int .i64 i) (hk : i = (k : Int)) (hlt : Nat.blt k n = true) (hu : P.underlying t = some (.array n e)) (ha : ∀ w, (isAgg e).run P w = .ok true w) (hz : ∀ w, (sizeOf e).run P w = .ok m w) (hv : (vs.drop (k * m)).take m = us) :
  Run P σ w ⟨dst, .index t x ix, ty, pos, aft, g⟩ (.agg us.toArray) w := by
 subst hk hv
 have h1 : k < n := by rwa [Nat.blt_eq] at hlt
 simp [Run, execOp, hx, hi, Instr.index, asIntOf, run_underlying hu, h1, part, ha, hz]
end
def cmpT (a b : Str) : Int := if sLt a b = true then -1 else if a = b then 0 else 1
/-- the first of some numbers that is not 0 -/
def orL : List Int → Int
 | [] => 0
 | a :: l => if a ≠ 0 then a else orL l
theorem orL_drop {l : List Int} {k : Nat} {a : Int} (h : l[k]? = some a) : orL (l.drop k) = if a ≠ 0 then a else orL (l.drop (k + 1)) := by rw [drop_cons h]; rfl
theorem places_lt (a b : Place) : decide (orL [cmpI a.chapter b.chapter, cmpI a.line b.line, cmpI a.word b.word] < 0) = beforeB a b := by
 rcases a with ⟨a1, a2, a3⟩; rcases b with ⟨b1, b2, b3⟩
 simp only [orL, cmpI, beforeB, ne_eq]
 rw [Bool.eq_iff_iff, decide_eq_true_eq]
 by_cases h1 : a1 = b1 <;> by_cases h2 : a2 = b2 <;> simp only [h1, h2, not_true_eq_false, not_false_eq_true, if_true, if_false, decide_eq_true_eq, Int.lt_irrefl] <;> (repeat' split) <;> omega
theorem heads_lt (a b : Head) : decide (orL [cmpT a.stem b.stem, cmpI a.mark b.mark] < 0) = headLt a b := by
 rcases a with ⟨s1, m1⟩; rcases b with ⟨s2, m2⟩
 simp only [orL, cmpT, cmpI, headLt, ne_eq]
 rw [Bool.eq_iff_iff, decide_eq_true_eq]
 by_cases h1 : sLt s1 s2 = true
 ·simp [h1]
 ·simp only [h1, if_false, Bool.or_eq_true, Bool.and_eq_true, decide_eq_true_eq, false_or, Bool.false_eq_true]
  by_cases h2 : s1 = s2
  ·subst h2
   simp only [if_true, not_true_eq_false, if_false, true_and]
   (repeat' split) <;> omega
  ·simp [h2]
/-- a question, but for its heads -/
def questB (p : Poll) (i : Nat) (q : Question) : Bool := placeB p.text q.at_ && (decide (i = 0) || beforeB ((p.questions[i - 1]?).getD zQuestion).at_ q.at_) && inB q.heads.length 2 3
def questK (p : Poll) (i : Nat) (q : Question) (k : Nat) : Bool := questB p i q && (List.range k).all (headsOkAt q.heads)
theorem questK_succ (p : Poll) (i : Nat) (q : Question) (k : Nat) : questK p i q (k + 1) = (questK p i q k && headsOkAt q.heads k) := by
 simp only [questK, List.range_succ, List.all_append, List.all_cons, List.all_nil, Bool.and_true, Bool.and_assoc]
theorem questK_zero (p : Poll) (i : Nat) (q : Question) : questK p i q 0 = questB p i q := by simp [questK]
theorem quest_eq {p : Poll} {i k : Nat} {q : Question} (hq : p.questions[i]? = some q) (hk : q.heads.length = k) : questAt p i = questK p i q k := by
 subst hk
 simp only [questAt, hq, questK, questB, headsOk]
section
variable {p : Poll} {i k : Nat} {q q1 : Question} {hd h1 : Head}
theorem q_init0 (a : (if placeB p.text q.at_ = true then (0 : Int) else 12) = 0) (b : inAll [(q.heads.length : Int)] 2 3 = true) (c : (i : Int) = 0) : true = questB p i q := by
 have a : placeB p.text q.at_ = true := by
  cases e : placeB p.text q.at_
  ·rw [e] at a; simp at a
  ·rfl
 rw [inAll_one] at b
 simp only [questB, a, b, decide_eq_true (show i = 0 by omega), Bool.and_true, Bool.true_or]
theorem q_init1 (a : (if placeB p.text q.at_ = true then (0 : Int) else 12) = 0) (b : inAll [(q.heads.length : Int)] 2 3 = true) (c : ¬ (i : Int) = 0) (d : p.questions[i - 1]? = some q1) : decide (orL [cmpI q1.at_.chapter q.at_.chapter, cmpI q1.at_.line q.at_.line, cmpI q1.at_.word q.at_.word] < 0) = questB p i q := by
 have a : placeB p.text q.at_ = true := by
  cases e : placeB p.text q.at_
  ·rw [e] at a; simp at a
  ·rfl
 rw [inAll_one] at b
 simp only [questB, a, b, decide_eq_false (show ¬ i = 0 by omega), Bool.and_true, Bool.true_and, Bool.false_or, places_lt, d, Option.getD_some]
theorem q_init2 (b : inAll [(q.heads.length : Int)] 2 3 = false) : false = questB p i q := by
 rw [inAll_one] at b
 simp only [questB, b, Bool.and_false]
theorem q_init3 (a : ¬ (if placeB p.text q.at_ = true then (0 : Int) else 12) = 0) : false = questB p i q := by
 have a : placeB p.text q.at_ = false := by
  cases e : placeB p.text q.at_
  ·rfl
  ·rw [e] at a; simp at a
 simp only [questB, a, Bool.false_and]
theorem q_step0 (a : questK p i q k = true) (b : headB hd = true) (c : (k : Int) = 0) (d : q.heads[k]? = some hd) : true = (questK p i q k && headsOkAt q.heads k) := by
 simp only [a, headsOkAt, d, b, decide_eq_true (show k = 0 by omega), Bool.true_or, Bool.and_true]
theorem q_step1 (a : questK p i q k = true) (b : headB hd = true) (c : ¬ (k : Int) = 0) (d : q.heads[k]? = some hd) (e : q.heads[k - 1]? = some h1) : decide (orL [cmpT h1.stem hd.stem, cmpI h1.mark hd.mark] < 0) = (questK p i q k && headsOkAt q.heads k) := by
 simp only [a, headsOkAt, d, b, e, decide_eq_false (show ¬ k = 0 by omega), Bool.false_or, Bool.true_and, heads_lt, Option.getD_some]
theorem q_step2 (b : headB hd = false) (d : q.heads[k]? = some hd) : false = (questK p i q k && headsOkAt q.heads k) := by
 simp only [headsOkAt, d, b, Bool.false_and, Bool.and_false]
theorem q_step3 (a : questK p i q k = false) : false = (questK p i q k && headsOkAt q.heads k) := by simp only [a, Bool.false_and]
end
/-- what a voter is asked -/
def askAt (p : Poll) (v : Voter) (i : Nat) : Nat → Bool
 | 0 => inB v.id 0 9999
 | 1 => inB v.wrong 0 6
 | 2 => decide (v.votes.length = p.questions.length)
 | 3 => votesOk p v
 | _ => !((p.voters.take i).any fun u => decide (u.id = v.id))
theorem ask_all {p : Poll} {v : Voter} {i k : Nat} (hv : p.voters[i]? = some v) (h : ∀ m, m < k → askAt p v i m = true) (hk : 5 ≤ k) : voterAt p i = true := by
 have h0 := h 0 (by omega); have h1 := h 1 (by omega); have h2 := h 2 (by omega); have h3 := h 3 (by omega); have h4 := h 4 (by omega)
 simp only [askAt] at h0 h1 h2 h3 h4
 simp only [voterAt, hv, voterOk, h0, h1, h2, h3, Bool.and_true, Bool.true_and]
 rw [List.all_eq_true]
 intro u hu
 simp only [Bool.not_eq_true', List.any_eq_false, decide_eq_true_eq] at h4
 exact decide_eq_true (h4 u hu)
theorem ask_no {p : Poll} {v : Voter} {i k : Nat} (hv : p.voters[i]? = some v) (h : askAt p v i k = false) : pollB p = false := by
 refine poll_v (i := i) ?_
 simp only [voterAt, hv, voterOk]
 match k, h with
 | 0, h => simp only [askAt] at h; simp [h]
 | 1, h => simp only [askAt] at h; simp [h]
 | 2, h => simp only [askAt] at h; simp [h]
 | 3, h => simp only [askAt] at h; simp [h]
 | k + 4, h =>
  simp only [askAt, Bool.not_eq_false', List.any_eq_true, decide_eq_true_eq] at h
  obtain ⟨u, hu, e⟩ := h
  have : ((p.voters.take i).all fun u => decide (u.id ≠ v.id)) = false := List.all_eq_false.2 ⟨u, hu, by simp [e]⟩
  rw [this, Bool.and_false]
theorem asked_len {p : Poll} {v u : Voter} {j : Nat} (hv : p.voters[j]? = some v) (h : askAt p v j 2 = true) : u.votes.length = p.questions.length ∨ p.voters[((j : Int)).toNat]? ≠ some u := by
 by_cases e : p.voters[((j : Int)).toNat]? = some u
 ·rw [Int.toNat_natCast, hv] at e
  cases e
  exact .inl (by simpa [askAt] using h)
 ·exact .inr e
theorem check_not {p : Poll} (h0 : checkN p.text p.lexicon = 0) (h : pollB p = false) : checkP p = 70 := by simp [checkP, h0, h]
theorem check_yes {p : Poll} (h0 : checkN p.text p.lexicon = 0) (h : pollB p = true) : checkP p = 0 := by simp [checkP, h0, h]
end Go.Pk

namespace Go.Pk
open Go Go.RowKit
def leftV (now : List Int) (v : Voter) : Int := v.wrong - (wrongN v now : Int)
/-- how often each may still be wrong -/
def leftL (p : Poll) (now : List Int) : List Int := p.voters.map (leftV now)
def leftM (p : Poll) (now : List Int) (h : Int) (i : Nat) : List Int := (p.voters.take i).map (leftV (now ++ [h])) ++ (p.voters.drop i).map (leftV now)
structure NowOk (p : Poll) (now : List Int) : Prop where
 len : now.length ≤ p.questions.length
 ins : ∀ k, k < now.length → inAt p now k = true
 wr : ∀ v ∈ p.voters, (wrongN v now : Int) ≤ v.wrong
theorem now_nil {p : Poll} (hp : pollB p = true) : NowOk p [] := by
 refine ⟨Nat.zero_le _, fun k hk => absurd hk (by simp), fun v hv => ?_⟩
 have := poll_voter hp hv
 have e : wrongN v [] = 0 := rfl
 rw [e]; omega
theorem now_true {p : Poll} {now : List Int} (h : NowOk p now) (hl : now.length = p.questions.length) : trueB p now = true :=
 true_yes (i := now.length) (k := p.voters.length) hl h.ins (Nat.le_refl _) (fun v hv => h.wr v (List.mem_of_mem_take hv)) (Nat.le_refl _)
theorem now_snoc {p : Poll} {now : List Int} {q : Question} {h : Nat} (hn : NowOk p now) (hq : p.questions[now.length]? = some q) (hh : h < q.heads.length) (hw : ∀ v ∈ p.voters, (wrongN v (now ++ [(h : Int)]) : Int) ≤ v.wrong) : NowOk p (now ++ [(h : Int)]) := by
 have hlt := (List.getElem?_eq_some_iff.1 hq).1
 refine ⟨by simp; omega, fun k hk => ?_, hw⟩
 rw [List.length_append, List.length_cons, List.length_nil] at hk
 by_cases e : k < now.length
 ·have := hn.ins k e
  simp only [inAt, List.getElem?_append_left e] at this ⊢
  exact this
 ·obtain rfl : k = now.length := by omega
  simp only [inAt, hq, List.getElem?_append_right (Nat.le_refl _), Nat.sub_self, List.getElem?_cons_zero, inB, Bool.and_eq_true, decide_eq_true_eq]
  omega
theorem leftL_len (p : Poll) (now : List Int) : (leftL p now).length = p.voters.length := by simp [leftL]
theorem leftM_len (p : Poll) (now : List Int) (h : Int) (i : Nat) : (leftM p now h i).length = p.voters.length := by simp [leftM]; omega
theorem leftM_zero (p : Poll) (now : List Int) (h : Int) : leftM p now h 0 = leftL p now := by simp [leftM, leftL]
theorem leftM_all {p : Poll} (now : List Int) (h : Int) {i : Nat} (hi : p.voters.length ≤ i) : leftM p now h i = leftL p (now ++ [h]) := by
 rw [leftM, List.take_of_length_le hi, List.drop_eq_nil_of_le hi]; simp [leftL]
theorem leftM_at {p : Poll} {now : List Int} {h : Int} {i : Nat} {v : Voter} (hv : p.voters[i]? = some v) : (leftM p now h i)[i]? = some (leftV now v) := by
 have hlt := (List.getElem?_eq_some_iff.1 hv).1
 rw [leftM, List.getElem?_append_right (by simp; omega)]
 simp [List.length_take, Nat.min_eq_left (Nat.le_of_lt hlt), hv]
theorem leftM_next {p : Poll} {now : List Int} {h : Int} {i : Nat} {v : Voter} (hv : p.voters[i]? = some v) : leftM p now h (i + 1) = (leftM p now h i).set i (leftV (now ++ [h]) v) := by
 have hlt := (List.getElem?_eq_some_iff.1 hv).1
 rw [leftM, leftM, take_snoc hv, drop_cons hv, List.map_append, List.map_cons, List.map_nil, List.map_cons, List.set_append_right _ _ (by simp; omega), List.length_map, List.length_take, Nat.min_eq_left (Nat.le_of_lt hlt), Nat.sub_self, List.set_cons_zero, List.append_assoc]
 rfl
theorem leftV_same {now : List Int} {h a : Int} {v : Voter} (ha : v.votes[now.length]? = some a) (hc : a < 0 ∨ a = h) : wrongN v (now ++ [h]) = wrongN v now := by
 rw [wrongN_snoc, ha, if_neg, Nat.add_zero]
 simp only [Bool.and_eq_true, decide_eq_true_eq]
 rintro ⟨h1, h2⟩
 rcases hc with hc | hc
 ·omega
 ·exact h2 hc
theorem leftV_less {now : List Int} {h a : Int} {v : Voter} (ha : v.votes[now.length]? = some a) (h1 : ¬ a < 0) (h2 : ¬ a = h) : wrongN v (now ++ [h]) = wrongN v now + 1 := by
 rw [wrongN_snoc, ha, if_pos]
 simp only [Bool.and_eq_true, decide_eq_true_eq]
 exact ⟨by omega, h2⟩
theorem leftM_skip {p : Poll} {now : List Int} {h a : Int} {i : Nat} {v : Voter} (hv : p.voters[i]? = some v) (ha : v.votes[now.length]? = some a) (hc : a < 0 ∨ a = h) : leftM p now h (i + 1) = leftM p now h i := by
 rw [leftM_next hv]
 have e : leftV (now ++ [h]) v = leftV now v := by rw [leftV, leftV, leftV_same ha hc]
 rw [e]
 have q := leftM_at (now := now) (h := h) hv
 refine List.ext_getElem? fun j => ?_
 rw [List.getElem?_set]
 split
 ·rename_i ej
  subst ej
  rw [q, if_pos (List.getElem?_eq_some_iff.1 q).1]
 ·rfl
theorem leftM_less {p : Poll} {now : List Int} {h a : Int} {i : Nat} {v : Voter} (hv : p.voters[i]? = some v) (ha : v.votes[now.length]? = some a) (h1 : ¬ a < 0) (h2 : ¬ a = h) : leftM p now h (i + 1) = (leftM p now h i).set i (leftV now v - 1) := by
 rw [leftM_next hv]
 have e : leftV (now ++ [h]) v = leftV now v - 1 := by rw [leftV, leftV, leftV_less ha h1 h2]; omega
 rw [e]
theorem left_neg {now : List Int} {h a z : Int} {v : Voter} (ha : v.votes[now.length]? = some a) (h1 : ¬ a < 0) (h2 : ¬ a = h) (hz : z = leftV now v - 1) (hn : z < 0) : v.wrong < (wrongN v (now ++ [h]) : Int) := by
 rw [leftV_less ha h1 h2]; rw [leftV] at hz; omega
theorem left_pos {now : List Int} {h a z : Int} {v : Voter} (ha : v.votes[now.length]? = some a) (h1 : ¬ a < 0) (h2 : ¬ a = h) (hz : z = leftV now v - 1) (hn : ¬ z < 0) : (wrongN v (now ++ [h]) : Int) ≤ v.wrong := by
 rw [leftV_less ha h1 h2]; rw [leftV] at hz; omega
theorem left_skip {p : Poll} {now : List Int} {h a : Int} {v : Voter} (hn : NowOk p now) (hv : v ∈ p.voters) (ha : v.votes[now.length]? = some a) (hc : a < 0 ∨ a = h) : (wrongN v (now ++ [h]) : Int) ≤ v.wrong := by
 rw [leftV_same ha hc]; exact hn.wr v hv
theorem left_at {p : Poll} {now : List Int} {h x : Int} {i : Nat} {v : Voter} (hv : p.voters[i]? = some v) (hx : (leftM p now h i)[i]? = some x) : x = leftV now v := by
 rw [leftM_at hv] at hx; exact (Option.some.inj hx).symm
theorem left_bound {p : Poll} {now : List Int} {v : Voter} (hp : pollB p = true) (hn : NowOk p now) (hv : v ∈ p.voters) : 0 ≤ leftV now v ∧ leftV now v ≤ 6 := by
 have h1 := poll_voter hp hv
 have h2 := hn.wr v hv
 rw [leftV]; omega
theorem set_at {l : List Int} {i : Nat} {x z : Int} (h : (l.set i x)[i]? = some z) : z = x := by
 rw [List.getElem?_set] at h
 simp only [if_true] at h
 split at h
 ·exact (Option.some.inj h).symm
 ·cases h
def startL (p : Poll) (i : Nat) : List Int := (p.voters.take i).map (·.wrong) ++ List.replicate (p.voters.length - i) 0
theorem startL_zero (p : Poll) : startL p 0 = List.replicate p.voters.length 0 := by simp [startL]
theorem startL_len {p : Poll} {i : Nat} (h : i ≤ p.voters.length) : (startL p i).length = p.voters.length := by simp [startL]; omega
theorem startL_set {p : Poll} {i : Nat} {v : Voter} (hv : p.voters[i]? = some v) : (startL p i).set i v.wrong = startL p (i + 1) := by
 have hlt := (List.getElem?_eq_some_iff.1 hv).1
 rw [startL, startL, take_snoc hv, List.set_append_right _ _ (by simp; omega), List.length_map, List.length_take, Nat.min_eq_left (Nat.le_of_lt hlt), Nat.sub_self, show p.voters.length - i = (p.voters.length - (i + 1)) + 1 by omega, List.replicate_succ, List.set_cons_zero, List.map_append, List.append_assoc]
 rfl
theorem startL_all {p : Poll} {i : Nat} (h : p.voters.length ≤ i) : startL p i = leftL p [] := by
 rw [startL, List.take_of_length_le h, show p.voters.length - i = 0 by omega, leftL]
 simp only [List.replicate_zero, List.append_nil]
 refine List.map_congr_left fun v _ => ?_
 have e : wrongN v [] = 0 := rfl
 rw [leftV, e]; simp
/-- the truths that begin so, the first heads of the next question alone -/
def truthsK (p : Poll) (now : List Int) (k : Nat) : List (List Int) := (List.range k).flatMap fun (h : Nat) => truthsFrom p (now ++ [(h : Int)])
theorem truthsK_succ (p : Poll) (now : List Int) (k : Nat) : truthsK p now (k + 1) = truthsK p now k ++ truthsFrom p (now ++ [(k : Int)]) := by
 rw [truthsK, List.range_succ, List.flatMap_append, List.flatMap_cons, List.flatMap_nil, List.append_nil]; rfl
theorem truthsK_all {p : Poll} {now : List Int} {q : Question} {k : Nat} (hq : p.questions[now.length]? = some q) (hk : q.heads.length = k) : truthsFrom p now = truthsK p now k := by
 subst hk
 exact truthsFrom_next (by simp [sizesP, hq])
/-- so far these were yielded, and these come next -/
def OnWay (p : Poll) (done : List (List Int)) (now : List Int) : Prop := ∃ tl, truthsL p = done ++ truthsFrom p now ++ tl
theorem onway_nil (p : Poll) : OnWay p [] [] := ⟨[], by rw [truthsFrom_nil]; simp⟩
theorem onway_next {p : Poll} {done : List (List Int)} {now : List Int} {q : Question} {k : Nat} (h : OnWay p done now) (hq : p.questions[now.length]? = some q) (hk : k < q.heads.length) : OnWay p (done ++ truthsK p now k) (now ++ [(k : Int)]) := by
 obtain ⟨tl, h⟩ := h
 rw [truthsK_all hq rfl] at h
 have e : truthsK p now q.heads.length = truthsK p now k ++ truthsFrom p (now ++ [(k : Int)]) ++ ((List.range (q.heads.length - (k + 1))).map (k + 1 + ·)).flatMap fun (h : Nat) => truthsFrom p (now ++ [(h : Int)]) := by
  rw [← truthsK_succ]
  simp only [truthsK]
  rw [← List.flatMap_append]
  congr 1
  conv => lhs; rw [show q.heads.length = (k + 1) + (q.heads.length - (k + 1)) by omega]
  rw [List.range_add]
 rw [e] at h
 exact ⟨((List.range (q.heads.length - (k + 1))).map (k + 1 + ·)).flatMap (fun (h : Nat) => truthsFrom p (now ++ [(h : Int)])) ++ tl, by rw [h]; simp only [List.append_assoc]⟩
theorem onway_at {p : Poll} {done : List (List Int)} {now : List Int} (h : OnWay p done now) (hn : truthsFrom p now = [now]) : (truthsL p)[done.length]? = some now := by
 obtain ⟨tl, h⟩ := h
 rw [h, hn]; simp
theorem truths_one {p : Poll} {now : List Int} (h : NowOk p now) (hl : now.length = p.questions.length) : truthsFrom p now = [now] := by
 rw [truthsFrom_all hl, if_pos (now_true h hl)]
end Go.Pk

namespace Go.Pk
open Go Go.RowKit
def choiceAt (q : Nat) (t : List Int) : Int := (t[q]?).getD 0
theorem truth_at {p : Poll} {t : List Int} {q : Nat} {x : Question} (h : t ∈ truthsL p) (hx : p.questions[q]? = some x) : ∃ a, t[q]? = some a ∧ 0 ≤ a ∧ a < (x.heads.length : Int) := by
 have hl := truth_len h
 have hlt := (List.getElem?_eq_some_iff.1 hx).1
 refine ⟨_, List.getElem?_eq_getElem (by omega), ?_⟩
 exact truth_in h (List.getElem?_eq_getElem (by omega)) hx
def smallQ (q : Question) : Bool := decide (q.heads.length ≤ 6) && q.heads.all fun h => decide (h.stem.length ≤ 40)
def smallV (v : Voter) : Bool := decide (v.votes.length ≤ 20)
def smallP (p : Poll) : Bool := smallT p.text && smallX p.lexicon && decide (p.questions.length ≤ 10) && decide (p.voters.length ≤ 10) && p.questions.all smallQ && p.voters.all smallV
theorem smallP_q {p : Poll} (h : smallP p = true) {i : Nat} {q : Question} (hq : p.questions[i]? = some q) : q.heads.length ≤ 6 := by
 simp only [smallP, Bool.and_eq_true, List.all_eq_true] at h
 have := h.1.2 q (List.mem_of_getElem? hq)
 simp only [smallQ, Bool.and_eq_true, decide_eq_true_eq] at this
 exact this.1
theorem smallP_v {p : Poll} (h : smallP p = true) {i : Nat} {v : Voter} (hv : p.voters[i]? = some v) : v.votes.length ≤ 20 := by
 simp only [smallP, Bool.and_eq_true, List.all_eq_true] at h
 have := h.2 v (List.mem_of_getElem? hv)
 simpa [smallV] using this
theorem smallP_len {p : Poll} (h : smallP p = true) : smallT p.text = true ∧ smallX p.lexicon = true ∧ p.questions.length ≤ 10 ∧ p.voters.length ≤ 10 := by
 simp only [smallP, Bool.and_eq_true, decide_eq_true_eq] at h
 exact ⟨h.1.1.1.1.1, h.1.1.1.1.2, h.1.1.1.2, h.1.1.2⟩
theorem small_yes {p : Poll} {i j : Nat} (h1 : smallT p.text = true) (h2 : smallX p.lexicon = true) (h3 : p.questions.length ≤ 10) (h4 : p.voters.length ≤ 10) (hA : (p.questions.take i).all smallQ = true) (hi : p.questions.length ≤ i) (hV : (p.voters.take j).all smallV = true) (hj : p.voters.length ≤ j) : smallP p = true := by
 rw [List.take_of_length_le hi] at hA
 rw [List.take_of_length_le hj] at hV
 simp only [smallP, h1, h2, hA, hV, decide_eq_true h3, decide_eq_true h4, Bool.and_true]
theorem small_no (p : Poll) (h : smallT p.text = false ∨ smallX p.lexicon = false ∨ 10 < p.questions.length ∨ 10 < p.voters.length) : smallP p = false := by
 cases e : smallP p with
 | false => rfl
 | true =>
  have h2 := smallP_len e
  rcases h with h | h | h | h
  ·rw [h2.1] at h; cases h
  ·rw [h2.2.1] at h; cases h
  ·omega
  ·omega
theorem small_noq {p : Poll} {i : Nat} {q : Question} (hq : p.questions[i]? = some q) (h : smallQ q = false) : smallP p = false := by
 have : p.questions.all smallQ = false := List.all_eq_false.2 ⟨q, List.mem_of_getElem? hq, by simp [h]⟩
 simp only [smallP, this, Bool.and_false, Bool.false_and]
theorem small_nov {p : Poll} {i : Nat} {v : Voter} (hv : p.voters[i]? = some v) (h : 20 < v.votes.length) : smallP p = false := by
 have : p.voters.all smallV = false := List.all_eq_false.2 ⟨v, List.mem_of_getElem? hv, by simp [smallV]; omega⟩
 simp only [smallP, this, Bool.and_false]
theorem small_q6 {q : Question} (h : 6 < q.heads.length) : smallQ q = false := by simp [smallQ]; intros; omega
theorem small_qh {q : Question} {k : Nat} {hd : Head} (hh : q.heads[k]? = some hd) (h : 40 < hd.stem.length) : smallQ q = false := by
 have : (q.heads.all fun h => decide (h.stem.length ≤ 40)) = false := List.all_eq_false.2 ⟨hd, List.mem_of_getElem? hh, by simp; omega⟩
 simp only [smallQ, this, Bool.and_false]
theorem small_qy {q : Question} {k : Nat} (h : q.heads.length ≤ 6) (hB : ((q.heads.take k).all fun h => decide (h.stem.length ≤ 40)) = true) (hk : q.heads.length ≤ k) : smallQ q = true := by
 rw [List.take_of_length_le hk] at hB
 simp only [smallQ, hB, decide_eq_true h, Bool.and_true]
end Go.Pk

namespace Go.Pk
open Go Go.RowKit
def maxL : List Int → Int
 | [] => 0
 | a :: l => l.foldl maxI a
theorem maxL_take {l : List Int} {k : Nat} {x : Int} (h : l[k]? = some x) (hk : 1 ≤ k) : maxL (l.take (k + 1)) = maxI (maxL (l.take k)) x := by
 cases l with
 | nil => simp at h
 | cons a l =>
  obtain ⟨m, rfl⟩ : ∃ m, k = m + 1 := ⟨k - 1, by omega⟩
  simp only [List.getElem?_cons_succ] at h
  simp only [List.take_succ_cons, maxL]
  rw [take_snoc h, List.foldl_append]; rfl
theorem maxL_one {l : List Int} {x : Int} (h : l[0]? = some x) : maxL (l.take 1) = x := by
 cases l with
 | nil => simp at h
 | cons a l => simp at h; subst h; rfl
theorem worst3 (ts : List (List Int)) (q : Nat) {a b c : Int} (ha : a = (cntH ts q 0 : Nat)) (hb : b = (cntH ts q 1 : Nat)) (hc : c = (cntH ts q 2 : Nat)) : maxL [a, b, c] = worstN ts q := by
 subst ha hb hc
 show maxI (maxI (cntH ts q 0 : Int) (cntH ts q 1 : Int)) (cntH ts q 2 : Int) = maxI (maxI (maxI 0 (cntH ts q 0 : Int)) (cntH ts q 1 : Int)) (cntH ts q 2 : Int)
 have e : maxI 0 (cntH ts q 0 : Int) = (cntH ts q 0 : Int) := by unfold maxI; split <;> omega
 rw [e]
theorem cmpL_lt : ∀ {a b : List Int}, a.length = b.length → decide (cmpL a b < 0) = ltL a b
 | [], [], _ => rfl
 | x :: a, y :: b, h => by
  have ih := cmpL_lt (a := a) (b := b) (by simpa using h)
  simp only [cmpL, ltL, cmpI]
  by_cases e : x = y
  ·subst e; simp; rw [← ih]
  ·rw [if_neg e]
   by_cases h1 : x < y
   ·simp [h1]
   ·have h2 : y < x := by omega
    simp [h1, h2]
 | [], _ :: _, h => by simp at h
 | _ :: _, [], h => by simp at h
theorem before_eq (a b : List Int) : decide (orL [(a.length : Int) - (b.length : Int), cmpL a b] < 0) = beforeL a b := by
 unfold beforeL
 by_cases e : a.length = b.length
 ·rw [if_neg (by omega), ← cmpL_lt e]
  simp only [orL, show (a.length : Int) - (b.length : Int) = 0 by omega, ne_eq, not_true_eq_false, if_false]
  by_cases h : cmpL a b = 0 <;> simp [h]
 ·rw [if_pos e]
  simp only [orL, ne_eq, show ¬ (a.length : Int) - (b.length : Int) = 0 by omega, not_false_eq_true, if_true]
  rw [Bool.eq_iff_iff, decide_eq_true_eq, decide_eq_true_eq]; omega
theorem members_none {s : Int} {n k : Nat} (h0 : 0 ≤ s) (h1 : s < 2 ^ n) (hk : n ≤ k) : bitN s (k : Int) = 0 := by
 have h2 : (2 : Int) ^ n ≤ 2 ^ k := by
  have := Nat.pow_le_pow_right (n := 2) (by omega) hk
  exact_mod_cast this
 rw [bitN, Int.toNat_natCast, Int.ediv_eq_zero_of_lt h0 (by omega)]; rfl
theorem members_top {s : Int} {n : Nat} (h0 : 0 ≤ s) (h1 : s < 2 ^ n) : ∀ d, membersL s (n + d) = membersL s n
 | 0 => rfl
 | d + 1 => by
  rw [← Nat.add_assoc, members_succ, if_neg (by rw [members_none h0 h1 (by omega)]; decide), List.append_nil]
  exact members_top h0 h1 d
theorem members_six {s : Int} {n : Nat} (h0 : 0 ≤ s) (h1 : s < 2 ^ n) (hn : n ≤ 6) : membersL s 6 = membersL s n := by
 have := members_top h0 h1 (6 - n)
 rwa [show n + (6 - n) = 6 by omega] at this
/-- the first of the best -/
def firstO {α : Type} (lt : α → α → Bool) (l : List α) : Option α := l.foldl (fun o x => match o with | none => some x | some b => if lt x b = true then some x else some b) none
def firstL {α : Type} (lt : α → α → Bool) (z : α) (l : List α) : α := (firstO lt l).getD z
theorem firstO_snoc {α : Type} (lt : α → α → Bool) (l : List α) (x : α) : firstO lt (l ++ [x]) = match firstO lt l with | none => some x | some b => if lt x b = true then some x else some b := by simp [firstO]
theorem firstO_none {α : Type} {lt : α → α → Bool} : ∀ {l : List α}, (firstO lt l).isSome = !l.isEmpty := by
 intro l
 rcases List.eq_nil_or_concat l with rfl | ⟨l, x, rfl⟩
 ·rfl
 ·rw [List.concat_eq_append, firstO_snoc]
  cases firstO lt l with
  | none => simp
  | some b => simp only; split <;> simp
theorem first_one {α : Type} {lt : α → α → Bool} {z x : α} {l : List α} (h : (!l.isEmpty) = false) : firstL lt z (l ++ [x]) = x := by
 have e := firstO_none (lt := lt) (l := l)
 rw [h] at e
 rw [firstL, firstO_snoc]
 cases h2 : firstO lt l with
 | none => rfl
 | some b => rw [h2] at e; cases e
theorem first_new {α : Type} {lt : α → α → Bool} {z x : α} {l : List α} (h : (!l.isEmpty) = true) (hl : lt x (firstL lt z l) = true) : firstL lt z (l ++ [x]) = x := by
 have e := firstO_none (lt := lt) (l := l)
 rw [h] at e
 rw [firstL] at hl ⊢
 rw [firstO_snoc]
 cases h2 : firstO lt l with
 | none => rw [h2] at e; cases e
 | some b => rw [h2] at hl; simp only [Option.getD_some] at hl; simp [hl]
theorem first_old {α : Type} {lt : α → α → Bool} {z x : α} {l : List α} (h : (!l.isEmpty) = true) (hl : lt x (firstL lt z l) = false) : firstL lt z (l ++ [x]) = firstL lt z l := by
 have e := firstO_none (lt := lt) (l := l)
 rw [h] at e
 rw [firstL] at hl ⊢
 rw [firstL, firstO_snoc]
 cases h2 : firstO lt l with
 | none => rw [h2] at e; cases e
 | some b => rw [h2] at hl; simp only [Option.getD_some] at hl; simp [hl]
theorem firstO_mem {α : Type} {lt : α → α → Bool} : ∀ {l : List α} {o : Option α} {b : α}, l.foldl (fun o x => match o with | none => some x | some b => if lt x b = true then some x else some b) o = some b → b ∈ l ∨ o = some b
 | [], o, b, h => .inr h
 | x :: l, o, b, h => by
  rw [List.foldl_cons] at h
  rcases firstO_mem h with q | q
  ·exact .inl (List.mem_cons_of_mem _ q)
  ·cases o with
   | none => simp only [Option.some.injEq] at q; subst q; exact .inl List.mem_cons_self
   | some c =>
    simp only at q
    split at q
    ·simp only [Option.some.injEq] at q; subst q; exact .inl List.mem_cons_self
    ·exact .inr q
theorem firstL_mem {α : Type} {lt : α → α → Bool} {z : α} {l : List α} (h : (!l.isEmpty) = true) : firstL lt z l ∈ l := by
 have e := firstO_none (lt := lt) (l := l)
 rw [h] at e
 rw [firstL]
 cases h2 : firstO lt l with
 | none => rw [h2] at e; cases e
 | some b =>
  rcases firstO_mem h2 with q | q
  ·exact q
  ·cases q
/-- the sets of questions that tell truths apart -/
def askC (ts : List (List Int)) (n k : Nat) : List (List Int) := ((List.range k).filter fun (s : Nat) => tellsL ts (membersL (s : Int) n)).map fun (s : Nat) => membersL (s : Int) n
theorem askC_succ (ts : List (List Int)) (n k : Nat) : askC ts n (k + 1) = askC ts n k ++ if tellsL ts (membersL (k : Int) n) = true then [membersL (k : Int) n] else [] := by
 rw [askC, List.range_succ, List.filter_append, List.map_append, List.filter_cons, List.filter_nil, askC]
 by_cases h : tellsL ts (membersL (k : Int) n) = true <;> simp [h]
theorem askK_first (ts : List (List Int)) (n : Nat) : ∀ k, firstO beforeL (askC ts n k) = askK ts n k
 | 0 => rfl
 | k + 1 => by
  rw [askC_succ, askK, ← askK_first ts n k]
  by_cases h : tellsL ts (membersL (k : Int) n) = true
  ·rw [if_pos h, firstO_snoc, h, Bool.and_true]
   cases firstO beforeL (askC ts n k) with
   | none => rfl
   | some b => rfl
  ·rw [if_neg h, List.append_nil, Bool.not_eq_true] at *
   rw [h, Bool.and_false]; rfl
/-- the questions that part the truths -/
def nextC (ts : List (List Int)) (k : Nat) : List Int := ((List.range k).filter fun (q : Nat) => decide (worstN ts q < (ts.length : Int))).map fun (q : Nat) => (q : Int)
theorem nextC_succ (ts : List (List Int)) (k : Nat) : nextC ts (k + 1) = nextC ts k ++ if worstN ts k < (ts.length : Int) then [(k : Int)] else [] := by
 rw [nextC, List.range_succ, List.filter_append, List.map_append, List.filter_cons, List.filter_nil, nextC]
 by_cases h : worstN ts k < (ts.length : Int) <;> simp [h]
def worseB (ts : List (List Int)) (a b : Int) : Bool := decide (worstN ts a.toNat < worstN ts b.toNat)
theorem maxI_le {a b c : Int} (h1 : a ≤ c) (h2 : b ≤ c) : maxI a b ≤ c := by unfold maxI; split <;> omega
theorem worst_le (ts : List (List Int)) (q : Nat) : worstN ts q ≤ (ts.length : Int) := by
 have h : ∀ k, worstK ts q k ≤ (ts.length : Int) := by
  intro k
  induction k with
  | zero => simp [worstK]
  | succ k ih => exact maxI_le ih (by have := cntH_le ts q (k : Int); omega)
 exact h 3
theorem next_first (ts : List (List Int)) : ∀ k, firstO (worseB ts) (nextC ts (k + 1)) = if worstN ts (nextK ts k) < (ts.length : Int) then some (nextK ts k : Int) else none
 | 0 => by
  rw [nextC_succ]
  by_cases h : worstN ts 0 < (ts.length : Int)
  ·simp [h, nextK, nextC, firstO]
  ·simp [h, nextK, nextC, firstO]
 | k + 1 => by
  rw [nextC_succ, nextK]
  have ih := next_first ts k
  have h1 := worst_le ts (k + 1)
  have h2 := worst_le ts (nextK ts k)
  by_cases a : worstN ts (k + 1) < worstN ts (nextK ts k)
  ·rw [if_pos a, if_pos (show worstN ts (k + 1) < (ts.length : Int) by omega), firstO_snoc, ih]
   by_cases b : worstN ts (nextK ts k) < (ts.length : Int)
   ·rw [if_pos b]
    rw [if_pos (show worstN ts (k + 1) < (ts.length : Int) by omega)]
    simp only [worseB, Int.toNat_natCast, decide_eq_true a, if_true]
   ·rw [if_neg b, if_pos (show worstN ts (k + 1) < (ts.length : Int) by omega)]
  ·rw [if_neg a]
   by_cases b : worstN ts (nextK ts k) < (ts.length : Int)
   ·by_cases c : worstN ts (k + 1) < (ts.length : Int)
    ·rw [if_pos c, firstO_snoc, ih, if_pos b]
     simp only [worseB, Int.toNat_natCast, decide_eq_false a, Bool.false_eq_true, if_false]
    ·rw [if_neg c, List.append_nil, ih]
   ·rw [if_neg (show ¬ worstN ts (k + 1) < (ts.length : Int) by omega), List.append_nil, ih]
theorem candL_nodup : ∀ ns : List Nat, (candL ns).Nodup
 | [] => by simp [candL]
 | n :: ns => by
  rw [candL, List.Nodup, List.pairwise_flatMap]
  refine ⟨fun h _ => ?_, ?_⟩
  ·rw [List.pairwise_map]
   exact (candL_nodup ns).imp fun hne e => hne (by simpa using e)
  ·refine (List.nodup_range (n := n)).imp fun hne => ?_
   intro x hx y hy e
   obtain ⟨t, _, rfl⟩ := List.mem_map.1 hx
   obtain ⟨u, _, rfl⟩ := List.mem_map.1 hy
   simp only [List.cons.injEq] at e
   exact hne (by omega)
theorem truths_nodup (p : Poll) : (truthsL p).Nodup := (candL_nodup _).filter _
/-- who all have the same head -/
theorem cnt_all {ts : List (List Int)} {q : Nat} {h : Int} (e : cntH ts q h = ts.length) {t : List Int} (ht : t ∈ ts) : t[q]? = some h := by
 have := List.length_filter_eq_length_iff.1 e t ht
 simpa using this
theorem worst_all {ts : List (List Int)} {q : Nat} (h : ¬ worstN ts q < (ts.length : Int)) (h0 : 0 < ts.length) : ∃ a : Int, ∀ t ∈ ts, t[q]? = some a := by
 have h1 := worst_le ts q
 have h2 : worstN ts q = (ts.length : Int) := by omega
 have h3 : worstN ts q = maxI (maxI (maxI 0 (cntH ts q 0 : Int)) (cntH ts q 1 : Int)) (cntH ts q 2 : Int) := rfl
 have a0 := cntH_le ts q 0
 have a1 := cntH_le ts q 1
 have a2 := cntH_le ts q 2
 have : cntH ts q 0 = ts.length ∨ cntH ts q 1 = ts.length ∨ cntH ts q 2 = ts.length := by
  have h4 : ∀ a b c : Int, maxI a b = c → a = c ∨ b = c := by intro a b c e; unfold maxI at e; split at e <;> simp [e]
  rw [h3] at h2
  rcases h4 _ _ _ h2 with e | e
  ·rcases h4 _ _ _ e with e | e
   ·rcases h4 _ _ _ e with e | e
    ·omega
    ·left; omega
   ·right; left; omega
  ·right; right; omega
 rcases this with e | e | e
 ·exact ⟨0, fun t ht => cnt_all e ht⟩
 ·exact ⟨1, fun t ht => cnt_all e ht⟩
 ·exact ⟨2, fun t ht => cnt_all e ht⟩
theorem nextK_small {p : Poll} (hl : 1 < (truthsL p).length) : worstN (truthsL p) (nextK (truthsL p) (p.questions.length - 1)) < ((truthsL p).length : Int) := by
 refine Classical.byContradiction fun hc => ?_
 -- all questions leave all
 have h1 : ∀ k q, q ≤ k → worstN (truthsL p) (nextK (truthsL p) k) ≤ worstN (truthsL p) q := by
  intro k
  induction k with
  | zero =>
   intro q hq
   obtain rfl : q = 0 := by omega
   exact Int.le_refl _
  | succ k ih =>
   intro q hq
   rw [nextK]
   by_cases a : worstN (truthsL p) (k + 1) < worstN (truthsL p) (nextK (truthsL p) k)
   ·rw [if_pos a]
    by_cases e : q = k + 1
    ·subst e; exact Int.le_refl _
    ·exact Int.le_trans (Int.le_of_lt a) (ih q (by omega))
   ·rw [if_neg a]
    by_cases e : q = k + 1
    ·subst e; omega
    ·exact ih q (by omega)
 obtain ⟨t0, h0⟩ : ∃ t, (truthsL p)[0]? = some t := ⟨_, List.getElem?_eq_getElem (by omega)⟩
 obtain ⟨t1, h2⟩ : ∃ t, (truthsL p)[1]? = some t := ⟨_, List.getElem?_eq_getElem (by omega)⟩
 have m0 := List.mem_of_getElem? h0
 have m1 := List.mem_of_getElem? h2
 have hne : t0 = t1 := by
  refine List.ext_getElem? fun q => ?_
  by_cases hq : q < p.questions.length
  ·obtain ⟨a, ha⟩ := worst_all (ts := truthsL p) (q := q) (by have := h1 (p.questions.length - 1) q (by omega); omega) (by omega)
   rw [ha t0 m0, ha t1 m1]
  ·rw [List.getElem?_eq_none (by rw [truth_len m0]; omega), List.getElem?_eq_none (by rw [truth_len m1]; omega)]
 have hn := truths_nodup p
 subst hne
 have e0 := (List.getElem?_eq_some_iff.1 h0).2
 have e1 := (List.getElem?_eq_some_iff.1 h2).2
 have := (List.nodup_iff_pairwise_ne.1 hn)
 rw [List.pairwise_iff_getElem] at this
 exact this 0 1 (by omega) (by omega) (by omega) (by rw [e0, e1])
theorem next_ok {p : Poll} (hl : 1 < (truthsL p).length) (hq : 0 < p.questions.length) : firstL (worseB (truthsL p)) 0 (nextC (truthsL p) p.questions.length) = (nextK (truthsL p) (p.questions.length - 1) : Int) := by
 have h := next_first (truthsL p) (p.questions.length - 1)
 rw [show p.questions.length - 1 + 1 = p.questions.length by omega, if_pos (nextK_small hl)] at h
 rw [firstL, h]; rfl
/-- what a truth answers to a set of questions -/
def sixAt (t : List Int) (s : Int) (k j : Nat) : Int := if j < k then (t[j]?).getD 0 * bitN s (j : Int) else 0
def sixK (t : List Int) (s : Int) (k : Nat) : Six := ⟨sixAt t s k 0, sixAt t s k 1, sixAt t s k 2, sixAt t s k 3, sixAt t s k 4, sixAt t s k 5⟩
theorem sixAt_old {t : List Int} {s : Int} {k j : Nat} (h : ¬ j = k) : sixAt t s (k + 1) j = sixAt t s k j := by
 unfold sixAt
 by_cases e : j < k
 ·rw [if_pos e, if_pos (by omega)]
 ·rw [if_neg e, if_neg (by omega)]
theorem sixAt_new {t : List Int} {s x : Int} {k : Nat} (h : t[k]? = some x) : sixAt t s (k + 1) k = x * bitN s (k : Int) := by
 rw [sixAt, if_pos (by omega), h]; rfl
theorem bit_01 {s : Int} {j : Int} : bitN s j = 0 ∨ bitN s j = 1 := by rw [bitN]; omega
theorem sixAt_new' {t : List Int} {s x : Int} {k j : Nat} (hj : j = k) (h : t[k]? = some x) : sixAt t s (k + 1) j = x * bitN s (k : Int) := by subst hj; exact sixAt_new h
theorem sixK_len {t : List Int} {s : Int} (h : t.length ≤ 6) : sixK t s t.length = sixK t s 6 := by
 have e : ∀ j, j < 6 → sixAt t s t.length j = sixAt t s 6 j := by
  intro j hj
  rw [sixAt, sixAt, if_pos hj]
  by_cases q : j < t.length
  ·rw [if_pos q]
  ·rw [if_neg q, List.getElem?_eq_none (by omega)]; simp
 simp only [sixK, e 0 (by omega), e 1 (by omega), e 2 (by omega), e 3 (by omega), e 4 (by omega), e 5 (by omega)]
theorem six_alike6 {t u : List Int} {s : Int} (ht : t.length ≤ 6) (hu : t.length = u.length) : alikeL t u (membersL s 6) = decide (sixK t s 6 = sixK u s 6) := by
 have hk : ∀ j : Nat, j < 6 → bitN s (j : Int) = 1 → (sixAt t s 6 j = sixAt u s 6 j ↔ t[j]? = u[j]?) := by
  intro j hj hb
  rw [sixAt, sixAt, if_pos hj, if_pos hj, hb, Int.mul_one, Int.mul_one]
  by_cases q : j < t.length
  ·rw [List.getElem?_eq_getElem q, List.getElem?_eq_getElem (by omega)]; simp
  ·rw [List.getElem?_eq_none (by omega), List.getElem?_eq_none (by omega)]; simp
 rw [Bool.eq_iff_iff, decide_eq_true_eq, alikeL, List.all_eq_true]
 have key : (∀ k ∈ membersL s 6, decide (t[k.toNat]? = u[k.toNat]?) = true) ↔ ∀ j, j < 6 → sixAt t s 6 j = sixAt u s 6 j := by
  constructor
  ·intro h j hj
   rcases bit_01 (s := s) (j := (j : Int)) with b | b
   ·rw [sixAt, sixAt, if_pos hj, if_pos hj, b, Int.mul_zero, Int.mul_zero]
   ·refine (hk j hj b).2 ?_
    have := h (j : Int) (List.mem_map.2 ⟨j, List.mem_filter.2 ⟨List.mem_range.2 hj, by simpa using b⟩, rfl⟩)
    simpa using this
  ·intro h k hk'
   obtain ⟨j, hj, rfl⟩ := List.mem_map.1 hk'
   have h1 := List.mem_range.1 (List.mem_filter.1 hj).1
   have h2 := (List.mem_filter.1 hj).2
   simp only [decide_eq_true_eq] at h2
   have := (hk j h1 h2).1 (h j h1)
   simpa using this
 rw [key]
 constructor
 ·intro h
  simp only [sixK, h 0 (by omega), h 1 (by omega), h 2 (by omega), h 3 (by omega), h 4 (by omega), h 5 (by omega)]
 ·intro h j hj
  simp only [sixK, Six.mk.injEq] at h
  obtain ⟨a0, a1, a2, a3, a4, a5⟩ := h
  match j, hj with
  | 0, _ => exact a0
  | 1, _ => exact a1
  | 2, _ => exact a2
  | 3, _ => exact a3
  | 4, _ => exact a4
  | 5, _ => exact a5
  | j + 6, hj => omega
/-- what is kept of the truths so far -/
def sixM (ts : List (List Int)) (s : Int) (i : Nat) (x : Six) : Option Bool := if ((ts.take i).any fun u => decide (sixK u s 6 = x)) = true then some true else none
theorem sixM_succ {ts : List (List Int)} {s : Int} {i : Nat} {t : List Int} (ht : ts[i]? = some t) (x : Six) : sixM ts s (i + 1) x = if x = sixK t s 6 then some true else sixM ts s i x := by
 rw [sixM, sixM, any_snoc ht]
 by_cases e : x = sixK t s 6
 ·rw [if_pos e, e]; simp
 ·rw [if_neg e, decide_eq_false (fun q => e q.symm), Bool.or_false]
theorem tells_next {ts : List (List Int)} {s : Int} {i : Nat} {t : List Int} (hl : ∀ t ∈ ts, t.length ≤ 6) (he : ∀ t ∈ ts, ∀ u ∈ ts, t.length = u.length) (ht : ts[i]? = some t) (h : (sixM ts s i (sixK t s 6)).getD false = false) : tellsAt ts (membersL s 6) i = true := by
 simp only [tellsAt, ht, List.all_eq_true]
 intro u hu
 have hm := List.mem_of_getElem? ht
 rw [six_alike6 (hl t hm) (he t hm u (List.mem_of_mem_take hu))]
 rw [sixM] at h
 split at h
 ·cases h
 ·rename_i q
  simp only [Bool.not_eq_true, List.any_eq_false, decide_eq_true_eq] at q
  simp only [Bool.not_eq_true', decide_eq_false_iff_not]
  exact fun e => q u hu e.symm
theorem tells_stop {ts : List (List Int)} {s : Int} {i : Nat} {t : List Int} (hl : ∀ t ∈ ts, t.length ≤ 6) (he : ∀ t ∈ ts, ∀ u ∈ ts, t.length = u.length) (ht : ts[i]? = some t) (h : (sixM ts s i (sixK t s 6)).getD false = true) : tellsL ts (membersL s 6) = false := by
 refine tells_no (i := i) ?_
 simp only [tellsAt, ht]
 rw [sixM] at h
 split at h
 ·rename_i q
  obtain ⟨u, hu, e⟩ := List.any_eq_true.1 q
  have hm := List.mem_of_getElem? ht
  refine List.all_eq_false.2 ⟨u, hu, ?_⟩
  rw [six_alike6 (hl t hm) (he t hm u (List.mem_of_mem_take hu))]
  simp only [decide_eq_true_eq] at e
  simp [e]
 ·cases h
theorem sixM_none {ts : List (List Int)} {s : Int} {i : Nat} {x : Six} (h : (sixM ts s i x).getD false = false) : sixM ts s i x = none := by
 rw [sixM] at h ⊢
 split at h
 ·cases h
 ·rename_i q; rw [if_neg q]
theorem askC_six {ts : List (List Int)} {n : Nat} (hn : n ≤ 6) : ∀ k, k ≤ 2 ^ n → askC ts 6 k = askC ts n k := by
 intro k hk
 rw [askC, askC]
 have e : ∀ s ∈ List.range k, membersL (s : Int) 6 = membersL (s : Int) n := by
  intro s hs
  have := List.mem_range.1 hs
  refine members_six (by omega) ?_ hn
  have h2 : (s : Int) < ((2 ^ n : Nat) : Int) := by omega
  exact_mod_cast h2
 rw [List.filter_congr (q := fun (s : Nat) => tellsL ts (membersL (s : Int) n)) fun s hs => by rw [e s hs]]
 exact List.map_congr_left fun s hs => e s (List.mem_filter.1 hs).1
theorem cnt_up {ts : List (List Int)} {i q : Nat} {t : List Int} {a : Int} (ht : ts[i]? = some t) (ha : t[q]? = some a) (h : Int) : ((cntH (ts.take (i + 1)) q h : Nat) : Int) = ((cntH (ts.take i) q h : Nat) : Int) + if a = h then 1 else 0 := by
 rw [cntH_snoc ht, ha]
 by_cases e : a = h <;> simp [e]
theorem next_pos {p : Poll} (h : 1 < (truthsL p).length) : 0 < p.questions.length := by
 refine Classical.byContradiction fun q => ?_
 have e : p.questions = [] := List.eq_nil_of_length_eq_zero (by omega)
 have h2 : (truthsL p).length ≤ 1 := by
  rw [truthsL, sizesP, e]
  exact List.length_filter_le _ _
 omega
theorem truths_three {p : Poll} (hp : pollB p = true) {ls : List (List Int)} (hl : ∀ t ∈ ls, t ∈ truthsL p) {a : Int} (h0 : 0 ≤ a) (h1 : a < (p.questions.length : Int)) : ∀ t ∈ ls, ∃ x, t[a.toNat]? = some x ∧ 0 ≤ x ∧ x < 3 := by
 intro t ht
 obtain ⟨q, hq⟩ : ∃ q, p.questions[a.toNat]? = some q := ⟨_, List.getElem?_eq_getElem (by omega)⟩
 obtain ⟨x, hx, h2, h3⟩ := truth_at (hl t ht) hq
 have := (poll_quest hp hq).2.2.1
 exact ⟨x, hx, h2, by omega⟩
theorem truths_small {p : Poll} (hp : pollB p = true) {ls : List (List Int)} (hl : ∀ t ∈ ls, t ∈ truthsL p) : ∀ t ∈ ls, ∀ a ∈ t, 0 ≤ a ∧ a ≤ 1000 := by
 intro t ht a ha
 obtain ⟨k, hk⟩ := List.mem_iff_getElem?.1 ha
 have hlt := (List.getElem?_eq_some_iff.1 hk).1
 rw [truth_len (hl t ht)] at hlt
 obtain ⟨x, hx, h2, h3⟩ := truths_three hp hl (a := (k : Int)) (by omega) (by omega) t ht
 rw [Int.toNat_natCast, hk] at hx
 cases hx
 omega
end Go.Pk
