/- A PART OF THE PROOF: contracts of functions, each walked once (much of it printed by a program of the author's own). -/
import Derived.Test.YtfeechoaiiohhaaGreatDoorT2
import Derived.Test.YtfeechoaiiohhaaGreatDoorT0
import Derived.Test.YtfeechoaiiohhaaGreatDoorT1
set_option linter.unusedSimpArgs false
set_option linter.unusedVariables false
namespace Go.Pk
open Go Go.RowKit
def allE (p : Poll) (so : Bool) : Int := if checkP p ≠ 0 then checkP p else if so = false then 2 else if truthsL p = [] then 8 else 0
def allL (p : Poll) (so : Bool) : List (List Int) := if allE p so = 0 then truthsL p else []
theorem check_ok {p : Poll} (h : checkP p = 0) : checkN p.text p.lexicon = 0 ∧ pollB p = true := by
 unfold checkP at h
 split at h
 ·rename_i q; exact absurd h q
 ·rename_i q
  split at h
  ·rename_i q2; exact ⟨by simpa using q, q2⟩
  ·cases h
theorem all_ok {p : Poll} {so : Bool} (h : allE p so = 0) : checkP p = 0 ∧ so = true ∧ truthsL p ≠ [] ∧ allL p so = truthsL p := by
 have h0 := h
 unfold allE at h
 split at h
 ·rename_i q; exact absurd h q
 ·rename_i q
  split at h
  ·cases h
  ·rename_i q2
   split at h
   ·cases h
   ·rename_i q3
    exact ⟨by simpa using q, by simpa using q2, q3, by rw [allL, if_pos h0]⟩
/-- the candidates, by number -/
theorem flat_at {α : Type} {f : Nat → List α} {L : Nat} (hL : ∀ h, (f h).length = L) : ∀ {n h j : Nat}, h < n → j < L → ((List.range n).flatMap f)[h * L + j]? = (f h)[j]?
 | n + 1, h, j, hh, hj => by
  have hlen : ∀ m, ((List.range m).flatMap f).length = m * L := by
   intro m
   induction m with
   | zero => simp
   | succ m ih => rw [range_flat_succ, List.length_append, ih, hL, Nat.succ_mul]
  rw [range_flat_succ]
  by_cases e : h = n
  ·subst e
   rw [List.getElem?_append_right (by rw [hlen]; omega), hlen]
   congr 1; omega
  ·have h1 : h < n := by omega
   rw [List.getElem?_append_left (by rw [hlen]; have := Nat.mul_le_mul_right L (show h + 1 ≤ n by omega); rw [Nat.succ_mul] at this; omega)]
   exact flat_at hL h1 hj
def prodL : List Nat → Nat
 | [] => 1
 | n :: ns => n * prodL ns
theorem candL_len : ∀ ns : List Nat, (candL ns).length = prodL ns
 | [] => rfl
 | n :: ns => by
  rw [candL, prodL, List.length_flatMap]
  simp only [List.length_map, candL_len ns]
  induction n with
  | zero => simp
  | succ n ih => rw [List.range_succ, List.map_append, List.sum_append, ih, Nat.succ_mul]; simp
theorem prodL_pos : ∀ {ns : List Nat}, (∀ n ∈ ns, 0 < n) → 0 < prodL ns
 | [], _ => Nat.one_pos
 | n :: ns, h => Nat.mul_pos (h n List.mem_cons_self) (prodL_pos fun m hm => h m (List.mem_cons_of_mem _ hm))
theorem cand_cons {n : Nat} {ns : List Nat} {h j : Nat} (hh : h < n) (hj : j < prodL ns) : (candL (n :: ns))[h * prodL ns + j]? = ((candL ns)[j]?).map fun t => (h : Int) :: t := by
 rw [candL, flat_at (L := prodL ns) (fun h => by rw [List.length_map, candL_len]) hh hj, List.getElem?_map]
theorem cand_zero : ∀ {ns : List Nat}, (∀ n ∈ ns, 0 < n) → (candL ns)[0]? = some (List.replicate ns.length 0)
 | [], _ => rfl
 | n :: ns, h => by
  have h1 := prodL_pos fun m hm => h m (List.mem_cons_of_mem _ hm)
  have := cand_cons (n := n) (ns := ns) (h := 0) (j := 0) (h n List.mem_cons_self) h1
  rw [Nat.zero_mul] at this
  rw [this, cand_zero fun m hm => h m (List.mem_cons_of_mem _ hm)]; rfl
/-- where the j-th candidate of n :: ns lies -/
theorem cand_split {n : Nat} {ns : List Nat} {j : Nat} {xs : List Int} (hx : (candL (n :: ns))[j]? = some xs) : ∃ h j' t, j = h * prodL ns + j' ∧ h < n ∧ j' < prodL ns ∧ (candL ns)[j']? = some t ∧ xs = (h : Int) :: t := by
 have hj := (List.getElem?_eq_some_iff.1 hx).1
 rw [candL_len, prodL] at hj
 have hp : 0 < prodL ns := by
  rcases Nat.eq_zero_or_pos (prodL ns) with e | e
  ·rw [e] at hj; omega
  ·exact e
 have e : j = j / prodL ns * prodL ns + j % prodL ns := by rw [Nat.mul_comm]; exact (Nat.div_add_mod j (prodL ns)).symm
 have h1 : j / prodL ns < n := Nat.div_lt_of_lt_mul (by rw [Nat.mul_comm]; exact hj)
 have h2 : j % prodL ns < prodL ns := Nat.mod_lt _ hp
 have h3 := cand_cons (n := n) (ns := ns) h1 h2
 rw [← e, hx] at h3
 cases ht : (candL ns)[j % prodL ns]? with
 | none => rw [ht] at h3; cases h3
 | some t => rw [ht] at h3; exact ⟨_, _, t, e, h1, h2, ht, Option.some.inj h3⟩
/-- all digits at their end: the last candidate -/
theorem cand_last : ∀ {ns : List Nat} {j : Nat} {xs : List Int}, (candL ns)[j]? = some xs → (∀ (k n : Nat) (x : Int), ns[k]? = some n → xs[k]? = some x → x = (n : Int) - 1) → j + 1 = prodL ns
 | [], j, xs, hx, _ => by
  have := (List.getElem?_eq_some_iff.1 hx).1
  rw [candL_len] at this
  simp only [prodL] at this ⊢; omega
 | n :: ns, j, xs, hx, hm => by
  obtain ⟨h, j', t, rfl, h1, h2, h3, rfl⟩ := cand_split hx
  have e1 := hm 0 n (h : Int) rfl rfl
  have e2 := cand_last h3 fun k m x hk hx => hm (k + 1) m x (by simpa using hk) (by simpa using hx)
  rw [prodL, show n = h + 1 by omega, Nat.succ_mul]; omega
/-- the next candidate -/
theorem cand_next : ∀ {ns : List Nat} {j m : Nat} {xs : List Int} {a : Int} {n : Nat}, (∀ n ∈ ns, 0 < n) → (candL ns)[j]? = some xs → (∀ (k n : Nat) (x : Int), m < k → ns[k]? = some n → xs[k]? = some x → x = (n : Int) - 1) → xs[m]? = some a → ns[m]? = some n → a ≠ (n : Int) - 1 →
  (candL ns)[j + 1]? = some (xs.take m ++ (a + 1) :: List.replicate (xs.length - (m + 1)) 0)
 | [], j, m, xs, a, n, _, hx, _, ha, hn, _ => by simp at hn
 | n0 :: ns, j, m, xs, a, n, hp, hx, hm, ha, hn, hne => by
  obtain ⟨h, j', t, rfl, h1, h2, h3, rfl⟩ := cand_split hx
  have hp' : ∀ n ∈ ns, 0 < n := fun q hq => hp q (List.mem_cons_of_mem _ hq)
  have hlen : t.length = ns.length := (candL_mem.1 (List.mem_of_getElem? h3)).1
  cases m with
  | zero =>
   simp at ha hn; subst ha; subst hn
   have e2 := cand_last h3 fun k q x hk hx => hm (k + 1) q x (by omega) (by simpa using hk) (by simpa using hx)
   have e3 := cand_cons (n := n0) (ns := ns) (h := h + 1) (j := 0) (by omega) (prodL_pos hp')
   rw [show (h + 1) * prodL ns + 0 = h * prodL ns + j' + 1 by rw [Nat.succ_mul]; omega] at e3
   rw [e3, cand_zero hp']
   simp [hlen]
  | succ m =>
   have ha' : t[m]? = some a := by simpa using ha
   have hn' : ns[m]? = some n := by simpa using hn
   have ih := cand_next hp' h3 (fun k q x hk hq hx => hm (k + 1) q x (by omega) (by simpa using hq) (by simpa using hx)) ha' hn' hne
   have hj : j' + 1 < prodL ns := by
    have := (List.getElem?_eq_some_iff.1 ih).1
    rwa [candL_len] at this
   have e3 := cand_cons (n := n0) (ns := ns) (h := h) (j := j' + 1) h1 hj
   rw [← Nat.add_assoc] at e3
   rw [e3, ih]
   simp
/-- how many truths leave a head, and the most of them -/
def cntH (l : List (List Int)) (q : Nat) (h : Int) : Nat := (l.filter fun t => decide (t[q]? = some h)).length
def worstK (l : List (List Int)) (q : Nat) : Nat → Int
 | 0 => 0
 | k + 1 => maxI (worstK l q k) (cntH l q (k : Int))
def worstN (l : List (List Int)) (q : Nat) : Int := worstK l q 3
end Go.Pk

namespace Go.Pk
open Go Go.RowKit
theorem sizes_len (p : Poll) : (sizesP p).length = p.questions.length := by rw [sizesP, List.length_map]
theorem sizes_at {p : Poll} {k : Nat} {q : Question} (hq : p.questions[k]? = some q) : (sizesP p)[k]? = some q.heads.length := by rw [sizesP, List.getElem?_map, hq]; rfl
theorem sizes_ok {p : Poll} (h : pollB p = true) : ∀ n ∈ sizesP p, 2 ≤ n ∧ n ≤ 3 := by
 intro n hn
 obtain ⟨q, hq, rfl⟩ := List.mem_map.1 hn
 obtain ⟨i, hi⟩ := List.mem_iff_getElem?.1 hq
 have := poll_quest h hi
 exact ⟨this.2.1, this.2.2.1⟩
theorem sizes_pos {p : Poll} (h : pollB p = true) : ∀ n ∈ sizesP p, 0 < n := fun n hn => by have := sizes_ok h n hn; omega
theorem prod_pow : ∀ {ns : List Nat}, (∀ n ∈ ns, n ≤ 3) → prodL ns ≤ 3 ^ ns.length
 | [], _ => Nat.le_refl _
 | n :: ns, h => by
  rw [prodL, List.length_cons, Nat.pow_succ, Nat.mul_comm]
  exact Nat.mul_le_mul (prod_pow fun m hm => h m (List.mem_cons_of_mem _ hm)) (h n List.mem_cons_self)
theorem prod_le {p : Poll} (h : pollB p = true) : prodL (sizesP p) ≤ 729 := by
 refine Nat.le_trans (prod_pow fun n hn => (sizes_ok h n hn).2) ?_
 have : (sizesP p).length ≤ 6 := by rw [sizes_len]; exact (poll_len h).1
 exact Nat.pow_le_pow_right (by omega) this
theorem cand_xlen {p : Poll} {j : Nat} {xs : List Int} (hx : (candL (sizesP p))[j]? = some xs) : xs.length = p.questions.length := by
 rw [(candL_mem.1 (List.mem_of_getElem? hx)).1, sizes_len]
theorem odo_at {xs : List Int} {m : Nat} {a : Int} {R : List Int} (h : (xs.take m ++ R)[m - 1]? = some a) (h1 : 1 ≤ m) (h2 : m ≤ xs.length) : xs[m - 1]? = some a := by
 rw [List.getElem?_append_left (by rw [List.length_take]; omega), List.getElem?_take_of_lt (by omega)] at h
 exact h
theorem odo_set {xs : List Int} {m : Nat} {b : Int} (h1 : 1 ≤ m) (h2 : m ≤ xs.length) : (xs.take m ++ List.replicate (xs.length - m) 0).set (m - 1) b = xs.take (m - 1) ++ b :: List.replicate (xs.length - m) 0 := by
 have hx : xs[m - 1]? = some xs[m - 1] := List.getElem?_eq_getElem (by omega)
 have e : xs.take m = xs.take (m - 1) ++ [xs[m - 1]] := by
  have := take_snoc hx
  rwa [show m - 1 + 1 = m by omega] at this
 rw [e, List.append_assoc, List.set_append_right _ _ (by rw [List.length_take]; omega), List.length_take, Nat.min_eq_left (by omega), Nat.sub_self]
 rfl
theorem odo_zero {xs : List Int} {m : Nat} (h1 : 1 ≤ m) (h2 : m ≤ xs.length) : (xs.take m ++ List.replicate (xs.length - m) 0).set (m - 1) 0 = xs.take (m - 1) ++ List.replicate (xs.length - (m - 1)) 0 := by
 rw [odo_set h1 h2, show xs.length - (m - 1) = xs.length - m + 1 by omega]; rfl
theorem odo_max {p : Poll} {xs : List Int} {m : Nat} {a : Int} {q : Question} (hz : ∀ (k n : Nat) (x : Int), m ≤ k → (sizesP p)[k]? = some n → xs[k]? = some x → x = (n : Int) - 1) (hm : 1 ≤ m) (ha : xs[m - 1]? = some a) (hq : p.questions[m - 1]? = some q) (he : a = (q.heads.length : Int) - 1) :
  ∀ (k n : Nat) (x : Int), m - 1 ≤ k → (sizesP p)[k]? = some n → xs[k]? = some x → x = (n : Int) - 1 := by
 intro k n x hk hn hx
 by_cases e : k = m - 1
 ·subst e
  rw [sizes_at hq] at hn; cases hn
  rw [ha] at hx; cases hx; exact he
 ·exact hz k n x (by omega) hn hx
theorem odo_next {p : Poll} {xs : List Int} {j m : Nat} {a : Int} {q : Question} (hp : pollB p = true) (hx : (candL (sizesP p))[j]? = some xs) (hz : ∀ (k n : Nat) (x : Int), m ≤ k → (sizesP p)[k]? = some n → xs[k]? = some x → x = (n : Int) - 1) (hm : 1 ≤ m) (ha : xs[m - 1]? = some a) (hq : p.questions[m - 1]? = some q) (he : ¬ a = (q.heads.length : Int) - 1) :
  (candL (sizesP p))[j + 1]? = some (xs.take (m - 1) ++ (a + 1) :: List.replicate (xs.length - m) 0) := by
 have := cand_next (sizes_pos hp) hx (m := m - 1) (fun k n x hk => hz k n x (by omega)) ha (sizes_at hq) he
 rwa [show xs.length - (m - 1 + 1) = xs.length - m by omega] at this
theorem cand_small {p : Poll} {xs : List Int} {j k : Nat} {a : Int} (hp : pollB p = true) (hx : (candL (sizesP p))[j]? = some xs) (ha : xs[k]? = some a) : 0 ≤ a ∧ a ≤ 2 := by
 have h1 := candL_mem.1 (List.mem_of_getElem? hx)
 have hk : k < (sizesP p).length := by rw [← h1.1]; exact (List.getElem?_eq_some_iff.1 ha).1
 have h2 := h1.2 k _ a (List.getElem?_eq_getElem hk) ha
 have h3 := sizes_ok hp _ (List.getElem_mem hk)
 omega
theorem truths_end {p : Poll} {xs : List Int} {j : Nat} (hx : (candL (sizesP p))[j]? = some xs) (hz : ∀ (k n : Nat) (x : Int), 0 ≤ k → (sizesP p)[k]? = some n → xs[k]? = some x → x = (n : Int) - 1) : truthsL p = ((candL (sizesP p)).take j).filter (trueB p) ++ if trueB p xs = true then [xs] else [] := by
 have h1 := cand_last hx fun k n x => hz k n x (Nat.zero_le _)
 have h2 : (candL (sizesP p)).take (j + 1) = candL (sizesP p) := List.take_of_length_le (by rw [candL_len]; omega)
 rw [truthsL, ← h2, take_snoc hx, List.filter_append, List.filter_cons, List.filter_nil]
 rw [List.take_append_of_le_length (by rw [List.length_take]; have := (List.getElem?_eq_some_iff.1 hx).1; omega), List.take_take, Nat.min_self]
theorem truths_le {p : Poll} (hp : pollB p = true) : (truthsL p).length ≤ 729 := by
 refine Nat.le_trans (List.length_filter_le _ _) ?_
 rw [candL_len]; exact prod_le hp
end Go.Pk

namespace Go.Pk
open Go Go.RowKit
def ltL : List Int → List Int → Bool
 | a :: s, b :: t => if a = b then ltL s t else decide (a < b)
 | _, _ => false
def beforeL (a b : List Int) : Bool := if a.length ≠ b.length then decide (a.length < b.length) else ltL a b
def alikeL (a b l : List Int) : Bool := l.all fun k => decide (a[k.toNat]? = b[k.toNat]?)
def tellsAt (ts : List (List Int)) (l : List Int) (i : Nat) : Bool := match ts[i]? with | some t => (ts.take i).all fun u => !alikeL t u l | none => true
def tellsL (ts : List (List Int)) (l : List Int) : Bool := (List.range ts.length).all (tellsAt ts l)
def membersL (s : Int) (n : Nat) : List Int := ((List.range n).filter fun (i : Nat) => decide (bitN s (i : Int) = 1)).map fun (i : Nat) => (i : Int)
/-- the fewest questions that tell the truths apart, so far -/
def askK (ts : List (List Int)) (n : Nat) : Nat → Option (List Int)
 | 0 => none
 | k + 1 => if ((match askK ts n k with | none => true | some b => beforeL (membersL (k : Int) n) b) && tellsL ts (membersL (k : Int) n)) = true then some (membersL (k : Int) n) else askK ts n k
def askR7 (p : Poll) : List Int := if allE p true = 0 then (askK (truthsL p) p.questions.length (2 ^ p.questions.length)).getD [] else []
/-- the question that is to be asked next, so far -/
def nextK (ts : List (List Int)) : Nat → Nat
 | 0 => 0
 | k + 1 => if worstN ts (k + 1) < worstN ts (nextK ts k) then k + 1 else nextK ts k
def nextE (p : Poll) : Int := if allE p true ≠ 0 then allE p true else if (truthsL p).length = 1 then 6 else 0
def nextR (p : Poll) : Int := if nextE p = 0 then (nextK (truthsL p) (p.questions.length - 1) : Int) else 0
theorem truth_len {p : Poll} {t : List Int} (h : t ∈ truthsL p) : t.length = p.questions.length := true_len (List.mem_filter.1 h).2
theorem truth_in {p : Poll} {t : List Int} (h : t ∈ truthsL p) {k : Nat} {a : Int} {q : Question} (ha : t[k]? = some a) (hq : p.questions[k]? = some q) : 0 ≤ a ∧ a < (q.heads.length : Int) := true_in (List.mem_filter.1 h).2 ha hq
/-- the heads of a question that are open -/
def openB (ts : List (List Int)) (q : Nat) (h : Int) : Bool := ts.any fun t => decide (t[q]? = some h)
def openK (ts : List (List Int)) (q n : Nat) : List Int := ((List.range n).filter fun (h : Nat) => openB ts q (h : Int)).map fun (h : Nat) => (h : Int)
theorem openK_succ (ts : List (List Int)) (q n : Nat) : openK ts q (n + 1) = openK ts q n ++ if openB ts q (n : Int) = true then [(n : Int)] else [] := by
 rw [openK, List.range_succ, List.filter_append, List.map_append, List.filter_cons, List.filter_nil, openK]
 by_cases h : openB ts q (n : Int) = true <;> simp [h]
theorem openK_len (ts : List (List Int)) (q n : Nat) : (openK ts q n).length ≤ n := by
 rw [openK, List.length_map]
 have := List.length_filter_le (fun h : Nat => openB ts q (h : Int)) (List.range n)
 rwa [List.length_range] at this
def openR (p : Poll) (question : Int) : List Int := if allE p (inB question 0 ((p.questions.length : Int) - 1)) = 0 then openK (truthsL p) question.toNat (((p.questions[question.toNat]?).getD zQuestion).heads.length) else []
/-- how votes fall -/
def tallyL (vs : List Voter) (q n : Nat) : List Int := (List.range n).map fun (h : Nat) => (((vs.filter fun v => decide (v.votes[q]? = some (h : Int))).length : Nat) : Int)
def tallyE (p : Poll) (question : Int) : Int := if checkP p ≠ 0 then checkP p else if inB question 0 ((p.questions.length : Int) - 1) = true then 0 else 2
def tallyR (p : Poll) (question : Int) : List Int := if tallyE p question = 0 then tallyL p.voters question.toNat (((p.questions[question.toNat]?).getD zQuestion).heads.length) else []
end Go.Pk

namespace Go.Pk
open Go Go.RowKit
/-- what all truths have in common -/
def setAt (ts : List (List Int)) (a0 : List Int) (k : Nat) : Int := match a0[k]? with | some h => if (ts.all fun t => decide (t[k]? = some h)) = true then h else -1 | none => -1
def setK (ts : List (List Int)) (a0 : List Int) : List Int := (List.range a0.length).map (setAt ts a0)
def setL7 (ts : List (List Int)) : List Int := match ts[0]? with | some a0 => setK ts a0 | none => []
theorem setK_len (ts : List (List Int)) (a0 : List Int) : (setK ts a0).length = a0.length := by simp [setK]
theorem setK_get {ts : List (List Int)} {a0 : List Int} {k : Nat} (hk : k < a0.length) : (setK ts a0)[k]? = some (setAt ts a0 k) := by rw [setK, List.getElem?_map, List.getElem?_range hk]; rfl
theorem setK_one {ts : List (List Int)} {a0 : List Int} (h : ts[0]? = some a0) : setK (ts.take 1) a0 = a0 := by
 have e : ts.take 1 = [a0] := by
  cases ts with
  | nil => cases h
  | cons a l => simp at h; subst h; rfl
 rw [e]
 refine List.ext_getElem? fun k => ?_
 by_cases hk : k < a0.length
 ·rw [setK_get hk, setAt, List.getElem?_eq_getElem hk]; simp
 ·rw [List.getElem?_eq_none (by rw [setK_len]; omega), List.getElem?_eq_none (by omega)]
/-- the i-th truth taken in, up to the k-th question -/
def setM (ts : List (List Int)) (a0 : List Int) (i k : Nat) : List Int := (setK (ts.take (i + 1)) a0).take k ++ (setK (ts.take i) a0).drop k
theorem setM_len (ts : List (List Int)) (a0 : List Int) (i k : Nat) : (setM ts a0 i k).length = a0.length := by
 rw [setM, List.length_append, List.length_take, List.length_drop, setK_len, setK_len]; omega
theorem setM_zero (ts : List (List Int)) (a0 : List Int) (i : Nat) : setM ts a0 i 0 = setK (ts.take i) a0 := by simp [setM]
theorem setM_end {ts : List (List Int)} {a0 : List Int} {i k : Nat} (hk : a0.length ≤ k) : setM ts a0 i k = setK (ts.take (i + 1)) a0 := by
 rw [setM, List.take_of_length_le (by rw [setK_len]; omega), List.drop_eq_nil_of_le (by rw [setK_len]; omega), List.append_nil]
theorem setM_at {ts : List (List Int)} {a0 : List Int} {i k : Nat} (hk : k < a0.length) : setM ts a0 i (k + 1) = (setM ts a0 i k).set k (setAt (ts.take (i + 1)) a0 k) := by
 have h1 : (setK (ts.take (i + 1)) a0)[k]? = some (setAt (ts.take (i + 1)) a0 k) := setK_get hk
 have h2 : (setK (ts.take i) a0)[k]? = some (setAt (ts.take i) a0 k) := setK_get hk
 have hl : ((setK (ts.take (i + 1)) a0).take k).length = k := by rw [List.length_take, setK_len]; omega
 rw [setM, take_snoc h1, setM, List.set_append_right _ _ (by omega), hl, Nat.sub_self, drop_cons h2, List.set_cons_zero, List.append_assoc]; rfl
theorem setAt_snoc {ts : List (List Int)} {a0 t : List Int} {i k : Nat} {h x : Int} (ht : ts[i]? = some t) (h0 : a0[k]? = some h) (hx : t[k]? = some x) : setAt (ts.take (i + 1)) a0 k = if x = h then setAt (ts.take i) a0 k else -1 := by
 simp only [setAt, h0]
 rw [take_snoc ht, List.all_append, List.all_cons, List.all_nil, Bool.and_true, hx]
 by_cases e : x = h
 ·simp [e]
 ·simp [e]
theorem setM_same {ts : List (List Int)} {a0 t : List Int} {i k : Nat} {h x : Int} (ht : ts[i]? = some t) (h0 : a0[k]? = some h) (hx : t[k]? = some x) (e : x = h) : setM ts a0 i (k + 1) = setM ts a0 i k := by
 have hk : k < a0.length := (List.getElem?_eq_some_iff.1 h0).1
 rw [setM_at hk, setAt_snoc ht h0 hx, if_pos e]
 refine List.ext_getElem? fun j => ?_
 by_cases ej : j = k
 ·subst ej
  rw [List.getElem?_set_self (by rw [setM_len]; exact hk), setM, List.getElem?_append_right (by rw [List.length_take]; omega), List.length_take, setK_len, Nat.min_eq_left (by omega), Nat.sub_self, List.getElem?_drop, Nat.add_zero, setK_get hk]
 ·rw [List.getElem?_set_ne (Ne.symm ej)]
theorem setM_else {ts : List (List Int)} {a0 t : List Int} {i k : Nat} {h x : Int} (ht : ts[i]? = some t) (h0 : a0[k]? = some h) (hx : t[k]? = some x) (e : ¬ x = h) : setM ts a0 i (k + 1) = (setM ts a0 i k).set k (-1) := by
 rw [setM_at (List.getElem?_eq_some_iff.1 h0).1, setAt_snoc ht h0 hx, if_neg e]
def settledR (p : Poll) : List Int := if allE p true = 0 then setL7 (truthsL p) else []
/-- how often a voter is wrong, in all truths -/
def spanK (v : Voter) (ts : List (List Int)) : Span := ts.foldl (fun s t => ⟨minI s.lo (wrongN v t), maxI s.hi (wrongN v t)⟩) ⟨6, 0⟩
def wrongsR (p : Poll) (voter : Int) : Span := if allE p (inB voter 0 ((p.voters.length : Int) - 1)) = 0 then spanK ((p.voters[voter.toNat]?).getD zVoter) (truthsL p) else zSpan
end Go.Pk

namespace Go.Pk
open Go Go.RowKit
section
variable {P : Program} {σ : Env} {w : World} {ty : TypeId} {pos : String} {aft : Array Edge} {g : Option (Nat × Bool)} {dst : Option Tmp}
theorem r_sgtr {t t' : TypeId} {x y : Operand} {a b : Str} (hx : ev σ x = strV a) (hy : ev σ y = strV b) : Run P σ w ⟨dst, .binOp .gtr t x y t', ty, pos, aft, g⟩ (.bool (!(Op.bytesLess a b || decide (a = b)))) w := by
 simp only [strV] at hx hy
 simp [Run, execOp, hx, hy, eqGuard, binOp, Op.stringOp, beq_str]
theorem r_index_arrv {t e : TypeId} {x ix : Operand} {i : Int} {k m n : Nat} {vs us : List Value} (hx : ev σ x = .agg vs.toArray) (hi : ev σ ix = .int .i64 i) (hk : i = (k : Int)) (hlt : Nat.blt k n = true) (hu : P.underlying t = some (.array n e)) (ha : ∀ w, (isAgg e).run P w = .ok true w) (hz : ∀ w, (sizeOf e).run P w = .ok m w) (hv : (vs.drop (k * m)).take m = us) :
  Run P σ w ⟨dst, .index t x ix, ty, pos, aft, g⟩ (.agg us.toArray) w := by
 subst hk hv
 have h1 : k < n := by rwa [Nat.blt_eq] at hlt
 simp [Run, execOp, hx, hi, Instr.index, asIntOf, run_underlying hu, h1, part, ha, hz]
end
def cmpT (a b : Str) : Int := if sLt a b = true then -1 else if a = b then 0 else 1
/-- the first of some numbers that is not 0 -/
def orL : List Int → Int
 | [] => 0
 | a :: l => if a ≠ 0 then a else orL l
theorem orL_drop {l : List Int} {k : Nat} {a : Int} (h : l[k]? = some a) : orL (l.drop k) = if a ≠ 0 then a else orL (l.drop (k + 1)) := by rw [drop_cons h]; rfl
theorem places_lt (a b : Place) : decide (orL [cmpI a.chapter b.chapter, cmpI a.line b.line, cmpI a.word b.word] < 0) = beforeB a b := by
 rcases a with ⟨a1, a2, a3⟩; rcases b with ⟨b1, b2, b3⟩
 simp only [orL, cmpI, beforeB, ne_eq]
 rw [Bool.eq_iff_iff, decide_eq_true_eq]
 by_cases h1 : a1 = b1 <;> by_cases h2 : a2 = b2 <;> simp only [h1, h2, not_true_eq_false, not_false_eq_true, if_true, if_false, decide_eq_true_eq, Int.lt_irrefl] <;> (repeat' split) <;> omega
theorem heads_lt (a b : Head) : decide (orL [cmpT a.stem b.stem, cmpI a.mark b.mark] < 0) = headLt a b := by
 rcases a with ⟨s1, m1⟩; rcases b with ⟨s2, m2⟩
 simp only [orL, cmpT, cmpI, headLt, ne_eq]
 rw [Bool.eq_iff_iff, decide_eq_true_eq]
 by_cases h1 : sLt s1 s2 = true
 ·simp [h1]
 ·simp only [h1, if_false, Bool.or_eq_true, Bool.and_eq_true, decide_eq_true_eq, false_or, Bool.false_eq_true]
  by_cases h2 : s1 = s2
  ·subst h2
   simp only [if_true, not_true_eq_false, if_false, true_and]
   (repeat' split) <;> omega
  ·simp [h2]
/-- a question, but for its heads -/
def questB (p : Poll) (i : Nat) (q : Question) : Bool := placeB p.text q.at_ && (decide (i = 0) || beforeB ((p.questions[i - 1]?).getD zQuestion).at_ q.at_) && inB q.heads.length 2 3
def questK (p : Poll) (i : Nat) (q : Question) (k : Nat) : Bool := questB p i q && (List.range k).all (headsOkAt q.heads)
theorem questK_succ (p : Poll) (i : Nat) (q : Question) (k : Nat) : questK p i q (k + 1) = (questK p i q k && headsOkAt q.heads k) := by
 simp only [questK, List.range_succ, List.all_append, List.all_cons, List.all_nil, Bool.and_true, Bool.and_assoc]
theorem questK_zero (p : Poll) (i : Nat) (q : Question) : questK p i q 0 = questB p i q := by simp [questK]
theorem quest_eq {p : Poll} {i k : Nat} {q : Question} (hq : p.questions[i]? = some q) (hk : q.heads.length = k) : questAt p i = questK p i q k := by
 subst hk
 simp only [questAt, hq, questK, questB, headsOk]
section
variable {p : Poll} {i k : Nat} {q q1 : Question} {hd h1 : Head}
theorem q_init0 (a : (if placeB p.text q.at_ = true then (0 : Int) else 12) = 0) (b : inAll [(q.heads.length : Int)] 2 3 = true) (c : (i : Int) = 0) : true = questB p i q := by
 have a : placeB p.text q.at_ = true := by
  cases e : placeB p.text q.at_
  ·rw [e] at a; simp at a
  ·rfl
 rw [inAll_one] at b
 simp only [questB, a, b, decide_eq_true (show i = 0 by omega), Bool.and_true, Bool.true_or]
theorem q_init1 (a : (if placeB p.text q.at_ = true then (0 : Int) else 12) = 0) (b : inAll [(q.heads.length : Int)] 2 3 = true) (c : ¬ (i : Int) = 0) (d : p.questions[i - 1]? = some q1) : decide (orL [cmpI q1.at_.chapter q.at_.chapter, cmpI q1.at_.line q.at_.line, cmpI q1.at_.word q.at_.word] < 0) = questB p i q := by
 have a : placeB p.text q.at_ = true := by
  cases e : placeB p.text q.at_
  ·rw [e] at a; simp at a
  ·rfl
 rw [inAll_one] at b
 simp only [questB, a, b, decide_eq_false (show ¬ i = 0 by omega), Bool.and_true, Bool.true_and, Bool.false_or, places_lt, d, Option.getD_some]
theorem q_init2 (b : inAll [(q.heads.length : Int)] 2 3 = false) : false = questB p i q := by
 rw [inAll_one] at b
 simp only [questB, b, Bool.and_false]
theorem q_init3 (a : ¬ (if placeB p.text q.at_ = true then (0 : Int) else 12) = 0) : false = questB p i q := by
 have a : placeB p.text q.at_ = false := by
  cases e : placeB p.text q.at_
  ·rfl
  ·rw [e] at a; simp at a
 simp only [questB, a, Bool.false_and]
theorem q_step0 (a : questK p i q k = true) (b : headB hd = true) (c : (k : Int) = 0) (d : q.heads[k]? = some hd) : true = (questK p i q k && headsOkAt q.heads k) := by
 simp only [a, headsOkAt, d, b, decide_eq_true (show k = 0 by omega), Bool.true_or, Bool.and_true]
theorem q_step1 (a : questK p i q k = true) (b : headB hd = true) (c : ¬ (k : Int) = 0) (d : q.heads[k]? = some hd) (e : q.heads[k - 1]? = some h1) : decide (orL [cmpT h1.stem hd.stem, cmpI h1.mark hd.mark] < 0) = (questK p i q k && headsOkAt q.heads k) := by
 simp only [a, headsOkAt, d, b, e, decide_eq_false (show ¬ k = 0 by omega), Bool.false_or, Bool.true_and, heads_lt, Option.getD_some]
theorem q_step2 (b : headB hd = false) (d : q.heads[k]? = some hd) : false = (questK p i q k && headsOkAt q.heads k) := by
 simp only [headsOkAt, d, b, Bool.false_and, Bool.and_false]
theorem q_step3 (a : questK p i q k = false) : false = (questK p i q k && headsOkAt q.heads k) := by simp only [a, Bool.false_and]
end
/-- what a voter is asked -/
def askAt (p : Poll) (v : Voter) (i : Nat) : Nat → Bool
 | 0 => inB v.id 0 9999
 | 1 => inB v.wrong 0 6
 | 2 => decide (v.votes.length = p.questions.length)
 | 3 => votesOk p v
 | _ => !((p.voters.take i).any fun u => decide (u.id = v.id))
theorem ask_all {p : Poll} {v : Voter} {i k : Nat} (hv : p.voters[i]? = some v) (h : ∀ m, m < k → askAt p v i m = true) (hk : 5 ≤ k) : voterAt p i = true := by
 have h0 := h 0 (by omega); have h1 := h 1 (by omega); have h2 := h 2 (by omega); have h3 := h 3 (by omega); have h4 := h 4 (by omega)
 simp only [askAt] at h0 h1 h2 h3 h4
 simp only [voterAt, hv, voterOk, h0, h1, h2, h3, Bool.and_true, Bool.true_and]
 rw [List.all_eq_true]
 intro u hu
 simp only [Bool.not_eq_true', List.any_eq_false, decide_eq_true_eq] at h4
 exact decide_eq_true (h4 u hu)
theorem ask_no {p : Poll} {v : Voter} {i k : Nat} (hv : p.voters[i]? = some v) (h : askAt p v i k = false) : pollB p = false := by
 refine poll_v (i := i) ?_
 simp only [voterAt, hv, voterOk]
 match k, h with
 | 0, h => simp only [askAt] at h; simp [h]
 | 1, h => simp only [askAt] at h; simp [h]
 | 2, h => simp only [askAt] at h; simp [h]
 | 3, h => simp only [askAt] at h; simp [h]
 | k + 4, h =>
  simp only [askAt, Bool.not_eq_false', List.any_eq_true, decide_eq_true_eq] at h
  obtain ⟨u, hu, e⟩ := h
  have : ((p.voters.take i).all fun u => decide (u.id ≠ v.id)) = false := List.all_eq_false.2 ⟨u, hu, by simp [e]⟩
  rw [this, Bool.and_false]
theorem asked_len {p : Poll} {v u : Voter} {j : Nat} (hv : p.voters[j]? = some v) (h : askAt p v j 2 = true) : u.votes.length = p.questions.length ∨ p.voters[((j : Int)).toNat]? ≠ some u := by
 by_cases e : p.voters[((j : Int)).toNat]? = some u
 ·rw [Int.toNat_natCast, hv] at e
  cases e
  exact .inl (by simpa [askAt] using h)
 ·exact .inr e
theorem check_not {p : Poll} (h0 : checkN p.text p.lexicon = 0) (h : pollB p = false) : checkP p = 70 := by simp [checkP, h0, h]
theorem check_yes {p : Poll} (h0 : checkN p.text p.lexicon = 0) (h : pollB p = true) : checkP p = 0 := by simp [checkP, h0, h]
end Go.Pk

namespace Go.Pk
open Go Go.RowKit
def leftV (now : List Int) (v : Voter) : Int := v.wrong - (wrongN v now : Int)
/-- how often each may still be wrong -/
def leftL (p : Poll) (now : List Int) : List Int := p.voters.map (leftV now)
def leftM (p : Poll) (now : List Int) (h : Int) (i : Nat) : List Int := (p.voters.take i).map (leftV (now ++ [h])) ++ (p.voters.drop i).map (leftV now)
structure NowOk (p : Poll) (now : List Int) : Prop where
 len : now.length ≤ p.questions.length
 ins : ∀ k, k < now.length → inAt p now k = true
 wr : ∀ v ∈ p.voters, (wrongN v now : Int) ≤ v.wrong
theorem now_nil {p : Poll} (hp : pollB p = true) : NowOk p [] := by
 refine ⟨Nat.zero_le _, fun k hk => absurd hk (by simp), fun v hv => ?_⟩
 have := poll_voter hp hv
 have e : wrongN v [] = 0 := rfl
 rw [e]; omega
theorem now_true {p : Poll} {now : List Int} (h : NowOk p now) (hl : now.length = p.questions.length) : trueB p now = true :=
 true_yes (i := now.length) (k := p.voters.length) hl h.ins (Nat.le_refl _) (fun v hv => h.wr v (List.mem_of_mem_take hv)) (Nat.le_refl _)
theorem now_snoc {p : Poll} {now : List Int} {q : Question} {h : Nat} (hn : NowOk p now) (hq : p.questions[now.length]? = some q) (hh : h < q.heads.length) (hw : ∀ v ∈ p.voters, (wrongN v (now ++ [(h : Int)]) : Int) ≤ v.wrong) : NowOk p (now ++ [(h : Int)]) := by
 have hlt := (List.getElem?_eq_some_iff.1 hq).1
 refine ⟨by simp; omega, fun k hk => ?_, hw⟩
 rw [List.length_append, List.length_cons, List.length_nil] at hk
 by_cases e : k < now.length
 ·have := hn.ins k e
  simp only [inAt, List.getElem?_append_left e] at this ⊢
  exact this
 ·obtain rfl : k = now.length := by omega
  simp only [inAt, hq, List.getElem?_append_right (Nat.le_refl _), Nat.sub_self, List.getElem?_cons_zero, inB, Bool.and_eq_true, decide_eq_true_eq]
  omega
theorem leftL_len (p : Poll) (now : List Int) : (leftL p now).length = p.voters.length := by simp [leftL]
theorem leftM_len (p : Poll) (now : List Int) (h : Int) (i : Nat) : (leftM p now h i).length = p.voters.length := by simp [leftM]; omega
theorem leftM_zero (p : Poll) (now : List Int) (h : Int) : leftM p now h 0 = leftL p now := by simp [leftM, leftL]
theorem leftM_all {p : Poll} (now : List Int) (h : Int) {i : Nat} (hi : p.voters.length ≤ i) : leftM p now h i = leftL p (now ++ [h]) := by
 rw [leftM, List.take_of_length_le hi, List.drop_eq_nil_of_le hi]; simp [leftL]
theorem leftM_at {p : Poll} {now : List Int} {h : Int} {i : Nat} {v : Voter} (hv : p.voters[i]? = some v) : (leftM p now h i)[i]? = some (leftV now v) := by
 have hlt := (List.getElem?_eq_some_iff.1 hv).1
 rw [leftM, List.getElem?_append_right (by simp; omega)]
 simp [List.length_take, Nat.min_eq_left (Nat.le_of_lt hlt), hv]
theorem leftM_next {p : Poll} {now : List Int} {h : Int} {i : Nat} {v : Voter} (hv : p.voters[i]? = some v) : leftM p now h (i + 1) = (leftM p now h i).set i (leftV (now ++ [h]) v) := by
 have hlt := (List.getElem?_eq_some_iff.1 hv).1
 rw [leftM, leftM, take_snoc hv, drop_cons hv, List.map_append, List.map_cons, List.map_nil, List.map_cons, List.set_append_right _ _ (by simp; omega), List.length_map, List.length_take, Nat.min_eq_left (Nat.le_of_lt hlt), Nat.sub_self, List.set_cons_zero, List.append_assoc]
 rfl
theorem leftV_same {now : List Int} {h a : Int} {v : Voter} (ha : v.votes[now.length]? = some a) (hc : a < 0 ∨ a = h) : wrongN v (now ++ [h]) = wrongN v now := by
 rw [wrongN_snoc, ha, if_neg, Nat.add_zero]
 simp only [Bool.and_eq_true, decide_eq_true_eq]
 rintro ⟨h1, h2⟩
 rcases hc with hc | hc
 ·omega
 ·exact h2 hc
theorem leftV_less {now : List Int} {h a : Int} {v : Voter} (ha : v.votes[now.length]? = some a) (h1 : ¬ a < 0) (h2 : ¬ a = h) : wrongN v (now ++ [h]) = wrongN v now + 1 := by
 rw [wrongN_snoc, ha, if_pos]
 simp only [Bool.and_eq_true, decide_eq_true_eq]
 exact ⟨by omega, h2⟩
theorem leftM_skip {p : Poll} {now : List Int} {h a : Int} {i : Nat} {v : Voter} (hv : p.voters[i]? = some v) (ha : v.votes[now.length]? = some a) (hc : a < 0 ∨ a = h) : leftM p now h (i + 1) = leftM p now h i := by
 rw [leftM_next hv]
 have e : leftV (now ++ [h]) v = leftV now v := by rw [leftV, leftV, leftV_same ha hc]
 rw [e]
 have q := leftM_at (now := now) (h := h) hv
 refine List.ext_getElem? fun j => ?_
 rw [List.getElem?_set]
 split
 ·rename_i ej
  subst ej
  rw [q, if_pos (List.getElem?_eq_some_iff.1 q).1]
 ·rfl
theorem leftM_less {p : Poll} {now : List Int} {h a : Int} {i : Nat} {v : Voter} (hv : p.voters[i]? = some v) (ha : v.votes[now.length]? = some a) (h1 : ¬ a < 0) (h2 : ¬ a = h) : leftM p now h (i + 1) = (leftM p now h i).set i (leftV now v - 1) := by
 rw [leftM_next hv]
 have e : leftV (now ++ [h]) v = leftV now v - 1 := by rw [leftV, leftV, leftV_less ha h1 h2]; omega
 rw [e]
theorem left_neg {now : List Int} {h a z : Int} {v : Voter} (ha : v.votes[now.length]? = some a) (h1 : ¬ a < 0) (h2 : ¬ a = h) (hz : z = leftV now v - 1) (hn : z < 0) : v.wrong < (wrongN v (now ++ [h]) : Int) := by
 rw [leftV_less ha h1 h2]; rw [leftV] at hz; omega
theorem left_pos {now : List Int} {h a z : Int} {v : Voter} (ha : v.votes[now.length]? = some a) (h1 : ¬ a < 0) (h2 : ¬ a = h) (hz : z = leftV now v - 1) (hn : ¬ z < 0) : (wrongN v (now ++ [h]) : Int) ≤ v.wrong := by
 rw [leftV_less ha h1 h2]; rw [leftV] at hz; omega
theorem left_skip {p : Poll} {now : List Int} {h a : Int} {v : Voter} (hn : NowOk p now) (hv : v ∈ p.voters) (ha : v.votes[now.length]? = some a) (hc : a < 0 ∨ a = h) : (wrongN v (now ++ [h]) : Int) ≤ v.wrong := by
 rw [leftV_same ha hc]; exact hn.wr v hv
theorem left_at {p : Poll} {now : List Int} {h x : Int} {i : Nat} {v : Voter} (hv : p.voters[i]? = some v) (hx : (leftM p now h i)[i]? = some x) : x = leftV now v := by
 rw [leftM_at hv] at hx; exact (Option.some.inj hx).symm
theorem left_bound {p : Poll} {now : List Int} {v : Voter} (hp : pollB p = true) (hn : NowOk p now) (hv : v ∈ p.voters) : 0 ≤ leftV now v ∧ leftV now v ≤ 6 := by
 have h1 := poll_voter hp hv
 have h2 := hn.wr v hv
 rw [leftV]; omega
theorem set_at {l : List Int} {i : Nat} {x z : Int} (h : (l.set i x)[i]? = some z) : z = x := by
 rw [List.getElem?_set] at h
 simp only [if_true] at h
 split at h
 ·exact (Option.some.inj h).symm
 ·cases h
def startL (p : Poll) (i : Nat) : List Int := (p.voters.take i).map (·.wrong) ++ List.replicate (p.voters.length - i) 0
theorem startL_zero (p : Poll) : startL p 0 = List.replicate p.voters.length 0 := by simp [startL]
theorem startL_len {p : Poll} {i : Nat} (h : i ≤ p.voters.length) : (startL p i).length = p.voters.length := by simp [startL]; omega
theorem startL_set {p : Poll} {i : Nat} {v : Voter} (hv : p.voters[i]? = some v) : (startL p i).set i v.wrong = startL p (i + 1) := by
 have hlt := (List.getElem?_eq_some_iff.1 hv).1
 rw [startL, startL, take_snoc hv, List.set_append_right _ _ (by simp; omega), List.length_map, List.length_take, Nat.min_eq_left (Nat.le_of_lt hlt), Nat.sub_self, show p.voters.length - i = (p.voters.length - (i + 1)) + 1 by omega, List.replicate_succ, List.set_cons_zero, List.map_append, List.append_assoc]
 rfl
theorem startL_all {p : Poll} {i : Nat} (h : p.voters.length ≤ i) : startL p i = leftL p [] := by
 rw [startL, List.take_of_length_le h, show p.voters.length - i = 0 by omega, leftL]
 simp only [List.replicate_zero, List.append_nil]
 refine List.map_congr_left fun v _ => ?_
 have e : wrongN v [] = 0 := rfl
 rw [leftV, e]; simp
/-- the truths that begin so, the first heads of the next question alone -/
def truthsK (p : Poll) (now : List Int) (k : Nat) : List (List Int) := (List.range k).flatMap fun (h : Nat) => truthsFrom p (now ++ [(h : Int)])
theorem truthsK_succ (p : Poll) (now : List Int) (k : Nat) : truthsK p now (k + 1) = truthsK p now k ++ truthsFrom p (now ++ [(k : Int)]) := by
 rw [truthsK, List.range_succ, List.flatMap_append, List.flatMap_cons, List.flatMap_nil, List.append_nil]; rfl
theorem truthsK_all {p : Poll} {now : List Int} {q : Question} {k : Nat} (hq : p.questions[now.length]? = some q) (hk : q.heads.length = k) : truthsFrom p now = truthsK p now k := by
 subst hk
 exact truthsFrom_next (by simp [sizesP, hq])
/-- so far these were yielded, and these come next -/
def OnWay (p : Poll) (done : List (List Int)) (now : List Int) : Prop := ∃ tl, truthsL p = done ++ truthsFrom p now ++ tl
theorem onway_nil (p : Poll) : OnWay p [] [] := ⟨[], by rw [truthsFrom_nil]; simp⟩
theorem onway_next {p : Poll} {done : List (List Int)} {now : List Int} {q : Question} {k : Nat} (h : OnWay p done now) (hq : p.questions[now.length]? = some q) (hk : k < q.heads.length) : OnWay p (done ++ truthsK p now k) (now ++ [(k : Int)]) := by
 obtain ⟨tl, h⟩ := h
 rw [truthsK_all hq rfl] at h
 have e : truthsK p now q.heads.length = truthsK p now k ++ truthsFrom p (now ++ [(k : Int)]) ++ ((List.range (q.heads.length - (k + 1))).map (k + 1 + ·)).flatMap fun (h : Nat) => truthsFrom p (now ++ [(h : Int)]) := by
  rw [← truthsK_succ]
  simp only [truthsK]
  rw [← List.flatMap_append]
  congr 1
  conv => lhs; rw [show q.heads.length = (k + 1) + (q.heads.length - (k + 1)) by omega]
  rw [List.range_add]
 rw [e] at h
 exact ⟨((List.range (q.heads.length - (k + 1))).map (k + 1 + ·)).flatMap (fun (h : Nat) => truthsFrom p (now ++ [(h : Int)])) ++ tl, by rw [h]; simp only [List.append_assoc]⟩
theorem onway_at {p : Poll} {done : List (List Int)} {now : List Int} (h : OnWay p done now) (hn : truthsFrom p now = [now]) : (truthsL p)[done.length]? = some now := by
 obtain ⟨tl, h⟩ := h
 rw [h, hn]; simp
theorem truths_one {p : Poll} {now : List Int} (h : NowOk p now) (hl : now.length = p.questions.length) : truthsFrom p now = [now] := by
 rw [truthsFrom_all hl, if_pos (now_true h hl)]
end Go.Pk

namespace Go.Pk
open Go Go.RowKit
theorem intLt_T : TLt (fun a b : Int => decide (a < b)) := by
 refine ⟨fun a => by simp, fun a b c h1 h2 => ?_, fun a b h => ?_⟩
 ·simp only [decide_eq_true_eq] at *; omega
 ·simp only [decide_eq_true_eq]; omega
def choiceAt (q : Nat) (t : List Int) : Int := (t[q]?).getD 0
theorem choiceAt_some {q : Nat} {t : List Int} {a : Int} (h : t[q]? = some a) : choiceAt q t = a := by rw [choiceAt, h]; rfl
theorem openK_sorted (ts : List (List Int)) (q : Nat) : ∀ n, (openK ts q n).Pairwise fun a b => decide (a < b) = true
 | 0 => by simp [openK]
 | n + 1 => by
  rw [openK_succ, List.pairwise_append]
  refine ⟨openK_sorted ts q n, by split <;> simp, fun a ha b hb => ?_⟩
  split at hb
  ·rw [List.mem_singleton] at hb
   subst hb
   simp only [openK, List.mem_map, List.mem_filter, List.mem_range] at ha
   obtain ⟨k, ⟨hk, _⟩, rfl⟩ := ha
   simp; omega
  ·cases hb
theorem open_sorted {ts : List (List Int)} {q n : Nat} (h : ∀ t ∈ ts, ∃ a, t[q]? = some a ∧ 0 ≤ a ∧ a < (n : Int)) : compactL ((ts.map (choiceAt q)).mergeSort fun a b => decide (a ≤ b)) = openK ts q n := by
 rw [setOf_compact intLt_T (List.mergeSort_perm _ _)]
 ·refine strict_eq intLt_T (setL_sorted intLt_T _) (openK_sorted ts q n) fun x => ?_
  rw [setL_mem]
  simp only [openK, List.mem_map, List.mem_filter, List.mem_range, openB, List.any_eq_true, decide_eq_true_eq]
  constructor
  ·rintro ⟨t, ht, rfl⟩
   obtain ⟨a, ha, h0, h1⟩ := h t ht
   refine ⟨a.toNat, ⟨by omega, t, ht, ?_⟩, ?_⟩
   ·rw [ha]; congr 1; omega
   ·rw [choiceAt_some ha]; omega
  ·rintro ⟨k, ⟨_, t, ht, e⟩, rfl⟩
   exact ⟨t, ht, choiceAt_some e⟩
 ·have := List.pairwise_mergeSort (le := fun a b : Int => decide (a ≤ b)) (by intro a b c h1 h2; simp only [decide_eq_true_eq] at *; omega) (by intro a b; simp only [Bool.or_eq_true, decide_eq_true_eq]; omega) (ts.map (choiceAt q))
  exact this.imp fun {a b} h => by simp only [decide_eq_true_eq, decide_eq_false_iff_not] at *; omega
theorem truth_at {p : Poll} {t : List Int} {q : Nat} {x : Question} (h : t ∈ truthsL p) (hx : p.questions[q]? = some x) : ∃ a, t[q]? = some a ∧ 0 ≤ a ∧ a < (x.heads.length : Int) := by
 have hl := truth_len h
 have hlt := (List.getElem?_eq_some_iff.1 hx).1
 refine ⟨_, List.getElem?_eq_getElem (by omega), ?_⟩
 exact truth_in h (List.getElem?_eq_getElem (by omega)) hx
theorem setK_nil (ts : List (List Int)) (a0 : List Int) : setK (ts.take 0) a0 = a0 := by
 refine List.ext_getElem (setK_len _ _) fun k h1 h2 => ?_
 have := setK_get (ts := ts.take 0) h2
 rw [List.getElem?_eq_getElem h1] at this
 have e := Option.some.inj this
 rw [e, setAt, List.getElem?_eq_getElem h2]
 simp
def smallQ (q : Question) : Bool := decide (q.heads.length ≤ 6) && q.heads.all fun h => decide (h.stem.length ≤ 40)
def smallV (v : Voter) : Bool := decide (v.votes.length ≤ 20)
def smallP (p : Poll) : Bool := smallT p.text && smallX p.lexicon && decide (p.questions.length ≤ 10) && decide (p.voters.length ≤ 10) && p.questions.all smallQ && p.voters.all smallV
theorem smallP_q {p : Poll} (h : smallP p = true) {i : Nat} {q : Question} (hq : p.questions[i]? = some q) : q.heads.length ≤ 6 := by
 simp only [smallP, Bool.and_eq_true, List.all_eq_true] at h
 have := h.1.2 q (List.mem_of_getElem? hq)
 simp only [smallQ, Bool.and_eq_true, decide_eq_true_eq] at this
 exact this.1
theorem smallP_v {p : Poll} (h : smallP p = true) {i : Nat} {v : Voter} (hv : p.voters[i]? = some v) : v.votes.length ≤ 20 := by
 simp only [smallP, Bool.and_eq_true, List.all_eq_true] at h
 have := h.2 v (List.mem_of_getElem? hv)
 simpa [smallV] using this
theorem smallP_len {p : Poll} (h : smallP p = true) : smallT p.text = true ∧ smallX p.lexicon = true ∧ p.questions.length ≤ 10 ∧ p.voters.length ≤ 10 := by
 simp only [smallP, Bool.and_eq_true, decide_eq_true_eq] at h
 exact ⟨h.1.1.1.1.1, h.1.1.1.1.2, h.1.1.1.2, h.1.1.2⟩
theorem small_yes {p : Poll} {i j : Nat} (h1 : smallT p.text = true) (h2 : smallX p.lexicon = true) (h3 : p.questions.length ≤ 10) (h4 : p.voters.length ≤ 10) (hA : (p.questions.take i).all smallQ = true) (hi : p.questions.length ≤ i) (hV : (p.voters.take j).all smallV = true) (hj : p.voters.length ≤ j) : smallP p = true := by
 rw [List.take_of_length_le hi] at hA
 rw [List.take_of_length_le hj] at hV
 simp only [smallP, h1, h2, hA, hV, decide_eq_true h3, decide_eq_true h4, Bool.and_true]
theorem small_no (p : Poll) (h : smallT p.text = false ∨ smallX p.lexicon = false ∨ 10 < p.questions.length ∨ 10 < p.voters.length) : smallP p = false := by
 cases e : smallP p with
 | false => rfl
 | true =>
  have h2 := smallP_len e
  rcases h with h | h | h | h
  ·rw [h2.1] at h; cases h
  ·rw [h2.2.1] at h; cases h
  ·omega
  ·omega
theorem small_noq {p : Poll} {i : Nat} {q : Question} (hq : p.questions[i]? = some q) (h : smallQ q = false) : smallP p = false := by
 have : p.questions.all smallQ = false := List.all_eq_false.2 ⟨q, List.mem_of_getElem? hq, by simp [h]⟩
 simp only [smallP, this, Bool.and_false, Bool.false_and]
theorem small_nov {p : Poll} {i : Nat} {v : Voter} (hv : p.voters[i]? = some v) (h : 20 < v.votes.length) : smallP p = false := by
 have : p.voters.all smallV = false := List.all_eq_false.2 ⟨v, List.mem_of_getElem? hv, by simp [smallV]; omega⟩
 simp only [smallP, this, Bool.and_false]
theorem small_q6 {q : Question} (h : 6 < q.heads.length) : smallQ q = false := by simp [smallQ]; intros; omega
theorem small_qh {q : Question} {k : Nat} {hd : Head} (hh : q.heads[k]? = some hd) (h : 40 < hd.stem.length) : smallQ q = false := by
 have : (q.heads.all fun h => decide (h.stem.length ≤ 40)) = false := List.all_eq_false.2 ⟨hd, List.mem_of_getElem? hh, by simp; omega⟩
 simp only [smallQ, this, Bool.and_false]
theorem small_qy {q : Question} {k : Nat} (h : q.heads.length ≤ 6) (hB : ((q.heads.take k).all fun h => decide (h.stem.length ≤ 40)) = true) (hk : q.heads.length ≤ k) : smallQ q = true := by
 rw [List.take_of_length_le hk] at hB
 simp only [smallQ, hB, decide_eq_true h, Bool.and_true]
end Go.Pk
