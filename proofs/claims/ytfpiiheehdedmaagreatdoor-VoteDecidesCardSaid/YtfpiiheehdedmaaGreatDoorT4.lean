/- A PART OF THE PROOF: contracts of functions, each walked once (much of it printed by a program of the author's own). -/
import Derived.Test.YtfpiiheehdedmaaGreatDoorT3
import Derived.Test.YtfpiiheehdedmaaGreatDoorT2
import Derived.Test.YtfpiiheehdedmaaGreatDoorT1
set_option linter.unusedSimpArgs false
set_option linter.unusedVariables false
set_option maxRecDepth 4000
namespace Go.Pk
open Go Go.RowKit
def zfb (now : List Int) (v : Voter) : Int := v.wrong - (zcY v now : Int)
def leftL (p : Poll) (now : List Int) : List Int := p.voters.map (zfb now)
def zfU (p : Poll) (now : List Int) (h : Int) (i : Nat) : List Int := (p.voters.take i).map (zfb (now ++ [h])) ++ (p.voters.drop i).map (zfb now)
structure NowOk (p : Poll) (now : List Int) : Prop where
 len : now.length ≤ p.questions.length
 ins : ∀ k, k < now.length → inAt p now k = true
 wr : ∀ v ∈ p.voters, (zcY v now : Int) ≤ v.wrong
theorem now_nil {p : Poll} (hp : zdh p = true) : NowOk p [] := by
 refine ⟨Nat.zero_le _, fun k hk => absurd hk (by simp), fun v hv => ?_⟩
 have := ziA hp hv
 have e : zcY v [] = 0 := rfl
 rw [e]; omega
theorem now_true {p : Poll} {now : List Int} (h : NowOk p now) (hl : now.length = p.questions.length) : zef p now = true :=
 true_yes (i := now.length) (k := p.voters.length) hl h.ins (Nat.le_refl _) (fun v hv => h.wr v (List.mem_of_mem_take hv)) (Nat.le_refl _)
theorem now_snoc {p : Poll} {now : List Int} {q : Question} {h : Nat} (hn : NowOk p now) (hq : p.questions[now.length]? = some q) (hh : h < q.heads.length) (hw : ∀ v ∈ p.voters, (zcY v (now ++ [(h : Int)]) : Int) ≤ v.wrong) : NowOk p (now ++ [(h : Int)]) := by
 have hlt := (List.getElem?_eq_some_iff.1 hq).1
 refine ⟨by simp; omega, fun k hk => ?_, hw⟩
 rw [List.length_append, List.length_cons, List.length_nil] at hk
 by_cases e : k < now.length
 ·have := hn.ins k e
  simp only [inAt, List.getElem?_append_left e] at this ⊢
  exact this
 obtain rfl : k = now.length := by omega
 simp only [inAt, hq, List.getElem?_append_right (Nat.le_refl _), Nat.sub_self, List.getElem?_cons_zero, inB, Bool.and_eq_true, decide_eq_true_eq]
 omega
theorem zim (p : Poll) (now : List Int) : (leftL p now).length = p.voters.length := by simp [leftL]
theorem zgG (p : Poll) (now : List Int) (h : Int) (i : Nat) : (zfU p now h i).length = p.voters.length := by simp [zfU]; omega
theorem leftM_zero (p : Poll) (now : List Int) (h : Int) : zfU p now h 0 = leftL p now := by simp [zfU, leftL]
theorem leftM_all {p : Poll} (now : List Int) (h : Int) {i : Nat} (hi : p.voters.length ≤ i) : zfU p now h i = leftL p (now ++ [h]) := by
 rw [zfU, List.take_of_length_le hi, List.drop_eq_nil_of_le hi]; simp [leftL]
theorem leftM_at {p : Poll} {now : List Int} {h : Int} {i : Nat} {v : Voter} (hv : p.voters[i]? = some v) : (zfU p now h i)[i]? = some (zfb now v) := by
 have hlt := (List.getElem?_eq_some_iff.1 hv).1
 rw [zfU, List.getElem?_append_right (by simp; omega)]
 simp [List.length_take, Nat.min_eq_left (Nat.le_of_lt hlt), hv]
theorem leftM_next {p : Poll} {now : List Int} {h : Int} {i : Nat} {v : Voter} (hv : p.voters[i]? = some v) : zfU p now h (i + 1) = (zfU p now h i).set i (zfb (now ++ [h]) v) := by
 have hlt := (List.getElem?_eq_some_iff.1 hv).1
 rw [zfU, zfU, zbb hv, zdM hv, List.map_append, List.map_cons, List.map_nil, List.map_cons, List.set_append_right _ _ (by simp; omega), List.length_map, List.length_take, Nat.min_eq_left (Nat.le_of_lt hlt), Nat.sub_self, List.set_cons_zero, List.append_assoc]
 rfl
theorem leftV_same {now : List Int} {h a : Int} {v : Voter} (ha : v.votes[now.length]? = some a) (hc : a < 0 ∨ a = h) : zcY v (now ++ [h]) = zcY v now := by
 rw [wrongN_snoc, ha, if_neg, Nat.add_zero]
 simp only [Bool.and_eq_true, decide_eq_true_eq]
 rintro ⟨h1, h2⟩
 rcases hc with hc | hc
 ·omega
 exact h2 hc
theorem leftV_less {now : List Int} {h a : Int} {v : Voter} (ha : v.votes[now.length]? = some a) (h1 : ¬ a < 0) (h2 : ¬ a = h) : zcY v (now ++ [h]) = zcY v now + 1 := by
 rw [wrongN_snoc, ha, if_pos]
 simp only [Bool.and_eq_true, decide_eq_true_eq]
 exact ⟨by omega, h2⟩
theorem leftM_skip {p : Poll} {now : List Int} {h a : Int} {i : Nat} {v : Voter} (hv : p.voters[i]? = some v) (ha : v.votes[now.length]? = some a) (hc : a < 0 ∨ a = h) : zfU p now h (i + 1) = zfU p now h i := by
 rw [leftM_next hv]
 have e : zfb (now ++ [h]) v = zfb now v := by rw [zfb, zfb, leftV_same ha hc]
 rw [e]
 have q := leftM_at (now := now) (h := h) hv
 refine List.ext_getElem? fun j => ?_
 rw [List.getElem?_set]
 split
 ·rename_i ej
  subst ej
  rw [q, if_pos (List.getElem?_eq_some_iff.1 q).1]
 rfl
theorem leftM_less {p : Poll} {now : List Int} {h a : Int} {i : Nat} {v : Voter} (hv : p.voters[i]? = some v) (ha : v.votes[now.length]? = some a) (h1 : ¬ a < 0) (h2 : ¬ a = h) : zfU p now h (i + 1) = (zfU p now h i).set i (zfb now v - 1) := by
 rw [leftM_next hv]
 have e : zfb (now ++ [h]) v = zfb now v - 1 := by rw [zfb, zfb, leftV_less ha h1 h2]; omega
 rw [e]
theorem left_neg {now : List Int} {h a z : Int} {v : Voter} (ha : v.votes[now.length]? = some a) (h1 : ¬ a < 0) (h2 : ¬ a = h) (hz : z = zfb now v - 1) (hn : z < 0) : v.wrong < (zcY v (now ++ [h]) : Int) := by
 rw [leftV_less ha h1 h2]; rw [zfb] at hz; omega
theorem left_pos {now : List Int} {h a z : Int} {v : Voter} (ha : v.votes[now.length]? = some a) (h1 : ¬ a < 0) (h2 : ¬ a = h) (hz : z = zfb now v - 1) (hn : ¬ z < 0) : (zcY v (now ++ [h]) : Int) ≤ v.wrong := by
 rw [leftV_less ha h1 h2]; rw [zfb] at hz; omega
theorem left_skip {p : Poll} {now : List Int} {h a : Int} {v : Voter} (hn : NowOk p now) (hv : v ∈ p.voters) (ha : v.votes[now.length]? = some a) (hc : a < 0 ∨ a = h) : (zcY v (now ++ [h]) : Int) ≤ v.wrong := by
 rw [leftV_same ha hc]; exact hn.wr v hv
theorem left_at {p : Poll} {now : List Int} {h x : Int} {i : Nat} {v : Voter} (hv : p.voters[i]? = some v) (hx : (zfU p now h i)[i]? = some x) : x = zfb now v := by
 rw [leftM_at hv] at hx; exact (Option.some.inj hx).symm
theorem left_bound {p : Poll} {now : List Int} {v : Voter} (hp : zdh p = true) (hn : NowOk p now) (hv : v ∈ p.voters) : 0 ≤ zfb now v ∧ zfb now v ≤ 6 := by
 have h1 := ziA hp hv
 have h2 := hn.wr v hv
 rw [zfb]; omega
theorem set_at {l : List Int} {i : Nat} {x z : Int} (h : (l.set i x)[i]? = some z) : z = x := by
 rw [List.getElem?_set] at h
 simp only [if_true] at h
 split at h
 ·exact (Option.some.inj h).symm
 cases h
def zgZ (p : Poll) (i : Nat) : List Int := (p.voters.take i).map (·.wrong) ++ List.replicate (p.voters.length - i) 0
theorem startL_zero (p : Poll) : zgZ p 0 = List.replicate p.voters.length 0 := by simp [zgZ]
theorem startL_len {p : Poll} {i : Nat} (h : i ≤ p.voters.length) : (zgZ p i).length = p.voters.length := by simp [zgZ]; omega
theorem startL_set {p : Poll} {i : Nat} {v : Voter} (hv : p.voters[i]? = some v) : (zgZ p i).set i v.wrong = zgZ p (i + 1) := by
 have hlt := (List.getElem?_eq_some_iff.1 hv).1
 rw [zgZ, zgZ, zbb hv, List.set_append_right _ _ (by simp; omega), List.length_map, List.length_take, Nat.min_eq_left (Nat.le_of_lt hlt), Nat.sub_self, show p.voters.length - i = (p.voters.length - (i + 1)) + 1 by omega, List.replicate_succ, List.set_cons_zero, List.map_append, List.append_assoc]
 rfl
theorem startL_all {p : Poll} {i : Nat} (h : p.voters.length ≤ i) : zgZ p i = leftL p [] := by
 rw [zgZ, List.take_of_length_le h, show p.voters.length - i = 0 by omega, leftL]
 simp only [List.replicate_zero, List.append_nil]
 refine List.map_congr_left fun v _ => ?_
 have e : zcY v [] = 0 := rfl
 rw [zfb, e]; simp
def zgN (p : Poll) (now : List Int) (k : Nat) : List (List Int) := (List.range k).flatMap fun (h : Nat) => zcq p (now ++ [(h : Int)])
theorem ziw (p : Poll) (now : List Int) (k : Nat) : zgN p now (k + 1) = zgN p now k ++ zcq p (now ++ [(k : Int)]) := by
 rw [zgN, List.range_succ, List.flatMap_append, List.flatMap_cons, List.flatMap_nil, List.append_nil]; rfl
theorem truthsK_all {p : Poll} {now : List Int} {q : Question} {k : Nat} (hq : p.questions[now.length]? = some q) (hk : q.heads.length = k) : zcq p now = zgN p now k := by
 subst hk
 exact truthsFrom_next (by simp [zcg, hq])
def OnWay (p : Poll) (done : List (List Int)) (now : List Int) : Prop := ∃ tl, zas p = done ++ zcq p now ++ tl
theorem onway_nil (p : Poll) : OnWay p [] [] := ⟨[], by rw [truthsFrom_nil]; simp⟩
theorem onway_next {p : Poll} {done : List (List Int)} {now : List Int} {q : Question} {k : Nat} (h : OnWay p done now) (hq : p.questions[now.length]? = some q) (hk : k < q.heads.length) : OnWay p (done ++ zgN p now k) (now ++ [(k : Int)]) := by
 obtain ⟨tl, h⟩ := h
 rw [truthsK_all hq rfl] at h
 have e : zgN p now q.heads.length = zgN p now k ++ zcq p (now ++ [(k : Int)]) ++ ((List.range (q.heads.length - (k + 1))).map (k + 1 + ·)).flatMap fun (h : Nat) => zcq p (now ++ [(h : Int)]) := by
  rw [← ziw]
  simp only [zgN]
  rw [← List.flatMap_append]
  congr 1
  conv => lhs; rw [show q.heads.length = (k + 1) + (q.heads.length - (k + 1)) by omega]
  rw [List.range_add]
 rw [e] at h
 exact ⟨((List.range (q.heads.length - (k + 1))).map (k + 1 + ·)).flatMap (fun (h : Nat) => zcq p (now ++ [(h : Int)])) ++ tl, by rw [h]; simp only [List.append_assoc]⟩
theorem onway_at {p : Poll} {done : List (List Int)} {now : List Int} (h : OnWay p done now) (hn : zcq p now = [now]) : (zas p)[done.length]? = some now := by
 obtain ⟨tl, h⟩ := h
 rw [h, hn]; simp
theorem truths_one {p : Poll} {now : List Int} (h : NowOk p now) (hl : now.length = p.questions.length) : zcq p now = [now] := by
 rw [truthsFrom_all hl, if_pos (now_true h hl)]
end Go.Pk

namespace Go.Pk
open Go Go.RowKit
def choiceAt (q : Nat) (t : List Int) : Int := (t[q]?).getD 0
theorem truth_at {p : Poll} {t : List Int} {q : Nat} {x : Question} (h : t ∈ zas p) (hx : p.questions[q]? = some x) : ∃ a, t[q]? = some a ∧ 0 ≤ a ∧ a < (x.heads.length : Int) := by
 have hl := zhi h
 have hlt := (List.getElem?_eq_some_iff.1 hx).1
 refine ⟨_, List.getElem?_eq_getElem (by omega), ?_⟩
 exact truth_in h (List.getElem?_eq_getElem (by omega)) hx
theorem setK_nil (ts : List (List Int)) (a0 : List Int) : setK (ts.take 0) a0 = a0 := by
 refine List.ext_getElem (zeg _ _) fun k h1 h2 => ?_
 have := zii (ts := ts.take 0) h2
 rw [List.getElem?_eq_getElem h1] at this
 have e := Option.some.inj this
 rw [e, setAt, List.getElem?_eq_getElem h2]
 simp
def zhb (q : Question) : Bool := decide (q.heads.length ≤ 6) && q.heads.all fun h => decide (h.stem.length ≤ 40)
def smallV (v : Voter) : Bool := decide (v.votes.length ≤ 20)
def zfx (p : Poll) : Bool := zfa p.text && zeZ p.lexicon && decide (p.questions.length ≤ 10) && decide (p.voters.length ≤ 10) && p.questions.all zhb && p.voters.all smallV
theorem smallP_q {p : Poll} (h : zfx p = true) {i : Nat} {q : Question} (hq : p.questions[i]? = some q) : q.heads.length ≤ 6 := by
 simp only [zfx, Bool.and_eq_true, List.all_eq_true] at h
 have := h.1.2 q (List.mem_of_getElem? hq)
 simp only [zhb, Bool.and_eq_true, decide_eq_true_eq] at this
 exact this.1
theorem smallP_v {p : Poll} (h : zfx p = true) {i : Nat} {v : Voter} (hv : p.voters[i]? = some v) : v.votes.length ≤ 20 := by
 simp only [zfx, Bool.and_eq_true, List.all_eq_true] at h
 have := h.2 v (List.mem_of_getElem? hv)
 simpa [smallV] using this
theorem smallP_len {p : Poll} (h : zfx p = true) : zfa p.text = true ∧ zeZ p.lexicon = true ∧ p.questions.length ≤ 10 ∧ p.voters.length ≤ 10 := by
 simp only [zfx, Bool.and_eq_true, decide_eq_true_eq] at h
 exact ⟨h.1.1.1.1.1, h.1.1.1.1.2, h.1.1.1.2, h.1.1.2⟩
theorem small_yes {p : Poll} {i j : Nat} (h1 : zfa p.text = true) (h2 : zeZ p.lexicon = true) (h3 : p.questions.length ≤ 10) (h4 : p.voters.length ≤ 10) (hA : (p.questions.take i).all zhb = true) (hi : p.questions.length ≤ i) (hV : (p.voters.take j).all smallV = true) (hj : p.voters.length ≤ j) : zfx p = true := by
 rw [List.take_of_length_le hi] at hA
 rw [List.take_of_length_le hj] at hV
 simp only [zfx, h1, h2, hA, hV, decide_eq_true h3, decide_eq_true h4, Bool.and_true]
theorem small_no (p : Poll) (h : zfa p.text = false ∨ zeZ p.lexicon = false ∨ 10 < p.questions.length ∨ 10 < p.voters.length) : zfx p = false := by
 cases e : zfx p with
 | false => rfl
 | true =>
  have h2 := smallP_len e
  rcases h with h | h | h | h
  ·rw [h2.1] at h; cases h
  ·rw [h2.2.1] at h; cases h
  ·omega
  ·omega
theorem small_noq {p : Poll} {i : Nat} {q : Question} (hq : p.questions[i]? = some q) (h : zhb q = false) : zfx p = false := by
 have : p.questions.all zhb = false := List.all_eq_false.2 ⟨q, List.mem_of_getElem? hq, by simp [h]⟩
 simp only [zfx, this, Bool.and_false, Bool.false_and]
theorem small_nov {p : Poll} {i : Nat} {v : Voter} (hv : p.voters[i]? = some v) (h : 20 < v.votes.length) : zfx p = false := by
 have : p.voters.all smallV = false := List.all_eq_false.2 ⟨v, List.mem_of_getElem? hv, by simp [smallV]; omega⟩
 simp only [zfx, this, Bool.and_false]
theorem small_q6 {q : Question} (h : 6 < q.heads.length) : zhb q = false := by simp [zhb]; intros; omega
theorem small_qh {q : Question} {k : Nat} {hd : Head} (hh : q.heads[k]? = some hd) (h : 40 < hd.stem.length) : zhb q = false := by
 have : (q.heads.all fun h => decide (h.stem.length ≤ 40)) = false := List.all_eq_false.2 ⟨hd, List.mem_of_getElem? hh, by simp; omega⟩
 simp only [zhb, this, Bool.and_false]
theorem small_qy {q : Question} {k : Nat} (h : q.heads.length ≤ 6) (hB : ((q.heads.take k).all fun h => decide (h.stem.length ≤ 40)) = true) (hk : q.heads.length ≤ k) : zhb q = true := by
 rw [List.take_of_length_le hk] at hB
 simp only [zhb, hB, decide_eq_true h, Bool.and_true]
end Go.Pk

namespace Go.Pk
open Go Go.RowKit
def maxL : List Int → Int
 | [] => 0
 | a :: l => l.foldl maxI a
def firstO {α : Type} (lt : α → α → Bool) (l : List α) : Option α := l.foldl (fun o x => match o with | none => some x | some b => if lt x b = true then some x else some b) none
def firstL {α : Type} (lt : α → α → Bool) (z : α) (l : List α) : α := (firstO lt l).getD z
def askC (ts : List (List Int)) (n k : Nat) : List (List Int) := ((List.range k).filter fun (s : Nat) => tellsL ts (membersL (s : Int) n)).map fun (s : Nat) => membersL (s : Int) n
def nextC (ts : List (List Int)) (k : Nat) : List Int := ((List.range k).filter fun (q : Nat) => decide (worstN ts q < (ts.length : Int))).map fun (q : Nat) => (q : Int)
def worseB (ts : List (List Int)) (a b : Int) : Bool := decide (worstN ts a.toNat < worstN ts b.toNat)
def sixAt (t : List Int) (s : Int) (k j : Nat) : Int := if j < k then (t[j]?).getD 0 * bitN s (j : Int) else 0
def sixK (t : List Int) (s : Int) (k : Nat) : Six := ⟨sixAt t s k 0, sixAt t s k 1, sixAt t s k 2, sixAt t s k 3, sixAt t s k 4, sixAt t s k 5⟩
def sixM (ts : List (List Int)) (s : Int) (i : Nat) (x : Six) : Option Bool := if ((ts.take i).any fun u => decide (sixK u s 6 = x)) = true then some true else none
end Go.Pk

namespace Go.Pk
open Go Go.RowKit
def decD (x : Lexicon) (q : Question) (hd : Head) : Decision := ⟨zdU x.decisions + 1, 3, [], q.at_, hd, 0⟩
def decN (n : Int) (q : Question) (hd : Head) : Decision := ⟨n, 3, [], q.at_, hd, 0⟩
def decQ (p : Poll) (x : Lexicon) (q : Question) (h : Int) : Lexicon × Int :=
 if h < 0 then (x, 0) else if (askR p.text x q.at_).to = (q.heads[h.toNat]?).getD zdc then (x, 0)
 else (addN p.text x (decD x q ((q.heads[h.toNat]?).getD zdc)), addE p.text x (decD x q ((q.heads[h.toNat]?).getD zdc)))
def decK (p : Poll) (s : List Int) : Nat → Lexicon × Int
 | 0 => (p.lexicon, 0)
 | k + 1 => if (decK p s k).2 = 0 then (match p.questions[k]?, s[k]? with
  | some q, some h => decQ p (decK p s k).1 q h
  | _, _ => decK p s k) else decK p s k
def zeV (p : Poll) : Int := if allE p true = 0 then (decK p (zbK (zas p)) (zbK (zas p)).length).2 else allE p true
def zcH (p : Poll) : Lexicon := if allE p true = 0 then (decK p (zbK (zas p)) (zbK (zas p)).length).1 else zec
variable {p : Poll} {s : List Int} {k : Nat} {x : Lexicon} {q : Question} {h : Int} {hd : Head}
theorem dec_skip (a : decK p s k = (x, 0)) (hq : p.questions[k]? = some q) (hs : s[k]? = some h) (h0 : h < 0) : decK p s (k + 1) = (x, 0) := by
 simp only [decK, a, if_true, hq, hs, decQ, if_pos h0]
theorem dec_same (a : decK p s k = (x, 0)) (hq : p.questions[k]? = some q) (hs : s[k]? = some h) (h0 : ¬ h < 0) (hh : q.heads[h.toNat]? = some hd) (e : (askR p.text x q.at_).to = hd) : decK p s (k + 1) = (x, 0) := by
 simp only [decK, a, if_true, hq, hs, decQ, if_neg h0, hh, Option.getD_some, if_pos e]
theorem dec_add (a : decK p s k = (x, 0)) (hq : p.questions[k]? = some q) (hs : s[k]? = some h) (h0 : ¬ h < 0) (hh : q.heads[h.toNat]? = some hd) (e : ¬ (askR p.text x q.at_).to = hd) : decK p s (k + 1) = (addN p.text x (decD x q hd), addE p.text x (decD x q hd)) := by
 simp only [decK, a, if_true, hq, hs, decQ, if_neg h0, hh, Option.getD_some, if_neg e]
theorem dec_stop (e : ¬ (decK p s k).2 = 0) : ∀ d, decK p s (k + d) = decK p s k
 | 0 => rfl
 | d + 1 => by rw [← Nat.add_assoc, decK, dec_stop e d, if_neg e]
theorem addN_bad {t : Text} {d : Decision} (e : ¬ addE t x d = 0) : addN t x d = zec := by rw [addN, if_neg e]
theorem dec_err (a : decK p s k = (x, 0)) (hq : p.questions[k]? = some q) (hs : s[k]? = some h) (h0 : ¬ h < 0) (hh : q.heads[h.toNat]? = some hd) (e : ¬ (askR p.text x q.at_).to = hd) (e2 : ¬ addE p.text x (decD x q hd) = 0) : decK p s s.length = (zec, addE p.text x (decD x q hd)) := by
 have h1 := dec_add a hq hs h0 hh e
 have hk := (List.getElem?_eq_some_iff.1 hs).1
 have := dec_stop (p := p) (s := s) (k := k + 1) (by rw [h1]; exact e2) (s.length - (k + 1))
 rw [show k + 1 + (s.length - (k + 1)) = s.length by omega] at this
 rw [this, h1, addN_bad e2]
theorem dec_check (hx : zaQ p.text p.lexicon = 0) : ∀ k, (decK p s k).2 = 0 → zaQ p.text (decK p s k).1 = 0
 | 0, _ => hx
 | k + 1, e => by
  have ih := dec_check hx k
  rw [decK] at e ⊢
  by_cases h0 : (decK p s k).2 = 0
  ·rw [if_pos h0] at e ⊢
   split at e
   ·rename_i q h hq hs
    unfold decQ at e ⊢
    split at e
    ·rename_i c; rw [if_pos c]; exact ih h0
    ·rename_i c
     rw [if_neg c]
     split at e
     ·rename_i c2; rw [if_pos c2]; exact ih h0
     ·rename_i c2; rw [if_neg c2]; exact addN_check e
   ·exact ih h0
  ·rw [if_neg h0] at e; exact absurd e h0
theorem dec_ok (hx : zaQ p.text p.lexicon = 0) (a : decK p s k = (x, 0)) : zaQ p.text x = 0 := by
 have := dec_check (s := s) hx k
 rw [a] at this; exact this rfl
def nextN (l : List Decision) : Int := zdU l + 1
theorem nextN_snoc {l : List Decision} {k : Nat} {d : Decision} (h : l[k]? = some d) : maxI (nextN (l.take k)) (d.number + 1) = nextN (l.take (k + 1)) := by
 rw [nextN, nextN, mostN_snoc h, maxI]; split <;> omega
theorem nextN_eq {l : List Decision} {k : Nat} (h : l.length ≤ k) : nextN (l.take k) = zdU l + 1 := by rw [List.take_of_length_le h]; rfl
theorem mostN_take {l : List Decision} {k : Nat} (h : l.length ≤ k) : zdU (l.take k) = zdU l := by rw [List.take_of_length_le h]
theorem mostN_le' (hx : OkD x) (k : Nat) : zdU (x.decisions.take k) ≤ 999 := fold_max_le _ _ _ (by omega) fun d hd => (hx.2 d (List.mem_of_mem_take hd)).2.1
theorem nextN_le (hx : OkD x) (k : Nat) : 1 ≤ nextN (x.decisions.take k) ∧ nextN (x.decisions.take k) ≤ 1000 := by
 have := mostN_le' hx k
 have := mostN_pos (x.decisions.take k)
 rw [nextN]; omega
def mootB (p : Poll) (s : List Int) (k : Nat) (w : Str) : Bool := match p.questions[k]?, s[k]? with
 | some q, some h => decide (h < 0) && decide (zbC p.text q.at_ = w)
 | _, _ => false
def zgT (p : Poll) (s : List Int) (n : Nat) (w : Str) : Bool := (List.range n).any fun k => mootB p s k w
theorem moot_succ (p : Poll) (s : List Int) (n : Nat) (w : Str) : zgT p s (n + 1) w = (zgT p s n w || mootB p s n w) := by simp [zgT, List.range_succ, List.any_append]
theorem moot_at {p : Poll} {s : List Int} {n : Nat} {w : Str} {q : Question} {h : Int} (hq : p.questions[n]? = some q) (hs : s[n]? = some h) : zgT p s (n + 1) w = (zgT p s n w || (decide (h < 0) && decide (zbC p.text q.at_ = w))) := by
 rw [moot_succ, mootB, hq, hs]
def mootR (p : Poll) : List Str := if allE p true = 0 then (homR p.text p.lexicon).filter (zgT p (zbK (zas p)) (zbK (zas p)).length) else []
def zgC (ws : List Str) (p : Poll) (s : List Int) (n : Nat) (w : Str) : Option Bool := if w ∈ ws ∧ zgT p s n w = false then some true else none
theorem still_skip {ws : List Str} {p : Poll} {s : List Int} {n : Nat} {q : Question} {h : Int} (hq : p.questions[n]? = some q) (hs : s[n]? = some h) (h0 : ¬ h < 0) {m : List (Str × Bool)} (hm : ∀ w, look m w = zgC ws p s n w) : ∀ w, look m w = zgC ws p s (n + 1) w := by
 intro w
 rw [hm, zgC, zgC, moot_at hq hs, decide_eq_false h0]; simp
theorem still_del {ws : List Str} {p : Poll} {s : List Int} {n : Nat} {q : Question} {h : Int} (hq : p.questions[n]? = some q) (hs : s[n]? = some h) (h0 : h < 0) {m : List (Str × Bool)} (hm : ∀ w, look m w = zgC ws p s n w) : ∀ w, look (delM m (zbC p.text q.at_)) w = zgC ws p s (n + 1) w := by
 intro w
 rw [look_delM, hm, zgC, zgC, moot_at hq hs, decide_eq_true h0, Bool.true_and]
 by_cases e : w = zbC p.text q.at_
 ·subst e; simp
 rw [if_neg e, decide_eq_false (fun q => e q.symm), Bool.or_false]
theorem still_put {ws : List Str} {k : Nat} {w0 : Str} (h : ws[k]? = some w0) {m : List (Str × Bool)} (hm : ∀ w, look m w = if w ∈ ws.take k then some true else none) : ∀ w, look (putM m w0 true) w = if w ∈ ws.take (k + 1) then some true else none := by
 intro w
 rw [look_putM, zbb h, hm]
 by_cases e : w = w0
 ·subst e; simp
 simp [e]
theorem still_zero {ws : List Str} {k : Nat} (hk : ws.length ≤ k) {p : Poll} {s : List Int} {m : List (Str × Bool)} (hm : ∀ w, look m w = if w ∈ ws.take k then some true else none) : ∀ w, look m w = zgC ws p s 0 w := by
 intro w
 rw [hm, List.take_of_length_le hk, zgC]
 simp [zgT]
theorem still_filter {ws : List Str} {p : Poll} {s : List Int} {n : Nat} {m : List (Str × Bool)} (hm : ∀ w, look m w = zgC ws p s n w) : ws.filter (fun w => !(look m w).getD false) = ws.filter (zgT p s n) := by
 refine List.filter_congr fun w hw => ?_
 rw [hm, zgC]
 cases e : zgT p s n w <;> simp [hw]
end Go.Pk

namespace Go.Pk
open Go Go.RowKit
def candX (l : List (List Int)) (n : Nat) : List (List Int) := l.flatMap fun x => (List.range n).map fun (h : Nat) => x ++ [(h : Int)]
def heads1 (x : List Int) (h : Nat) : List (List Int) := (List.range h).map fun (h : Nat) => x ++ [(h : Int)]
theorem setL_at {ts : List (List Int)} {a0 : List Int} (h0 : ts[0]? = some a0) {k : Nat} {h : Int} (e : (zbK ts)[k]? = some h) : ∃ a, a0[k]? = some a ∧ h = if (ts.all fun t => decide (t[k]? = some a)) = true then a else -1 := by
 rw [zbK, h0] at e
 have hk : k < a0.length := by
  have := (List.getElem?_eq_some_iff.1 e).1
  rwa [zeg] at this
 rw [zii hk] at e
 refine ⟨_, List.getElem?_eq_getElem hk, ?_⟩
 have e2 := Option.some.inj e
 rw [← e2, setAt, List.getElem?_eq_getElem hk]
theorem set_pos {ts : List (List Int)} {k : Nat} {h : Int} (e : (zbK ts)[k]? = some h) (hp : 0 ≤ h) : ∀ t ∈ ts, t[k]? = some h := by
 cases h0 : ts[0]? with
 | none => rw [zbK, h0] at e; cases e
 | some a0 =>
  obtain ⟨a, ha, q⟩ := setL_at h0 e
  split at q
  ·rename_i c
   subst q
   intro t ht
   simpa using List.all_eq_true.1 c t ht
  ·omega
theorem set_len7 {p : Poll} (hn : zas p ≠ []) : (zbK (zas p)).length = p.questions.length := by
 cases e : zas p with
 | nil => exact absurd e hn
 | cons a0 ts =>
  show (setK (a0 :: ts) a0).length = _
  rw [zeg]; exact zhi (by rw [e]; exact List.mem_cons_self)
def forN (vs : List Voter) (q : Nat) (h : Int) : Nat := (vs.filter fun v => decide (v.votes[q]? = some h)).length
theorem set_in {p : Poll} (hn : zas p ≠ []) {k : Nat} {q : Question} (hq : p.questions[k]? = some q) {h : Int} (hs : (zbK (zas p))[k]? = some h) (h0 : 0 ≤ h) : h < (q.heads.length : Int) := by
 obtain ⟨t, ht⟩ := List.exists_mem_of_ne_nil _ hn
 obtain ⟨b, hb, _, h1⟩ := truth_at ht hq
 rw [set_pos hs h0 t ht] at hb
 cases hb; exact h1
theorem homR_len {t : Text} {x : Lexicon} (h : zaQ t x = 0) : (homR t x).length ≤ 1000 := by
 rw [homR, if_pos h]
 have q := setL_len sLt_T (zhd (zbt t x) (zbt t x).length)
 have q2 := zhl (zbt t x) (zbt t x).length
 have q3 := entries_len (zcx h) x
 omega
theorem moot_end {p : Poll} {k : Nat} {w : Str} (h : (zbK (zas p)).length = k) : zgT p (zbK (zas p)) k w = zgT p (zbK (zas p)) (zbK (zas p)).length w := by rw [h]
theorem dec_bad {p : Poll} {s : List Int} : ∀ k, ¬ (decK p s k).2 = 0 → (decK p s k).1 = zec
 | 0, h => absurd rfl h
 | k + 1, h => by
  have ih := dec_bad (p := p) (s := s) k
  rw [decK] at h ⊢
  by_cases h0 : (decK p s k).2 = 0
  ·rw [if_pos h0] at h ⊢
   split at h
   ·rename_i q c hq hs
    unfold decQ at h ⊢
    split at h
    ·exact absurd rfl h
    ·rename_i c1
     rw [if_neg c1]
     split at h
     ·exact absurd rfl h
     ·rename_i c2; rw [if_neg c2]; exact addN_bad h
   ·exact absurd h0 h
  ·rw [if_neg h0] at h ⊢; exact ih h
theorem decide_ok (p : Poll) : zaQ p.text (zcH p) = 0 ∨ zcH p = zec := by
 rw [zcH]
 by_cases h : allE p true = 0
 ·rw [if_pos h]
  have hx := (zdj (all_ok h).1).1
  by_cases h2 : (decK p (zbK (zas p)) (zbK (zas p)).length).2 = 0
  ·exact .inl (dec_check hx _ h2)
  ·exact .inr (dec_bad _ h2)
 rw [if_neg h]; exact .inr rfl
theorem decide_len1 (p : Poll) : (zcH p).rules.length ≤ 281474976710656 := by
 rcases decide_ok p with h | h
 ·have := zhx h; omega
 rw [h]; decide
theorem decide_len2 (p : Poll) : (zcH p).decisions.length ≤ 281474976710656 := by
 rcases decide_ok p with h | h
 ·have := zeF h; omega
 rw [h]; decide
theorem decide_num (p : Poll) : ∀ (j : Nat) (e : Decision), 0 ≤ j → (zcH p).decisions[j]? = some e → 1 ≤ e.number ∧ e.number ≤ 999 := by
 intro j e _ he
 rcases decide_ok p with h | h
 ·have := (zgF h).2 e (List.mem_of_getElem? he); omega
 rw [h] at he; simp [zec] at he
end Go.Pk
