/- A PART OF THE PROOF: contracts of functions, each walked once (much of it printed by a program of the author's own). -/
import Derived.Test.YtfpiiheehdedmaaGreatDoorT2
import Derived.Lib.Bytealg
import Derived.Sort.Walk0
import Derived.Test.YtfpiiheehdedmaaGreatDoorT0
import Derived.Test.YtfpiiheehdedmaaGreatDoorT1
import Derived.RangeFuncRecord
import Derived.RangeFuncIn
import Derived.RangeFuncLeaves
set_option linter.unusedSimpArgs false
set_option linter.unusedVariables false
set_option maxRecDepth 4000
namespace Go.Pk
open Go Go.RowKit
def cmpI (a b : Int) : Int := if a < b then -1 else if b < a then 1 else 0
def cmpL : List Int → List Int → Int
 | [], [] => 0
 | [], _ :: _ => -1
 | _ :: _, [] => 1
 | a :: az, b :: bs => if cmpI a b ≠ 0 then cmpI a b else cmpL az bs
def cmpS (a b : Str) : Int := Lib.compareBytes a b
def ordI (a b : Place) : Int := cmpL [a.chapter, a.line, a.word] [b.chapter, b.line, b.word]
def zia (a b : Decision) : Int := if a.kind ≠ b.kind then a.kind - b.kind else if a.kind = 2 ∧ a.at_ ≠ b.at_ then ordI a.at_ b.at_ else a.number - b.number
def zds (d : Decision) (p : Place) (w : Str) : Bool :=
 if d.kind = 1 then decide (d.form = w) else if d.kind = 2 then decide (d.form = w) && !zdA p d.at_ else if d.kind = 3 then decide (d.at_ = p) else false
def zgQ (d e : Decision) : Bool := if d.kind ≠ e.kind then decide (d.kind > e.kind) else decide (d.kind ≠ 2) || !zdA d.at_ e.at_
def cmpHead (a b : Head) : Int := if cmpS a.stem b.stem ≠ 0 then cmpS a.stem b.stem else a.mark - b.mark
def sLt (a b : Str) : Bool := Op.bytesLess a b
def headLt (a b : Head) : Bool := sLt a.stem b.stem || (decide (a.stem = b.stem) && decide (a.mark < b.mark))
theorem cmpL_step {a b : List Int} {k : Nat} {x y : Int} (ha : a[k]? = some x) (hb : b[k]? = some y) : cmpL (a.drop k) (b.drop k) = if cmpI x y ≠ 0 then cmpI x y else cmpL (a.drop (k + 1)) (b.drop (k + 1)) := by
 rw [zdM ha, zdM hb]; rfl
theorem cmpL_nil_cons {a b : List Int} (ha : a = []) (hb : b ≠ []) : cmpL a b = -1 := by
 subst ha; cases b with
 | nil => exact absurd rfl hb
 | cons => rfl
theorem cmpL_cons_nil {a b : List Int} (hb : b = []) (ha : a ≠ []) : cmpL a b = 1 := by
 subst hb; cases a with
 | nil => exact absurd rfl ha
 | cons => rfl
theorem ordI_eq (a b : Place) : ordI a b = if cmpI a.chapter b.chapter ≠ 0 then cmpI a.chapter b.chapter else if cmpI a.line b.line ≠ 0 then cmpI a.line b.line else cmpI a.word b.word := by
 simp only [ordI, cmpL]; repeat' split
 all_goals simp_all
theorem zhg (a b : Place) : decide (ordI a b ≤ 0) = !zdA b a := by
 rw [ordI_eq]; simp only [cmpI, zdA]
 by_cases h1 : a.chapter < b.chapter <;> by_cases h2 : b.chapter < a.chapter <;> by_cases h3 : a.line < b.line <;> by_cases h4 : b.line < a.line <;> by_cases h5 : a.word < b.word <;> by_cases h6 : b.word < a.word <;> simp [h1, h2, h3, h4, h5, h6] <;> (try omega) <;> (repeat' split) <;> simp <;> omega
theorem ordI_gt (a b : Place) : decide (ordI a b > 0) = zdA b a := by
 have h := zhg a b
 cases e : zdA b a <;> rw [e] at h <;> simp at h ⊢ <;> omega
theorem firstI_gt {d e : Decision} (hn : e.number < d.number) : decide (zia d e > 0) = zgQ d e := by
 unfold zia zgQ
 by_cases hk : d.kind = e.kind
 ·have hk' : ¬ d.kind ≠ e.kind := by simp [hk]
  simp only [if_neg hk']
  by_cases h2 : d.kind = 2
  ·by_cases ha : d.at_ = e.at_
   ·have q : ¬ (d.kind = 2 ∧ d.at_ ≠ e.at_) := by simp [ha]
    have : zdA e.at_ e.at_ = false := by simp [zdA]
    simp only [if_neg q, h2, ha, this]; simp; omega
   ·have q : d.kind = 2 ∧ d.at_ ≠ e.at_ := ⟨h2, ha⟩
    simp only [if_pos q, ordI_gt]
    simp only [h2, ne_eq, not_true_eq_false, decide_false, Bool.false_or]
    rw [Bool.eq_iff_iff]
    rcases d with ⟨_, _, _, ⟨c1, l1, w1⟩, _, _⟩; rcases e with ⟨_, _, _, ⟨c2, l2, w2⟩, _, _⟩
    simp only [zdA, Place.mk.injEq, not_and] at ha ⊢
    by_cases q1 : c1 = c2 <;> by_cases q2 : l1 = l2 <;> by_cases q3 : w1 = w2 <;> simp_all <;> (repeat' split) <;> omega
  ·have q : ¬ (d.kind = 2 ∧ d.at_ ≠ e.at_) := by simp [h2]
   simp only [if_neg q]; simp [h2]; omega
 have hk' : d.kind ≠ e.kind := hk
 simp only [if_pos hk']; rw [decide_eq_decide]; omega
theorem zfB {α : Type} {m : List α → Prop} (nil : m []) (snoc : ∀ l a, m l → m (l ++ [a])) (l : List α) : m l := by
 have h : ∀ r : List α, m r.reverse := by
  intro r
  induction r with
  | nil => exact nil
  | cons a r ih => rw [List.reverse_cons]; exact snoc _ _ ih
 have := h l.reverse
 rwa [List.reverse_reverse] at this
def zgn (b d : Decision) : Decision := if b.number = 0 ∨ zia d b > 0 then d else b
def zaW (l : List Decision) : Decision := l.foldl zgn zbf
theorem zfg (l : List Decision) (d : Decision) : zaW (l ++ [d]) = zgn (zaW l) d := by simp [zaW]
theorem ziN (l : List Decision) : zaW l = zbf ∨ zaW l ∈ l := by
 induction l using zfB with
 | nil => exact .inl rfl
 | snoc l d ih =>
  rw [zfg, zgn]
  split
  ·exact .inr (by simp)
  ·rcases ih with h | h
   ·exact .inl h
   ·exact .inr (by simp [h])
theorem best_ok {p : Decision → Prop} (hz : p zbf) {l : List Decision} (hp : ∀ y ∈ l, p y) : p (zaW l) := by
 rcases ziN l with h | h
 ·rw [h]; exact hz
 exact hp _ h
theorem bestOf_zero {l : List Decision} (hp : ∀ y ∈ l, 1 ≤ y.number) (h : (zaW l).number = 0) : zaW l = zbf := by
 rcases ziN l with h1 | h1
 ·exact h1
 have := hp _ h1; omega
theorem zhI {l : List Decision} (hp : ∀ y ∈ l, 1 ≤ y.number) (hl : l ≠ []) : 1 ≤ (zaW l).number ∧ zaW l ∈ l := by
 have key : zaW l ∈ l := by
  induction l using zfB with
  | nil => exact absurd rfl hl
  | snoc l d ih =>
   rw [zfg, zgn]
   split
   ·simp
   ·rename_i hn
    by_cases hl' : l = []
    ·subst hl'; exact absurd (.inl rfl) hn
    ·have := ih (fun y hy => hp y (by simp [hy])) hl'
     simp [this]
 exact ⟨hp _ key, key⟩
def lexD (a b : Decision) : Prop := a.kind < b.kind ∨ (a.kind = b.kind ∧ ((a.kind = 2 ∧ (a.at_.chapter < b.at_.chapter ∨ (a.at_.chapter = b.at_.chapter ∧ (a.at_.line < b.at_.line ∨ (a.at_.line = b.at_.line ∧ a.at_.word < b.at_.word))))) ∨ ((a.kind = 2 → a.at_ = b.at_) ∧ a.number < b.number)))
theorem firstI_lex {d e : Decision} : zia d e > 0 ↔ lexD e d := by
 unfold zia lexD
 by_cases hk : d.kind = e.kind
 ·have hk' : ¬ d.kind ≠ e.kind := by simp [hk]
  simp only [if_neg hk']
  by_cases h2 : d.kind = 2
  ·have h3 : e.kind = 2 := by omega
   by_cases ha : d.at_ = e.at_
   ·have q : ¬ (d.kind = 2 ∧ d.at_ ≠ e.at_) := by simp [ha]
    simp only [if_neg q, h3, h2, ha]
    simp
   ·have q : d.kind = 2 ∧ d.at_ ≠ e.at_ := ⟨h2, ha⟩
    rw [if_pos q]
    simp only [h3, h2]
    have hg := ordI_gt d.at_ e.at_
    have h5 : ordI d.at_ e.at_ > 0 ↔ zdA e.at_ d.at_ = true := by rw [← hg]; simp
    rw [h5]
    have ha' : ¬ e.at_ = d.at_ := fun q => ha q.symm
    simp only [ha', Int.lt_irrefl, false_or, true_and, forall_const, false_and, or_false, zdA]
    by_cases q1 : e.at_.chapter = d.at_.chapter <;> by_cases q2 : e.at_.line = d.at_.line <;> simp_all
  ·have h3 : ¬ e.kind = 2 := by omega
   have q : ¬ (d.kind = 2 ∧ d.at_ ≠ e.at_) := by simp [h2]
   simp only [if_neg q, h3]; simp [hk]
 have hk' : d.kind ≠ e.kind := hk
 simp only [if_pos hk']; omega
theorem lexD_trans {a b c : Decision} (h1 : lexD a b) (h2 : lexD b c) : lexD a c := by
 rcases a with ⟨n1, k1, f1, ⟨c1, l1, w1⟩, t1, o1⟩; rcases b with ⟨n2, k2, f2, ⟨c2, l2, w2⟩, t2, o2⟩; rcases c with ⟨n3, k3, f3, ⟨c3, l3, w3⟩, t3, o3⟩
 simp only [lexD, Place.mk.injEq] at *
 omega
theorem lexD_total {a b : Decision} (h : a.number ≠ b.number) : lexD a b ∨ lexD b a := by
 rcases a with ⟨n1, k1, f1, ⟨c1, l1, w1⟩, t1, o1⟩; rcases b with ⟨n2, k2, f2, ⟨c2, l2, w2⟩, t2, o2⟩
 simp only [lexD, Place.mk.injEq] at *
 omega
theorem lexD_irrefl (a : Decision) : ¬ lexD a a := by
 unfold lexD; omega
theorem bestOf_best {l : List Decision} (hp : ∀ y ∈ l, 1 ≤ y.number) (hn : (l.map (·.number)).Nodup) : ∀ y ∈ l, y ≠ zaW l → lexD y (zaW l) := by
 induction l using zfB with
 | nil => simp
 | snoc l d ih =>
  intro y hy hne
  have hn' : (l.map (·.number)).Nodup := by rw [List.map_append] at hn; exact (List.nodup_append.1 hn).1
  have ih := ih (fun y hy => hp y (by simp [hy])) hn'
  have hd : ∀ z ∈ l, z.number ≠ d.number := by
   intro z hz e
   rw [List.map_append] at hn
   exact (List.nodup_append.1 hn).2.2 _ (List.mem_map_of_mem hz) _ (List.mem_map.2 ⟨d, by simp, rfl⟩) e
  rw [zfg] at hne ⊢
  unfold zgn at hne ⊢
  split at hne
  ·rename_i hc
   rw [if_pos hc]
   rcases List.mem_append.1 hy with h | h
   ·by_cases hl : l = []
    ·subst hl; cases h
    ·have hb := zhI (fun y hy => hp y (by simp [hy])) hl
     have h1 : lexD (zaW l) d := by
      rcases hc with h0 | h0
      ·omega
      ·exact firstI_lex.1 h0
     by_cases e : y = zaW l
     ·rw [e]; exact h1
     ·exact lexD_trans (ih y h e) h1
   ·simp at h; exact absurd h hne
  ·rename_i hc
   rw [if_neg hc]
   have hc' : ¬ (zaW l).number = 0 ∧ ¬ lexD (zaW l) d := ⟨fun h => hc (.inl h), fun h => hc (.inr (firstI_lex.2 h))⟩
   rcases List.mem_append.1 hy with h | h
   ·exact ih y h hne
   ·simp at h; subst h
    by_cases hl : l = []
    ·subst hl; exact absurd rfl hc'.1
    ·have hb := zhI (fun y hy => hp y (by simp [hy])) hl
     rcases lexD_total (hd _ hb.2) with h1 | h1
     ·exact absurd h1 hc'.2
     ·exact h1
theorem bestOf_perm {xs ys : List Decision} (h : xs.Perm ys) (hp : ∀ y ∈ ys, 1 ≤ y.number) (hn : (ys.map (·.number)).Nodup) : zaW xs = zaW ys := by
 by_cases hy : ys = []
 ·subst hy; rw [h.eq_nil]
 have hx : xs ≠ [] := fun e => hy (by subst e; exact h.symm.eq_nil)
 have hp' : ∀ y ∈ xs, 1 ≤ y.number := fun y hy => hp y (h.mem_iff.1 hy)
 have hn' : (xs.map (·.number)).Nodup := (h.map _).nodup_iff.2 hn
 have h1 := (zhI hp' hx).2
 have h2 := (zhI hp hy).2
 by_cases e : zaW xs = zaW ys
 ·exact e
 have a := bestOf_best hp hn _ (h.mem_iff.1 h1) e
 have b := bestOf_best hp' hn' _ (h.mem_iff.2 h2) (Ne.symm e)
 exact absurd (lexD_trans a b) (lexD_irrefl _)
theorem best_better {l : List Decision} (hp : ∀ y ∈ l, 1 ≤ y.number) (hs : l.Pairwise fun a b => a.number < b.number) :
  l.foldl (fun b d => if b.number = 0 ∨ zgQ d b = true then d else b) zbf = zaW l := by
 have key : ∀ (l1 l2 : List Decision), l = l1 ++ l2 → l1.foldl (fun b d => if b.number = 0 ∨ zgQ d b = true then d else b) zbf = zaW l1 := by
  intro l1
  induction l1 using zfB with
  | nil => intro _ _; rfl
  | snoc l1 d ih =>
   intro l2 e
   rw [List.foldl_append, ih (d :: l2) (by simp [e]), zfg]
   simp only [List.foldl_cons, List.foldl_nil, zgn]
   rcases ziN l1 with h | h
   ·rw [h]; rfl
   ·have : (zaW l1).number < d.number := by
     rw [e, List.append_assoc] at hs
     exact (List.pairwise_append.1 hs).2.2 _ h _ (by simp)
    rw [← firstI_gt this]
    simp only [decide_eq_true_eq]
 exact key l [] (by simp)
def zbC (t : Text) (p : Place) : Str := (zgA t p).getD []
def conD (x : Lexicon) (p : Place) (wd : Str) : List Decision := ((zeY x).map (·.2)).filter fun d => zds d p wd
def winD (x : Lexicon) (p : Place) (wd : Str) : Decision :=
 if (zaW (conD x p wd)).number = 0 then { zbf with to := ⟨((zcZ x.rules 4 wd).getLast?).getD [], 0⟩ } else zaW (conD x p wd)
def OkO (o : Office) : Prop := zaQ o.text o.lex = 0 ∧ o.stands = zeY o.lex
theorem place_at {t : Text} {p : Place} (h : zbB t p = true) : ∃ c ln wd, 0 ≤ p.chapter ∧ t.chapters[p.chapter.toNat]? = some c ∧ 0 ≤ p.line ∧ c.lines[p.line.toNat]? = some ln ∧ 0 ≤ p.word ∧ ln[p.word.toNat]? = some wd ∧ zbC t p = wd := by
 unfold zbB at h
 unfold zbC
 unfold zgA zcT at *
 split at h
 ·rename_i h1
  split at h
  ·rename_i h2
   cases hc : t.chapters[p.chapter.toNat]? with
   | none => simp [hc] at h
   | some c =>
    simp only [hc, Option.bind_some] at h
    cases hl : c.lines[p.line.toNat]? with
    | none => simp [hl] at h
    | some ln =>
     simp only [hl, Option.bind_some] at h
     cases hw : ln[p.word.toNat]? with
     | none => simp [hw] at h
     | some wd => exact ⟨c, ln, wd, h2.1, rfl, h2.2, hl, h1, hw, by simp [if_pos h1, if_pos h2, hc, hl, hw]⟩
  ·simp at h
 simp at h
theorem okO_d {o : Office} (h : OkO o) : OkD o.lex := zgF h.1
theorem standM_ok {t : Text} {x : Lexicon} (h : zaQ t x = 0) {q : Int × Decision} (hq : q ∈ zeY x) : zaq t q.2 = true ∧ 1 ≤ q.2.number ∧ q.2.number ≤ 999 ∧ 1 ≤ q.2.kind ∧ q.2.kind ≤ 4 := by
 have h1 := (zht hq).1
 have h2 : zck t x = true := by
  unfold zaQ at h
  split at h
  ·cases h
  ·split at h
   ·cases h
   ·rename_i h3; simpa using h3
 simp only [zck, Bool.and_eq_true, List.all_eq_true] at h2
 have h3 := h2.1.2 _ h1
 have h4 := (zgF h).2 _ h1
 refine ⟨h3, h4.1, h4.2.1, ?_⟩
 unfold zaq at h3
 simp only [Bool.and_eq_true] at h3
 have h5 := h3.2
 split at h5
 ·omega
 split at h5
 ·omega
 split at h5
 ·omega
 split at h5
 ·omega
 cases h5
theorem zhX {x : Lexicon} (h : OkD x) : (((zeY x).map (·.2)).map (·.number)).Nodup := by
 have := ziE h (zdH x)
 simpa [zeY, zfw, List.map_map, Function.comp_def] using this
theorem wordD_len {t : Text} {p : Place} (ht : zbu t = true) (hp : zbB t p = true) : (zbC t p).length ≤ 12 := by
 obtain ⟨c, ln, wd, _, hc, _, hl, _, hw, e⟩ := place_at hp
 rw [e]
 simp only [zbu, Bool.and_eq_true, List.all_eq_true] at ht
 have h1 := ht.1.2 _ (List.mem_of_getElem? hc)
 simp only [zbT, Bool.and_eq_true, List.all_eq_true] at h1
 have h2 := h1.2 _ (List.mem_of_getElem? hl)
 simp only [zgh, Bool.and_eq_true, List.all_eq_true] at h2
 exact zho (h2.2 _ (List.mem_of_getElem? hw))
theorem zcx {t : Text} {x : Lexicon} (h : zaQ t x = 0) : zbu t = true := by
 unfold zaQ at h
 split at h
 ·cases h
 rename_i h1; simpa using h1
theorem conD_perm {x : Lexicon} {p : Place} {wd : Str} {dn : List (Int × Decision)} (h : OkD x) (hd : dn.Perm (zeY x)) : zaW ((dn.map (·.2)).filter fun d => zds d p wd) = zaW (conD x p wd) := by
 refine bestOf_perm ((hd.map _).filter _) ?_ ?_
 ·intro y hy
  obtain ⟨q, hq, rfl⟩ := List.mem_map.1 (List.mem_filter.1 hy).1
  exact (h.2 _ (zht hq).1).1
 exact (List.filter_sublist.map _).nodup (zhX h)
theorem zhj (rs : List Rule) (n : Nat) (w : Str) : zcZ rs n w ≠ [] := by
 cases n with
 | zero => simp [zcZ]
 | succ n => simp only [zcZ]; split <;> simp
end Go.Pk

namespace Go.Pk
open Go Go.RowKit
def zhS (t : Text) (k : Nat) : List (List Str) := ((t.chapters[k]?).map (·.lines)).getD []
def wordsAt (t : Text) (k n : Nat) : List Str := ((zhS t k)[n]?).getD []
def mkP (k n w : Nat) : Place := ⟨k, n, w⟩
def lineP (t : Text) (k n : Nat) : List Place := (List.range (wordsAt t k n).length).map (mkP k n)
def chapP (t : Text) (k : Nat) : List Place := (List.range (zhS t k).length).flatMap (lineP t k)
def zcj (t : Text) : List Place := (List.range t.chapters.length).flatMap (chapP t)
theorem zei {t : Text} {k : Nat} {c : Chapter} (h : t.chapters[k]? = some c) : zhS t k = c.lines := by simp [zhS, h]
theorem zeD {t : Text} {k n : Nat} {c : Chapter} {ln : List Str} (h : t.chapters[k]? = some c) (h2 : c.lines[n]? = some ln) : wordsAt t k n = ln := by simp [wordsAt, zei h, h2]
theorem zcW {α : Type} {f : Nat → List α} {c : Nat} (h : ∀ k, (f k).length ≤ c) (n : Nat) : ((List.range n).flatMap f).length ≤ c * n := by
 induction n with
 | zero => simp
 | succ n ih =>
  rw [List.range_succ, List.flatMap_append, List.length_append]
  have := h n
  simp only [List.flatMap_cons, List.flatMap_nil, List.append_nil]
  rw [Nat.mul_succ]; omega
theorem zfO {t : Text} (ht : zbu t = true) (k n : Nat) : (wordsAt t k n).length ≤ 10 := by
 unfold wordsAt zhS
 simp only [zbu, Bool.and_eq_true, List.all_eq_true] at ht
 cases hc : t.chapters[k]? with
 | none => simp
 | some c =>
  have h1 := ht.1.2 _ (List.mem_of_getElem? hc)
  simp only [zbT, Bool.and_eq_true, List.all_eq_true] at h1
  simp only [Option.map_some, Option.getD_some]
  cases hl : c.lines[n]? with
  | none => simp
  | some ln =>
   have h2 := h1.2 _ (List.mem_of_getElem? hl)
   simp only [zgh, Bool.and_eq_true, inB, decide_eq_true_eq] at h2
   simp only [Option.getD_some]; omega
theorem zfT {t : Text} (ht : zbu t = true) (k : Nat) : (zhS t k).length ≤ 10 := by
 unfold zhS
 simp only [zbu, Bool.and_eq_true, List.all_eq_true] at ht
 cases hc : t.chapters[k]? with
 | none => simp
 | some c =>
  have h1 := ht.1.2 _ (List.mem_of_getElem? hc)
  simp only [zbT, Bool.and_eq_true, inB, decide_eq_true_eq] at h1
  simp only [Option.map_some, Option.getD_some]; omega
theorem zej {t : Text} (ht : zbu t = true) : t.chapters.length ≤ 6 := by
 simp only [zbu, Bool.and_eq_true, inB, decide_eq_true_eq] at ht; omega
theorem zil {t : Text} (ht : zbu t = true) (k n : Nat) : (lineP t k n).length ≤ 10 := by
 rw [lineP, List.length_map, List.length_range]; exact zfO ht k n
theorem zgH {t : Text} (ht : zbu t = true) (k : Nat) : (chapP t k).length ≤ 100 := by
 have h1 := zcW (zil ht k) (zhS t k).length
 have h2 := zfT ht k
 rw [chapP]; omega
theorem zgE {t : Text} (ht : zbu t = true) : (zcj t).length ≤ 600 := by
 have h1 := zcW (zgH ht) t.chapters.length
 have h2 := zej ht
 rw [zcj]; omega
theorem place_mk {t : Text} {k n w : Nat} {c : Chapter} {ln : List Str} (hc : t.chapters[k]? = some c) (hl : c.lines[n]? = some ln) (hw : w < ln.length) : zbB t (mkP k n w) = true := by
 have h0 : ln[w]? = some ln[w] := List.getElem?_eq_getElem hw
 simp [zbB, zgA, zcT, mkP, hc, hl, h0]
theorem word_mk {t : Text} {k n w : Nat} {c : Chapter} {ln : List Str} {s : Str} (hc : t.chapters[k]? = some c) (hl : c.lines[n]? = some ln) (hw : ln[w]? = some s) : zbC t (mkP k n w) = s := by
 simp [zbC, zgA, zcT, mkP, hc, hl, hw]
theorem lineP_snoc {t : Text} {k n : Nat} {c : Chapter} {ln : List Str} (hc : t.chapters[k]? = some c) (hl : c.lines[n]? = some ln) {w : Nat} (hw : w = ln.length) : (List.range w).map (mkP k n) = lineP t k n := by
 rw [lineP, zeD hc hl, hw]
theorem chapP_snoc {t : Text} {k : Nat} {c : Chapter} (hc : t.chapters[k]? = some c) {n : Nat} (hn : n = c.lines.length) : (List.range n).flatMap (lineP t k) = chapP t k := by
 rw [chapP, zei hc, hn]
theorem zcA {α : Type} (f : Nat → List α) (n : Nat) : (List.range (n + 1)).flatMap f = (List.range n).flatMap f ++ f n := by
 rw [List.range_succ, List.flatMap_append]; simp
theorem placesT_mem {t : Text} {p : Place} (h : p ∈ zcj t) : zbB t p = true := by
 obtain ⟨k, hk, h⟩ := List.mem_flatMap.1 h
 obtain ⟨n, hn, h⟩ := List.mem_flatMap.1 h
 obtain ⟨w, hw, rfl⟩ := List.mem_map.1 h
 have hk' := List.mem_range.1 hk
 have hc : t.chapters[k]? = some t.chapters[k] := List.getElem?_eq_getElem hk'
 rw [zei hc] at hn
 have hn' := List.mem_range.1 hn
 have hl : t.chapters[k].lines[n]? = some t.chapters[k].lines[n] := List.getElem?_eq_getElem hn'
 rw [zeD hc hl] at hw
 exact place_mk hc hl (List.mem_range.1 hw)
def zhZ (t : Text) (x : Lexicon) (p : Place) : Head := (winD x p (zbC t p)).to
def entryAt (t : Text) (x : Lexicon) (p : Place) : Entry := ⟨p, zbC t p, zhZ t x p⟩
def zbt (t : Text) (x : Lexicon) : List Entry := (zcj t).map (entryAt t x)
def zeG (t : Text) (x : Lexicon) : List Head := (zcj t).map (zhZ t x)
def headR0 (x : Lexicon) (wd : Str) : Decision := { zbf with to := ⟨((zcZ x.rules 4 wd).getLast?).getD [], 0⟩ }
def stepR (p : Place) (wd : Str) (b d : Decision) : Decision := if zds d p wd = true ∧ (b.number = 0 ∨ zgQ d b = true) then d else b
def zgV (x : Lexicon) (l : List Decision) (p : Place) (wd : Str) : Decision := l.foldl (stepR p wd) (headR0 x wd)
theorem nodup_of_map {α β : Type} (f : α → β) {l : List α} (h : (l.map f).Nodup) : l.Nodup := (List.pairwise_map.1 h).imp (fun h e => h (by rw [e]))
theorem standingR_perm {x : Lexicon} (hx : OkD x) : (zch x).Perm ((zeY x).map (·.2)) := by
 have hs := (zha hx.1 999).1
 have hnd : ((zch x).map (·.number)).Nodup := hs.imp (fun h => by omega)
 have h1 : (zch x).Nodup := nodup_of_map _ hnd
 have h2 : ((zeY x).map (·.2)).Nodup := nodup_of_map _ (zhX hx)
 rw [List.perm_ext_iff_of_nodup h1 h2]
 intro d
 constructor
 ·intro hd
  obtain ⟨n, _, hd'⟩ := List.mem_flatMap.1 hd
  obtain ⟨h1, _, h3⟩ := standAt_mem.1 hd'
  exact List.mem_map.2 ⟨zfw d, List.mem_map.2 ⟨d, List.mem_filter.2 ⟨(zdD x).mem_iff.2 h1, h3⟩, rfl⟩, rfl⟩
 intro hd
 obtain ⟨p, hp, rfl⟩ := List.mem_map.1 hd
 obtain ⟨h1, h2, h3⟩ := zht hp
 have h4 := hx.2 _ h1
 exact List.mem_flatMap.2 ⟨(p.2.number - 1).toNat, List.mem_range.2 (by omega), standAt_mem.2 ⟨h1, by omega, h3⟩⟩
theorem foldR_eq (p : Place) (wd : Str) (l : List Decision) (b : Decision) : l.foldl (stepR p wd) b = (l.filter fun d => zds d p wd).foldl (fun b d => if b.number = 0 ∨ zgQ d b = true then d else b) b := by
 induction l generalizing b with
 | nil => rfl
 | cons d l ih =>
  rw [List.foldl_cons, ih, List.filter_cons]
  by_cases h : zds d p wd = true
  ·simp only [h, if_true, List.foldl_cons, stepR, true_and]
  ·simp only [h, if_false, stepR, false_and, Bool.false_eq_true]
theorem headR_eq {t : Text} {x : Lexicon} (h : zaQ t x = 0) (p : Place) (wd : Str) : zgV x (zch x) p wd = winD x p wd := by
 have hx := zgF h
 have hs := (zha hx.1 999).1
 have hperm : ((zch x).filter fun d => zds d p wd).Perm (conD x p wd) := (standingR_perm hx).filter _
 have hp1 : ∀ y ∈ conD x p wd, 1 ≤ y.number := by
  intro y hy
  obtain ⟨q, hq, rfl⟩ := List.mem_map.1 (List.mem_filter.1 hy).1
  exact (hx.2 _ (zht hq).1).1
 have hn1 : ((conD x p wd).map (·.number)).Nodup := (List.filter_sublist.map _).nodup (zhX hx)
 have hpw : ((zch x).filter fun d => zds d p wd).Pairwise fun a b => a.number < b.number := (List.pairwise_map.1 hs).sublist List.filter_sublist
 have hb := best_better (fun y hy => hp1 y (hperm.mem_iff.1 hy)) hpw
 rw [bestOf_perm hperm hp1 hn1] at hb
 unfold zgV
 rw [foldR_eq]
 cases e : (zch x).filter fun d => zds d p wd with
 | nil =>
  rw [e] at hb hperm
  have : conD x p wd = [] := hperm.symm.eq_nil
  simp [winD, this, zaW, headR0, zbf]
 | cons d l =>
  rw [e] at hb hperm
  have h1 : zaW (conD x p wd) ∈ conD x p wd := (zhI hp1 (by intro q; rw [q] at hperm; exact absurd hperm.eq_nil (by simp))).2
  have h2 := hp1 _ h1
  rw [winD, if_neg (by omega), ← hb]
  simp [headR0, zbf]
def askR (t : Text) (x : Lexicon) (p : Place) : Decision := if zaQ t x = 0 ∧ zbB t p = true then winD x p (zbC t p) else zbf
def askE (t : Text) (x : Lexicon) (p : Place) : Int := if zaQ t x = 0 then (if zbB t p = true then 0 else 12) else zaQ t x
theorem stepsN_mem_len {rs : List Rule} : ∀ (n : Nat) (w : Str), w.length ≤ 12 → ∀ s ∈ zcZ rs n w, s.length ≤ 12
 | 0, w, h, s, hs => by simp [zcZ] at hs; subst hs; exact h
 | n + 1, w, h, s, hs => by
  simp only [zcZ] at hs
  split at hs
  ·simp at hs; subst hs; exact h
  ·rename_i u hu
   rcases List.mem_cons.1 hs with rfl | hs
   ·exact h
   ·obtain ⟨r, _, hr⟩ := List.exists_of_findSome?_eq_some hu
    exact stepsN_mem_len n u (made_len hr) s hs
theorem head_of_valid {h : Head} (hv : zdV h = true) : h.stem.length ≤ 12 ∧ 0 ≤ h.mark ∧ h.mark ≤ 3 := by
 simp only [zdV, Bool.and_eq_true, inB, decide_eq_true_eq] at hv
 exact ⟨zho hv.1, hv.2.1, hv.2.2⟩
theorem dec_head {t : Text} {d : Decision} {p : Place} {wd : Str} (h : zaq t d = true) (hc : zds d p wd = true) : zdV d.to = true := by
 simp only [zaq, Bool.and_eq_true] at h
 have h := h.2
 unfold zds at hc
 by_cases k1 : d.kind = 1
 ·simp only [k1, if_true, Bool.and_eq_true] at h; exact h.1.2
 by_cases k2 : d.kind = 2
 ·simp [k2] at h; exact h.1.2
 by_cases k3 : d.kind = 3
 ·simp [k3] at h; exact h.1.2
 simp [k1, k2, k3] at hc
theorem winD_ok {t : Text} {x : Lexicon} {p : Place} (hx : zaQ t x = 0) (hp : zbB t p = true) : (winD x p (zbC t p)).to.stem.length ≤ 12 ∧ 0 ≤ (winD x p (zbC t p)).to.mark ∧ (winD x p (zbC t p)).to.mark ≤ 3 := by
 unfold winD
 split
 ·refine ⟨?_, by simp, by simp⟩
  have hw := wordD_len (zcx hx) hp
  cases e : (zcZ x.rules 4 (zbC t p)).getLast? with
  | none => simp
  | some s => exact stepsN_mem_len 4 _ hw s (List.mem_of_getLast? e)
 rename_i h0
 rcases ziN (conD x p (zbC t p)) with h | h
 ·rw [h] at h0; exact absurd rfl h0
 obtain ⟨h1, h2⟩ := List.mem_filter.1 h
 obtain ⟨q, hq, e⟩ := List.mem_map.1 h1
 have h3 := (standM_ok hx hq).1
 rw [e] at h3
 exact head_of_valid (dec_head h3 h2)
end Go.Pk

namespace Go.Pk
open Go Go.RowKit
section
variable {α : Type}
structure DelF (q : α → Bool) (s ys : List α) (i j : Nat) : Prop where
 len : ys.length = s.length
 le : i ≤ j
 le2 : j ≤ s.length
 head : ys.take i = (s.take j).filter fun x => !q x
 tail : ys.drop j = s.drop j
theorem DelF.get {q : α → Bool} {s ys : List α} {i j : Nat} (d : DelF q s ys i j) {y : α} (h : ys[j]? = some y) : s[j]? = some y := by
 have h1 := congrArg (fun l : List α => l[0]?) d.tail
 simp only [List.getElem?_drop, Nat.add_zero] at h1
 rw [← h1]; exact h
theorem DelF.start {q : α → Bool} {s : List α} {k : Nat} (h1 : ∀ j x, j < k → s[j]? = some x → q x = false) (h2 : ∀ x, s[k]? = some x → q x = true) (hk : k < s.length) : DelF q s s k (k + 1) := by
 refine ⟨rfl, by omega, by omega, ?_, rfl⟩
 have hx : s[k]? = some s[k] := List.getElem?_eq_getElem hk
 rw [zbb hx, List.filter_append]
 have e1 : (s.take k).filter (fun x => !q x) = s.take k := by
  rw [List.filter_eq_self]
  intro x hx
  obtain ⟨j, hj⟩ := List.mem_iff_getElem?.1 hx
  rw [List.getElem?_take] at hj
  split at hj
  ·rename_i hjk; simp [h1 j x hjk hj]
  ·cases hj
 simp [e1, h2 _ hx]
theorem DelF.keep {q : α → Bool} {s ys : List α} {i j : Nat} (d : DelF q s ys i j) {y : α} (h : ys[j]? = some y) (hq : q y = false) : DelF q s (ys.set i y) (i + 1) (j + 1) := by
 obtain ⟨h1, _⟩ := List.getElem?_eq_some_iff.1 h
 have hl := d.len; have hle := d.le
 refine ⟨by rw [List.length_set]; exact d.len, by omega, by omega, ?_, ?_⟩
 ·rw [zbb (d.get h), List.filter_append, ← d.head]
  have e : (ys.set i y)[i]? = some y := by rw [List.getElem?_set]; simp; omega
  rw [zbb e, List.take_set_of_le (Nat.le_refl i)]
  simp [hq]
 rw [List.drop_set_of_lt (by omega)]
 have := congrArg (List.drop 1) d.tail
 simpa [List.drop_drop] using this
theorem DelF.skip {q : α → Bool} {s ys : List α} {i j : Nat} (d : DelF q s ys i j) {y : α} (h : ys[j]? = some y) (hq : q y = true) : DelF q s ys i (j + 1) := by
 obtain ⟨h1, _⟩ := List.getElem?_eq_some_iff.1 h
 have hl := d.len; have hle := d.le
 refine ⟨d.len, by omega, by omega, ?_, ?_⟩
 ·rw [zbb (d.get h), List.filter_append, ← d.head]
  simp [hq]
 have := congrArg (List.drop 1) d.tail
 simpa [List.drop_drop] using this
theorem DelF.fin {q : α → Bool} {s ys : List α} {i j : Nat} (d : DelF q s ys i j) (h : s.length ≤ j) : ys.take i = s.filter fun x => !q x := by
 rw [d.head, List.take_of_length_le h]
theorem filter_none {q : α → Bool} {s : List α} (h : ∀ j x, j < s.length → s[j]? = some x → q x = false) : (s.filter fun x => !q x) = s := by
 rw [List.filter_eq_self]
 intro x hx
 obtain ⟨j, hj⟩ := List.mem_iff_getElem?.1 hx
 obtain ⟨h1, _⟩ := List.getElem?_eq_some_iff.1 hj
 simp [h j x h1 hj]
variable [DecidableEq α]
def zgW (acc : List α) (x : α) : List α := if acc.getLast? = some x then acc else acc ++ [x]
def zcI (l : List α) : List α := l.foldl zgW []
theorem zgP (l : List α) (x : α) : zcI (l ++ [x]) = zgW (zcI l) x := by simp [zcI]
theorem compactL_last (l : List α) : (zcI l).getLast? = l.getLast? := by
 induction l using zfB with
 | nil => rfl
 | snoc l d ih =>
  rw [zgP, zgW]
  split
  ·rename_i h; rw [h]; simp
  ·simp
theorem zgO {s : List α} {k : Nat} {y z : α} (hz : s[k]? = some z) (hy : s[k + 1]? = some y) : zcI (s.take (k + 2)) = if z = y then zcI (s.take (k + 1)) else zcI (s.take (k + 1)) ++ [y] := by
 have e : (s.take (k + 1)).getLast? = some z := by rw [zbb hz]; simp
 rw [zbb hy, zgP, zgW, compactL_last, e]
 simp only [Option.some.injEq]
theorem comp_more {s : List α} {k : Nat} {y z : α} (hz : s[k - 1]? = some z) (hy : s[k]? = some y) (hk : 1 ≤ k) (h : zcI (s.take k) = s.take k) (hne : ¬ y = z) : zcI (s.take (k + 1)) = s.take (k + 1) := by
 obtain ⟨m, rfl⟩ : ∃ m, k = m + 1 := ⟨k - 1, by omega⟩
 rw [Nat.add_sub_cancel] at hz
 rw [show m + 1 + 1 = m + 2 from rfl, zgO hz hy, if_neg (fun e => hne e.symm), h, ← zbb hy]
theorem comp_one {s : List α} (h : 1 ≤ s.length) : zcI (s.take 1) = s.take 1 := by
 cases s with
 | nil => simp at h
 | cons a s => simp [zcI, zgW]
theorem comp_short {s : List α} (h : s.length < 2) : zcI s = s := by
 match s, h with
 | [], _ => rfl
 | [a], _ => simp [zcI, zgW]
structure Comp (s ys : List α) (i j : Nat) : Prop where
 len : ys.length = s.length
 le : i + 1 ≤ j
 le2 : j ≤ s.length
 head : ys.take i = zcI (s.take j)
 tail : ys.drop (j - 1) = s.drop (j - 1)
theorem Comp.start {s : List α} {k : Nat} {y z : α} (hz : s[k - 1]? = some z) (hy : s[k]? = some y) (hk : 1 ≤ k) (h : zcI (s.take k) = s.take k) (he : y = z) : Comp s s k (k + 1) := by
 obtain ⟨h1, _⟩ := List.getElem?_eq_some_iff.1 hy
 refine ⟨rfl, Nat.le_refl _, by omega, ?_, rfl⟩
 obtain ⟨m, rfl⟩ : ∃ m, k = m + 1 := ⟨k - 1, by omega⟩
 rw [Nat.add_sub_cancel] at hz
 rw [show m + 1 + 1 = m + 2 from rfl, zgO hz hy, if_pos he.symm, h]
theorem Comp.get {s ys : List α} {i j : Nat} (d : Comp s ys i j) {y : α} {n : Nat} (hn : j - 1 ≤ n) (h : ys[n]? = some y) : s[n]? = some y := by
 have h1 := congrArg (fun l : List α => l[n - (j - 1)]?) d.tail
 simp only [List.getElem?_drop] at h1
 rw [show j - 1 + (n - (j - 1)) = n by omega] at h1
 rw [← h1]; exact h
theorem Comp.keep {s ys : List α} {i j : Nat} (d : Comp s ys i j) {y z : α} (h : ys[j]? = some y) (hz : ys[j - 1]? = some z) (hne : ¬ y = z) : Comp s (ys.set i y) (i + 1) (j + 1) := by
 obtain ⟨h1, _⟩ := List.getElem?_eq_some_iff.1 h
 have hl := d.len; have hle := d.le; have hle2 := d.le2
 have g1 := d.get (by omega) h
 have g2 := d.get (Nat.le_refl _) hz
 refine ⟨by rw [List.length_set]; exact d.len, by omega, by omega, ?_, ?_⟩
 ·obtain ⟨m, rfl⟩ : ∃ m, j = m + 1 := ⟨j - 1, by omega⟩
  rw [Nat.add_sub_cancel] at g2
  rw [show m + 1 + 1 = m + 2 from rfl, zgO g2 g1, if_neg (fun e => hne e.symm), ← d.head]
  have e : (ys.set i y)[i]? = some y := by rw [List.getElem?_set]; simp; omega
  rw [zbb e, List.take_set_of_le (Nat.le_refl i)]
 rw [Nat.add_sub_cancel, List.drop_set_of_lt (by omega)]
 have := congrArg (List.drop 1) d.tail
 rw [List.drop_drop, List.drop_drop, show j - 1 + 1 = j by omega] at this
 exact this
theorem Comp.skip {s ys : List α} {i j : Nat} (d : Comp s ys i j) {y z : α} (h : ys[j]? = some y) (hz : ys[j - 1]? = some z) (he : y = z) : Comp s ys i (j + 1) := by
 obtain ⟨h1, _⟩ := List.getElem?_eq_some_iff.1 h
 have hl := d.len; have hle := d.le; have hle2 := d.le2
 have g1 := d.get (by omega) h
 have g2 := d.get (Nat.le_refl _) hz
 refine ⟨d.len, by omega, by omega, ?_, ?_⟩
 ·obtain ⟨m, rfl⟩ : ∃ m, j = m + 1 := ⟨j - 1, by omega⟩
  rw [Nat.add_sub_cancel] at g2
  rw [show m + 1 + 1 = m + 2 from rfl, zgO g2 g1, if_pos he.symm, ← d.head]
 have := congrArg (List.drop 1) d.tail
 rw [List.drop_drop, List.drop_drop, show j - 1 + 1 = j by omega] at this
 rw [Nat.add_sub_cancel]; exact this
theorem Comp.fin {s ys : List α} {i j : Nat} (d : Comp s ys i j) (h : s.length ≤ j) : ys.take i = zcI s := by
 rw [d.head, List.take_of_length_le h]
end
end Go.Pk

namespace Go.Pk
open Go Go.RowKit
section
variable {α : Type} [DecidableEq α]
structure TLt (lt : α → α → Bool) : Prop where
 irrefl : ∀ a, lt a a = false
 trans : ∀ a b c, lt a b = true → lt b c = true → lt a c = true
 total : ∀ a b, a ≠ b → lt a b = true ∨ lt b a = true
def insBy (lt : α → α → Bool) (l : List α) (x : α) : List α := if (l.dropWhile fun a => lt a x).head? = some x then l else (l.takeWhile fun a => lt a x) ++ [x] ++ (l.dropWhile fun a => lt a x)
def setL (lt : α → α → Bool) (l : List α) : List α := l.foldl (insBy lt) []
variable {lt : α → α → Bool}
theorem setL_snoc (l : List α) (x : α) : setL lt (l ++ [x]) = insBy lt (setL lt l) x := by simp [setL]
omit [DecidableEq α] in
theorem TLt.asymm (T : TLt lt) {a b : α} (h : lt a b = true) : lt b a = false := by
 cases e : lt b a with
 | false => rfl
 | true => have := T.trans _ _ _ h e; rw [T.irrefl] at this; cases this
omit [DecidableEq α] in
theorem while_at {p : α → Bool} {l : List α} {k : Nat} (h1 : ∀ j y, j < k → l[j]? = some y → p y = true) (h2 : ∀ y, l[k]? = some y → p y = false) : l.takeWhile p = l.take k ∧ l.dropWhile p = l.drop k := by
 induction l generalizing k with
 | nil => simp
 | cons a l ih =>
  cases k with
  | zero =>
   have := h2 a (by simp)
   simp [this]
  | succ k =>
   have h0 := h1 0 a (by omega) (by simp)
   obtain ⟨e1, e2⟩ := ih (k := k) (fun j y hj hy => h1 (j + 1) y (by omega) (by simpa using hy)) (fun y hy => h2 y (by simpa using hy))
   simp [h0, e1, e2]
theorem insBy_new {l : List α} {x : α} {k : Nat} (h1 : ∀ j y, j < k → l[j]? = some y → lt y x = true) (h2 : ∀ y, l[k]? = some y → lt y x = false) (h3 : l[k]? ≠ some x) : insBy lt l x = l.take k ++ [x] ++ l.drop k := by
 obtain ⟨e1, e2⟩ := while_at (p := fun a => lt a x) h1 h2
 rw [insBy, e1, e2, if_neg]
 rw [List.head?_drop]; exact h3
theorem insBy_old {l : List α} {x : α} {k : Nat} (h1 : ∀ j y, j < k → l[j]? = some y → lt y x = true) (h2 : ∀ y, l[k]? = some y → lt y x = false) (h3 : l[k]? = some x) : insBy lt l x = l := by
 obtain ⟨e1, e2⟩ := while_at (p := fun a => lt a x) h1 h2
 rw [insBy, e2, if_pos]
 rw [List.head?_drop]; exact h3
theorem insBy_mem {l : List α} {x y : α} : y ∈ insBy lt l x ↔ y ∈ l ∨ y = x := by
 unfold insBy
 split
 ·rename_i h
  have : x ∈ l.dropWhile fun a => lt a x := List.mem_of_mem_head? h
  have hx : x ∈ l := (List.dropWhile_sublist _).subset this
  constructor
  ·exact .inl
  ·rintro (h | rfl)
   ·exact h
   ·exact hx
 have e : l = (l.takeWhile fun a => lt a x) ++ (l.dropWhile fun a => lt a x) := (List.takeWhile_append_dropWhile).symm
 have : y ∈ l ↔ y ∈ (l.takeWhile fun a => lt a x) ∨ y ∈ (l.dropWhile fun a => lt a x) := by
  rw [← List.mem_append, ← e]
 rw [this]
 simp only [List.mem_append, List.mem_singleton]
 constructor
 ·rintro ((h | h) | h)
  ·exact .inl (.inl h)
  ·exact .inr h
  ·exact .inl (.inr h)
 rintro ((h | h) | h)
 ·exact .inl (.inl h)
 ·exact .inr h
 exact .inl (.inr h)
theorem insBy_sorted (T : TLt lt) {l : List α} {x : α} (hs : l.Pairwise fun a b => lt a b = true) : (insBy lt l x).Pairwise fun a b => lt a b = true := by
 unfold insBy
 split
 ·exact hs
 rename_i hne
 have e : l = (l.takeWhile fun a => lt a x) ++ (l.dropWhile fun a => lt a x) := (List.takeWhile_append_dropWhile).symm
 have hs' := hs
 rw [e] at hs'
 obtain ⟨s1, s2, s3⟩ := List.pairwise_append.1 hs'
 have ht : ∀ a ∈ l.takeWhile (fun a => lt a x), lt a x = true := by
  intro a ha
  have := List.all_takeWhile (l := l) (p := fun a => lt a x)
  exact List.all_eq_true.1 this a ha
 have hd : ∀ b ∈ l.dropWhile (fun a => lt a x), lt x b = true := by
  cases hD : l.dropWhile (fun a => lt a x) with
  | nil => simp
  | cons c D =>
   have hc : ¬ lt c x = true := by
    have := List.head?_dropWhile_not (fun a => lt a x) l
    rw [hD] at this; simpa using this
   have hcx : c ≠ x := by
    intro q; rw [hD, q] at hne; exact hne rfl
   have h1 : lt x c = true := (T.total x c (Ne.symm hcx)).resolve_right hc
   intro b hb
   rcases List.mem_cons.1 hb with rfl | hb
   ·exact h1
   ·rw [hD] at s2
    exact T.trans _ _ _ h1 ((List.pairwise_cons.1 s2).1 b hb)
 rw [List.append_assoc]
 refine List.pairwise_append.2 ⟨s1, List.pairwise_append.2 ⟨by simp, s2, ?_⟩, ?_⟩
 ·intro a ha b hb
  simp at ha; subst ha
  exact hd b hb
 intro a ha b hb
 rcases List.mem_append.1 hb with hb | hb
 ·simp at hb; subst hb; exact ht a ha
 exact s3 a ha b hb
theorem setL_sorted (T : TLt lt) (l : List α) : (setL lt l).Pairwise fun a b => lt a b = true := by
 induction l using zfB with
 | nil => exact List.Pairwise.nil
 | snoc l d ih => rw [setL_snoc]; exact insBy_sorted T ih
theorem setL_mem {l : List α} {y : α} : y ∈ setL lt l ↔ y ∈ l := by
 induction l using zfB with
 | nil => simp [setL]
 | snoc l d ih => rw [setL_snoc, insBy_mem, ih]; simp
omit [DecidableEq α] in
theorem strict_eq (T : TLt lt) {a b : List α} (ha : a.Pairwise fun x y => lt x y = true) (hb : b.Pairwise fun x y => lt x y = true) (h : ∀ x, x ∈ a ↔ x ∈ b) : a = b := by
 have na : a.Nodup := ha.imp (fun h e => by subst e; rw [T.irrefl] at h; cases h)
 have nb : b.Nodup := hb.imp (fun h e => by subst e; rw [T.irrefl] at h; cases h)
 refine List.Perm.eq_of_pairwise (le := fun x y => lt x y = true) (fun x y _ _ h1 h2 => by have := T.asymm h1; rw [h2] at this; cases this) ha hb ((List.perm_ext_iff_of_nodup na nb).2 h)
theorem setL_len (T : TLt lt) (l : List α) : (setL lt l).length ≤ l.length := by
 induction l using zfB with
 | nil => simp [setL]
 | snoc l d ih =>
  rw [setL_snoc, insBy]
  split
  ·simp; omega
  ·have e := congrArg List.length (List.takeWhile_append_dropWhile (p := fun a => lt a d) (l := setL lt l))
   simp only [List.length_append] at e ⊢
   simp only [List.length_cons, List.length_nil]; omega
theorem compactL_mem {l : List α} : ∀ {y : α}, y ∈ zcI l ↔ y ∈ l := by
 induction l using zfB with
 | nil => simp [zcI]
 | snoc l d ih =>
  intro y
  rw [zgP, zgW]
  split
  ·rename_i h
   rw [ih]
   have : d ∈ zcI l := List.mem_of_getLast? h
   rw [ih] at this
   constructor
   ·intro h; simp [h]
   ·intro h
    rcases List.mem_append.1 h with h | h
    ·exact h
    ·simp at h; subst h; exact this
  ·simp [ih]
theorem compactL_sorted (T : TLt lt) {l : List α} (hs : l.Pairwise fun a b => lt b a = false) : (zcI l).Pairwise fun a b => lt a b = true := by
 induction l using zfB with
 | nil => exact List.Pairwise.nil
 | snoc l d ih =>
  obtain ⟨s1, _, s3⟩ := List.pairwise_append.1 hs
  rw [zgP, zgW]
  split
  ·exact ih s1
  ·rename_i hne
   refine List.pairwise_append.2 ⟨ih s1, by simp, fun a ha b hb => ?_⟩
   simp at hb; subst hb
   have hal : a ∈ l := compactL_mem.1 ha
   have h1 := s3 a hal b (by simp)
   by_cases e : a = b
   ·exfalso
    subst e
    rw [compactL_last] at hne
    cases hL : l.getLast? with
    | none => rw [List.getLast?_eq_none_iff] at hL; subst hL; cases hal
    | some z =>
     rw [hL] at hne
     have hz : z ∈ l := List.mem_of_getLast? hL
     have h2 := s3 z hz a (by simp)
     -- a comes ahead of z, or is it
     have h3 : lt z a = false := by
      obtain ⟨i, hi⟩ := List.mem_iff_getElem?.1 hal
      rw [List.getLast?_eq_getElem?] at hL
      obtain ⟨i1, i2⟩ := List.getElem?_eq_some_iff.1 hi
      obtain ⟨z1, z2⟩ := List.getElem?_eq_some_iff.1 hL
      rcases Nat.lt_or_ge i (l.length - 1) with h | h
      ·have := List.pairwise_iff_getElem.1 s1 i (l.length - 1) i1 z1 h
       rw [i2, z2] at this; exact this
      ·have : i = l.length - 1 := by omega
       subst this
       rw [i2] at z2; subst z2; exact T.irrefl _
     by_cases e2 : z = a
     ·exact hne (by rw [e2])
     ·rcases T.total z a e2 with q | q
      ·rw [q] at h3; cases h3
      ·rw [q] at h2; cases h2
   ·rcases T.total a b e with q | q
    ·exact q
    ·rw [q] at h1; cases h1
theorem setOf_compact (T : TLt lt) {xs ys : List α} (hp : ys.Perm xs) (hs : ys.Pairwise fun a b => lt b a = false) : zcI ys = setL lt xs :=
 strict_eq T (compactL_sorted T hs) (setL_sorted T xs) (fun x => by rw [compactL_mem, setL_mem]; exact hp.mem_iff)
end
theorem sLt_eq (a b : Str) : sLt a b = decide (a < b) := Go.Proofs.bytesLess_eq a b
theorem sLt_T : TLt sLt := by
 refine ⟨fun a => ?_, fun a b c => ?_, fun a b h => ?_⟩
 ·rw [sLt_eq]; simp [List.lt_irrefl]
 ·rw [sLt_eq, sLt_eq, sLt_eq]; simp only [decide_eq_true_eq]; exact fun h1 h2 => List.lt_trans h1 h2
 rw [sLt_eq, sLt_eq]; simp only [decide_eq_true_eq]
 by_cases h1 : a < b
 ·exact .inl h1
 by_cases h2 : b < a
 ·exact .inr h2
 exact absurd (List.le_antisymm (List.not_lt.1 h2) (List.not_lt.1 h1)) h
def headsN (t : Text) (x : Lexicon) : List Head := if zaQ t x = 0 then setL headLt (zeG t x) else []
def underP (t : Text) (x : Lexicon) (hd : Head) : List Place := (zcj t).filter fun p => decide (zhZ t x p = hd)
def underE (t : Text) (x : Lexicon) (hd : Head) : Int := if zaQ t x = 0 then (if zdV hd = true then (if underP t x hd = [] then 6 else 0) else 2) else zaQ t x
def underR (t : Text) (x : Lexicon) (hd : Head) : List Place := if underE t x hd = 0 then underP t x hd else []
def underN (t : Text) (x : Lexicon) (hd : Head) : List Entry := if underE t x hd = 0 then (zbt t x).filter fun y => !decide (y.head ≠ hd) else []
def formsR (t : Text) (x : Lexicon) (hd : Head) : List Str := if underE t x hd = 0 then setL sLt ((underP t x hd).map (zbC t)) else []
theorem entries_len {t : Text} (ht : zbu t = true) (x : Lexicon) : (zbt t x).length ≤ 600 := by rw [zbt, List.length_map]; exact zgE ht
theorem setOf_sort (l : List Str) : zcI (l.mergeSort fun a b => decide (a ≤ b)) = setL sLt l := by
 refine setOf_compact sLt_T (List.mergeSort_perm _ _) ?_
 have h := List.pairwise_mergeSort (le := fun a b : Str => decide (a ≤ b)) (by intro a b c h1 h2; simp only [decide_eq_true_eq] at *; exact List.le_trans h1 h2) (by intro a b; simp only [Bool.or_eq_true, decide_eq_true_eq]; exact List.le_total a b) l
 refine h.imp fun h => ?_
 rw [sLt_eq]; simp only [decide_eq_true_eq] at h; simpa using h
end Go.Pk

namespace Go.Pk
open Go Go.RowKit
def zcD (es : List Entry) (w : Str) : Option Head := (es.find? fun y => decide (y.word = w)).map (·.head)
def homAt (es : List Entry) (y : Entry) : List Str := match zcD es y.word with
 | some h => if h ≠ y.head then [y.word] else []
 | none => []
def zhd (es : List Entry) : Nat → List Str
 | 0 => []
 | n + 1 => zhd es n ++ (match es[n]? with
  | some y => homAt (es.take n) y
  | none => [])
theorem homsN_succ {es : List Entry} {n : Nat} {y : Entry} (h : es[n]? = some y) : zhd es (n + 1) = zhd es n ++ homAt (es.take n) y := by simp only [zhd, h]
theorem zhl (es : List Entry) : ∀ n, (zhd es n).length ≤ n
 | 0 => by simp [zhd]
 | n + 1 => by
  have ih := zhl es n
  simp only [zhd, List.length_append]
  split
  ·unfold homAt
   split
   ·split <;> simp <;> omega
   ·simp; omega
  ·simp; omega
theorem ziD (es : List Entry) (y : Entry) (w : Str) : zcD (es ++ [y]) w = match zcD es w with
  | some h => some h
  | none => if y.word = w then some y.head else none := by
 unfold zcD
 rw [List.find?_append]
 cases h : es.find? fun y => decide (y.word = w) with
 | some z => simp
 | none =>
  by_cases e : y.word = w <;> simp [e]
theorem hdFirst_put {es : List Entry} {n : Nat} {y : Entry} (h : es[n]? = some y) {m : List (Str × Head)} (hm : ∀ w, look m w = zcD (es.take n) w) (hc : ∀ z, zcD (es.take n) y.word = some z → z = y.head) : ∀ w, look (putM m y.word y.head) w = zcD (es.take (n + 1)) w := by
 intro w
 rw [look_putM, zbb h, ziD, hm]
 by_cases e : w = y.word
 ·subst e
  simp only [if_true]
  cases q : zcD (es.take n) y.word with
  | some z => rw [hc z q]
  | none => rfl
 rw [if_neg e]
 cases q : zcD (es.take n) w with
 | some z => rfl
 | none => simp only []; rw [if_neg (fun q => e q.symm)]
theorem hdFirst_keep {es : List Entry} {n : Nat} {y : Entry} (h : es[n]? = some y) {m : List (Str × Head)} (hm : ∀ w, look m w = zcD (es.take n) w) {z : Head} (hc : zcD (es.take n) y.word = some z) : ∀ w, look m w = zcD (es.take (n + 1)) w := by
 intro w
 rw [zbb h, ziD, hm]
 cases q : zcD (es.take n) w with
 | some z => rfl
 | none =>
  simp only []
  by_cases e : y.word = w
  ·subst e; rw [hc] at q; cases q
  ·rw [if_neg e]
theorem hdFirst_some {es : List Entry} {n : Nat} {w : Str} {h : Head} (q : zcD (es.take n) w = some h) : ∃ j b, j < n ∧ es[j]? = some b ∧ b.word = w ∧ b.head = h := by
 unfold zcD at q
 obtain ⟨b, hb, rfl⟩ := Option.map_eq_some_iff.1 q
 have h1 := List.find?_some hb
 have h2 := List.mem_of_find?_eq_some hb
 obtain ⟨j, hj⟩ := List.mem_iff_getElem?.1 h2
 rw [List.getElem?_take] at hj
 split at hj
 ·exact ⟨j, b, by assumption, hj, by simpa using h1, rfl⟩
 cases hj
theorem hdFirst_is {es : List Entry} {n j : Nat} {b : Entry} (hj : j < n) (hb : es[j]? = some b) : ∃ h, zcD (es.take n) b.word = some h := by
 cases q : zcD (es.take n) b.word with
 | some h => exact ⟨h, rfl⟩
 | none =>
  exfalso
  unfold zcD at q
  rw [Option.map_eq_none_iff, List.find?_eq_none] at q
  have := q b (List.mem_of_getElem? (by rw [List.getElem?_take, if_pos hj]; exact hb))
  simp at this
theorem hdFirst_take {es : List Entry} {n m : Nat} {w : Str} {h : Head} (hnm : n ≤ m) (q : zcD (es.take n) w = some h) : zcD (es.take m) w = some h := by
 have e : es.take m = es.take n ++ (es.take m).drop n := by
  conv => lhs; rw [← List.take_append_drop n (es.take m), List.take_take, Nat.min_eq_left hnm]
 unfold zcD at q ⊢
 rw [e, List.find?_append]
 cases f : (es.take n).find? fun y => decide (y.word = w) with
 | some z => rw [f] at q; simpa using q
 | none => rw [f] at q; cases q
def ziB (es : List Entry) (i j : Nat) : List Str := match es[i]?, es[j]? with
 | some a, some b => if a.word = b.word ∧ a.head ≠ b.head then [a.word] else []
 | _, _ => []
def pairRow (es : List Entry) (i : Nat) : List Str := (List.range i).flatMap (ziB es i)
def zhc (es : List Entry) (n : Nat) : List Str := (List.range n).flatMap (pairRow es)
theorem pairAt_some {es : List Entry} {i j : Nat} {a b : Entry} (ha : es[i]? = some a) (hb : es[j]? = some b) : ziB es i j = if a.word = b.word ∧ a.head ≠ b.head then [a.word] else [] := by simp only [ziB, ha, hb]
theorem pairAt_len (es : List Entry) (i j : Nat) : (ziB es i j).length ≤ 1 := by
 unfold ziB
 split
 ·split <;> simp
 simp
theorem pairs_len (es : List Entry) : ∀ n, n ≤ es.length → (zhc es n).length ≤ es.length * n
 | 0, _ => by simp [zhc]
 | n + 1, h => by
  have ih := pairs_len es n (by omega)
  have h1 := zcW (pairAt_len es n) n
  have h2 : (pairRow es n).length ≤ n := by rw [pairRow]; omega
  rw [zhc, zcA, List.length_append, Nat.mul_succ]
  have : (zhc es n).length = ((List.range n).flatMap (pairRow es)).length := rfl
  omega
theorem mem_pairs {es : List Entry} {n : Nat} {w : Str} : w ∈ zhc es n ↔ ∃ i j a b, i < n ∧ j < i ∧ es[i]? = some a ∧ es[j]? = some b ∧ a.word = w ∧ b.word = w ∧ a.head ≠ b.head := by
 simp only [zhc, pairRow, List.mem_flatMap, List.mem_range]
 constructor
 ·rintro ⟨i, hi, j, hj, hw⟩
  unfold ziB at hw
  split at hw
  ·rename_i a b ha hb
   split at hw
   ·rename_i hc
    simp only [List.mem_singleton] at hw
    exact ⟨i, j, a, b, hi, hj, ha, hb, hw.symm, by rw [← hc.1, hw], hc.2⟩
   ·cases hw
  ·cases hw
 rintro ⟨i, j, a, b, hi, hj, ha, hb, h1, h2, h3⟩
 refine ⟨i, hi, j, hj, ?_⟩
 rw [pairAt_some ha hb, if_pos ⟨h1.trans h2.symm, h3⟩, h1]
 simp
theorem mem_homs {es : List Entry} {w : Str} : ∀ {n : Nat}, w ∈ zhd es n ↔ ∃ i a h, i < n ∧ es[i]? = some a ∧ a.word = w ∧ zcD (es.take i) w = some h ∧ h ≠ a.head
 | 0 => by simp [zhd]
 | n + 1 => by
  rw [zhd, List.mem_append, mem_homs (n := n)]
  constructor
  ·rintro (⟨i, a, h, hi, q⟩ | hw)
   ·exact ⟨i, a, h, by omega, q⟩
   ·split at hw
    ·rename_i y hy
     unfold homAt at hw
     split at hw
     ·rename_i h hh
      split at hw
      ·rename_i hne
       simp only [List.mem_singleton] at hw
       exact ⟨n, y, h, by omega, hy, hw.symm, by rw [hw]; exact hh, hne⟩
      ·cases hw
     ·cases hw
    ·cases hw
  ·rintro ⟨i, a, h, hi, ha, h1, h2, h3⟩
   rcases Nat.lt_or_ge i n with q | q
   ·exact .inl ⟨i, a, h, q, ha, h1, h2, h3⟩
   ·obtain rfl : i = n := by omega
    right
    subst h1
    simp only [ha, homAt, h2, if_pos h3]
    simp
theorem homs_pairs (es : List Entry) : setL sLt (zhd es es.length) = setL sLt (zhc es es.length) := by
 refine strict_eq sLt_T (setL_sorted sLt_T _) (setL_sorted sLt_T _) fun w => ?_
 rw [setL_mem, setL_mem, mem_homs, mem_pairs]
 constructor
 ·rintro ⟨i, a, h, hi, ha, h1, h2, h3⟩
  obtain ⟨j, b, hj, hb, e1, e2⟩ := hdFirst_some h2
  exact ⟨i, j, a, b, hi, hj, ha, hb, h1, e1, by rw [e2]; exact Ne.symm h3⟩
 rintro ⟨i, j, a, b, hi, hj, ha, hb, h1, h2, h3⟩
 obtain ⟨h0, q0⟩ := hdFirst_is (es := es) hj hb
 rw [h2] at q0
 by_cases e : h0 = a.head
 ·cases q : zcD (es.take j) w with
  | some h4 =>
   have := hdFirst_take (Nat.le_of_lt hj) q
   rw [q0] at this
   have e4 : h0 = h4 := Option.some.inj this
   exact ⟨j, b, h4, by omega, hb, h2, q, by rw [← e4, e]; exact h3⟩
  | none =>
   exfalso
   have := ziD (es.take j) b w
   rw [q] at this
   simp only [if_pos h2] at this
   rw [← zbb hb] at this
   have := hdFirst_take (show j + 1 ≤ i by omega) this
   rw [q0] at this
   exact h3 (by rw [← e]; exact Option.some.inj this)
 exact ⟨i, a, h0, hi, ha, h1, q0, e⟩
def homR (t : Text) (x : Lexicon) : List Str := if zaQ t x = 0 then setL sLt (zhd (zbt t x) (zbt t x).length) else []
def lessX (x : Lexicon) (n : Int) : Lexicon := { x with decisions := x.decisions.filter fun d => decide (d.number ≠ n) }
theorem lexiconB_of {t : Text} {x y : Lexicon} (h : zaQ t x = 0) (hr : y.rules = x.rules) (hd : ∀ d ∈ y.decisions, zaq t d = true) (hl : y.decisions.length ≤ 20) (hn : (y.decisions.map (·.number)).Nodup) : zaQ t y = 0 := by
 obtain ⟨h1, h2⟩ := zhw h
 have h3 : zck t y = true := by
  simp only [zck, Bool.and_eq_true, decide_eq_true_eq, List.all_eq_true] at h2 ⊢
  exact ⟨⟨⟨⟨by rw [hr]; exact h2.1.1.1.1, hl⟩, by rw [hr]; exact h2.1.1.2⟩, hd⟩, hn⟩
 simp [zaQ, h1, h3]
theorem zhx {t : Text} {x : Lexicon} (h : zaQ t x = 0) : x.rules.length ≤ 12 := by
 have h1 := (zhw h).2
 simp only [zck, Bool.and_eq_true, decide_eq_true_eq] at h1
 exact h1.1.1.1.1
def idleB (t : Text) (x : Lexicon) (n : Int) : Bool := decide ((lessX x n).decisions.length < x.decisions.length) && decide (zeG t (lessX x n) = zeG t x)
def natI (k : Nat) : Int := (k : Int) + 1
def idleK (t : Text) (x : Lexicon) (k : Nat) : List Int := ((List.range k).map natI).filter (idleB t x)
def idleR (t : Text) (x : Lexicon) : List Int := idleK t x 999
def idleN (t : Text) (x : Lexicon) : List Int := if zaQ t x = 0 then idleR t x else []
def idleP (t : Text) (x : Lexicon) (d : Decision) : Bool := decide (zbt t (lessX x d.number) = zbt t x)
def moreX (x : Lexicon) (d : Decision) : Lexicon := { x with decisions := x.decisions ++ [d] }
def ascD (l : List Decision) : List Decision := l.mergeSort fun a b => decide (a.number ≤ b.number)
def addX (x : Lexicon) (d : Decision) : Lexicon := { x with decisions := ascD (x.decisions ++ [d]) }
def addE (t : Text) (x : Lexicon) (d : Decision) : Int := if zaQ t x ≠ 0 then zaQ t x else if x.decisions.length = 20 then 9 else if zaQ t (moreX x d) ≠ 0 then 41 else 0
def zec : Lexicon := ⟨[], []⟩
def addN (t : Text) (x : Lexicon) (d : Decision) : Lexicon := if addE t x d = 0 then addX x d else zec
theorem ascD_perm (l : List Decision) : (ascD l).Perm l := List.mergeSort_perm _ _
theorem ascD_sorted (l : List Decision) : (ascD l).Pairwise fun a b => a.number ≤ b.number := by
 have h := List.pairwise_mergeSort (le := fun a b : Decision => decide (a.number ≤ b.number)) (by intro a b c h1 h2; simp at *; omega) (by intro a b; simp; omega) l
 exact h.imp (fun h => by simpa using h)
theorem ascD_eq {l ys : List Decision} (hp : ys.Perm l) (hs : ys.Pairwise fun a b => a.number ≤ b.number) (hn : (l.map (·.number)).Nodup) : ys = ascD l := by
 refine List.Perm.eq_of_pairwise (le := fun a b : Decision => a.number ≤ b.number) ?_ hs (ascD_sorted l) (hp.trans (ascD_perm l).symm)
 intro a b ha hb h1 h2
 exact nodup_key hn (hp.mem_iff.1 ha) ((ascD_perm l).mem_iff.1 hb) (by omega)
theorem addE_zero {t : Text} {x : Lexicon} {d : Decision} (h : addE t x d = 0) : zaQ t x = 0 ∧ ¬ x.decisions.length = 20 ∧ zaQ t (moreX x d) = 0 := by
 unfold addE at h
 split at h
 ·rename_i q; exact absurd h q
 rename_i q
 split at h
 ·cases h
 rename_i q2
 split at h
 ·cases h
 rename_i q3
 exact ⟨by simpa using q, q2, by simpa using q3⟩
theorem addX_check {t : Text} {x : Lexicon} {d : Decision} (h : zaQ t (moreX x d) = 0) : zaQ t (addX x d) = 0 := by
 have hp := ascD_perm (x.decisions ++ [d])
 refine lexiconB_of h rfl (fun e he => lexicon_dec h e (hp.mem_iff.1 he)) ?_ ?_
 ·have := zeF h
  rw [show (addX x d).decisions.length = (moreX x d).decisions.length from hp.length_eq]; exact this
 exact (hp.map _).nodup_iff.2 (zgF h).1
def changesP (t : Text) (x : Lexicon) (d : Decision) : List Place := (zcj t).filter fun p => decide (zhZ t (addX x d) p ≠ zhZ t x p)
def changesR (t : Text) (x : Lexicon) (d : Decision) : List Place := if addE t x d = 0 then changesP t x d else []
theorem hom_keep {es : List Entry} {n : Nat} {y : Entry} (h : es[n]? = some y) {m : List (Str × Head)} (hm : ∀ w, look m w = zcD (es.take n) w) (h1 : (look m y.word).isSome = true) : ∀ w, look m w = zcD (es.take (n + 1)) w := by
 obtain ⟨z, hz⟩ := Option.isSome_iff_exists.1 h1
 exact hdFirst_keep h hm ((hm _).symm.trans hz)
theorem hom_put {es : List Entry} {n : Nat} {y : Entry} (h : es[n]? = some y) {m : List (Str × Head)} (hm : ∀ w, look m w = zcD (es.take n) w) (h1 : (look m y.word).isSome = true → (look m y.word).getD zdc = y.head) : ∀ w, look (putM m y.word y.head) w = zcD (es.take (n + 1)) w := by
 refine hdFirst_put h hm fun z hz => ?_
 rw [← hm] at hz
 rw [hz] at h1
 exact h1 rfl
theorem homAt_yes {es : List Entry} {y : Entry} {m : List (Str × Head)} (hm : ∀ w, look m w = zcD es w) (h1 : (look m y.word).isSome = true) (h2 : (look m y.word).getD zdc ≠ y.head) : homAt es y = [y.word] := by
 obtain ⟨z, hz⟩ := Option.isSome_iff_exists.1 h1
 rw [hz] at h2
 rw [hm] at hz
 simp only [homAt, hz]
 exact if_pos h2
theorem homAt_no {es : List Entry} {y : Entry} {m : List (Str × Head)} (hm : ∀ w, look m w = zcD es w) (h1 : (look m y.word).isSome = true → (look m y.word).getD zdc = y.head) : homAt es y = [] := by
 unfold homAt
 rw [← hm]
 cases hz : look m y.word with
 | none => rfl
 | some z =>
  rw [hz] at h1
  simp only []
  exact if_neg (fun q => q (h1 rfl))
theorem entries_length (t : Text) (x : Lexicon) : (zbt t x).length = (zcj t).length := by rw [zbt, List.length_map]
theorem heads_length (t : Text) (x : Lexicon) : (zeG t x).length = (zcj t).length := by rw [zeG, List.length_map]
theorem head_pl {t : Text} {x : Lexicon} {i : Nat} {p : Place} {a : Head} (hp : (zcj t)[i]? = some p) (ha : (zeG t x)[i]? = some a) : a = zhZ t x p := by
 rw [zeG, List.getElem?_map, hp] at ha
 exact (Option.some.inj ha).symm
theorem entry_pl {t : Text} {x : Lexicon} {i : Nat} {p : Place} (hp : (zcj t)[i]? = some p) : (zbt t x)[i]? = some (entryAt t x p) := by
 rw [zbt, List.getElem?_map, hp]; rfl
theorem pair_pl {t : Text} {x : Lexicon} {i k : Nat} {p q : Place} {a b : Head} (hp : (zcj t)[i]? = some p) (hq : (zcj t)[k]? = some q) (ha : (zeG t x)[i]? = some a) (hb : (zeG t x)[k]? = some b) : ziB (zbt t x) i k = if zbC t p = zbC t q ∧ a ≠ b then [zbC t p] else [] := by
 rw [pairAt_some (entry_pl hp) (entry_pl hq), head_pl hp ha, head_pl hq hb]
 rfl
theorem addE_bad {t : Text} {x : Lexicon} {d : Decision} (h : ¬ zaQ t x = 0) : addE t x d = zaQ t x ∧ addN t x d = zec := by
 have e : addE t x d = zaQ t x := if_pos h
 exact ⟨e, by rw [addN, e]; exact if_neg h⟩
theorem addE_full {t : Text} {x : Lexicon} {d : Decision} (h : zaQ t x = 0) (h2 : x.decisions.length = 20) : addE t x d = 9 ∧ addN t x d = zec := by
 have e : addE t x d = 9 := by rw [addE, if_neg (fun q => q h), if_pos h2]
 exact ⟨e, by rw [addN, e]; rfl⟩
theorem addE_err {t : Text} {x : Lexicon} {d : Decision} (h : zaQ t x = 0) (h2 : ¬ x.decisions.length = 20) (h3 : ¬ zaQ t (moreX x d) = 0) : addE t x d = 41 ∧ addN t x d = zec := by
 have e : addE t x d = 41 := by rw [addE, if_neg (fun q => q h), if_neg h2, if_pos h3]
 exact ⟨e, by rw [addN, e]; rfl⟩
theorem addE_ok {t : Text} {x : Lexicon} {d : Decision} (h : zaQ t x = 0) (h2 : ¬ x.decisions.length = 20) (h3 : zaQ t (moreX x d) = 0) : addE t x d = 0 ∧ addN t x d = addX x d := by
 have e : addE t x d = 0 := by rw [addE, if_neg (fun q => q h), if_neg h2, if_neg (fun q => q h3)]
 exact ⟨e, by rw [addN, e]; rfl⟩
theorem more_bad {t : Text} {x : Lexicon} (ht : zbu t = true) (h : zck t x = false) : ¬ zaQ t x = 0 := by simp [zaQ, ht, h]
theorem more_ok {t : Text} {x : Lexicon} (ht : zbu t = true) (h : zck t x = true) : zaQ t x = 0 := by simp [zaQ, ht, h]
end Go.Pk

namespace Go.Pk
open Go Go.RowKit
def insK (ds : List Decision) (i k : Nat) (y : Decision) : List Decision := ds.take k ++ y :: ((ds.take i).drop k ++ ds.drop (i + 1))
theorem insK_start {ds : List Decision} {i : Nat} {y : Decision} (h : ds[i]? = some y) : insK ds i i y = ds := by
 rw [insK, List.drop_eq_nil_of_le (by rw [List.length_take]; omega), List.nil_append, ← zdM h, List.take_append_drop]
theorem insK_perm {ds : List Decision} {i k : Nat} {y : Decision} (h : ds[i]? = some y) (hk : k ≤ i) : (insK ds i k y).Perm ds := by
 have e : ds.take i = ds.take k ++ (ds.take i).drop k := by
  conv => lhs; rw [← List.take_append_drop k (ds.take i), List.take_take, Nat.min_eq_left hk]
 have h1 : ds = ds.take k ++ ((ds.take i).drop k ++ y :: ds.drop (i + 1)) := by
  rw [← List.append_assoc, ← e, ← zdM h, List.take_append_drop]
 conv => rhs; rw [h1]
 rw [insK]
 exact List.Perm.append_left _ List.perm_middle.symm
theorem zfE {ds : List Decision} {i k : Nat} {y : Decision} (h : ds[i]? = some y) (hk : k ≤ i) : (insK ds i k y).length = ds.length := (insK_perm h hk).length_eq
theorem insK_at {ds : List Decision} {i k : Nat} {y : Decision} (h : ds[i]? = some y) (hk : k ≤ i) : (insK ds i k y)[k]? = some y := by
 obtain ⟨h1, _⟩ := List.getElem?_eq_some_iff.1 h
 have hl : (ds.take k).length = k := by rw [List.length_take]; omega
 rw [insK, List.getElem?_append_right (by omega), hl, Nat.sub_self]
 rfl
theorem insK_pred {ds : List Decision} {i k : Nat} {y : Decision} (h : ds[i]? = some y) (hk : k ≤ i) (h0 : 0 < k) : (insK ds i k y)[k - 1]? = ds[k - 1]? := by
 obtain ⟨h1, _⟩ := List.getElem?_eq_some_iff.1 h
 rw [insK, List.getElem?_append_left (by rw [List.length_take]; omega), List.getElem?_take, if_pos (by omega)]
theorem insK_step {ds : List Decision} {i k : Nat} {y z : Decision} (h : ds[i]? = some y) (hk : k ≤ i) (h0 : 0 < k) (hz : ds[k - 1]? = some z) : ((insK ds i k y).set k z).set (k - 1) y = insK ds i (k - 1) y := by
 obtain ⟨m, rfl⟩ : ∃ m, k = m + 1 := ⟨k - 1, by omega⟩
 rw [Nat.add_sub_cancel] at hz ⊢
 obtain ⟨h1, _⟩ := List.getElem?_eq_some_iff.1 h
 have hl : (ds.take m).length = m := by rw [List.length_take]; omega
 have hzi : (ds.take i)[m]? = some z := by rw [List.getElem?_take, if_pos (by omega)]; exact hz
 rw [insK, insK, zbb hz, zdM hzi]
 have e1 : (ds.take m ++ [z] ++ y :: ((ds.take i).drop (m + 1) ++ ds.drop (i + 1))).set (m + 1) z = ds.take m ++ [z] ++ z :: ((ds.take i).drop (m + 1) ++ ds.drop (i + 1)) := by
  have hl2 : (ds.take m ++ [z]).length = m + 1 := by simp [hl]
  rw [List.set_append_right _ _ (by omega), hl2, Nat.sub_self, List.set_cons_zero]
 rw [e1, List.append_assoc, List.set_append_right _ _ (by omega), hl, Nat.sub_self]
 rfl
def zgR (ds : List Decision) (i : Nat) : Prop := (ds.take i).Pairwise fun a b => a.number ≤ b.number
theorem sorted_one (ds : List Decision) : zgR ds 1 := by
 unfold zgR
 cases ds with
 | nil => simp
 | cons d ds => simp
theorem insK_sorted {ds : List Decision} {i k : Nat} {y : Decision} (h : ds[i]? = some y) (hk : k ≤ i) (hs : zgR ds i) (hg : ∀ z ∈ (ds.take i).drop k, y.number < z.number) (hle : 0 < k → ∀ z, ds[k - 1]? = some z → z.number ≤ y.number) : zgR (insK ds i k y) (i + 1) := by
 obtain ⟨h1, _⟩ := List.getElem?_eq_some_iff.1 h
 unfold zgR at hs ⊢
 have e : (insK ds i k y).take (i + 1) = ds.take k ++ y :: (ds.take i).drop k := by
  have hl : (ds.take k ++ y :: (ds.take i).drop k).length = i + 1 := by simp; omega
  rw [insK, show ds.take k ++ y :: ((ds.take i).drop k ++ ds.drop (i + 1)) = (ds.take k ++ y :: (ds.take i).drop k) ++ ds.drop (i + 1) by simp, List.take_append_of_le_length (by omega), List.take_of_length_le (by omega)]
 have e2 : ds.take i = ds.take k ++ (ds.take i).drop k := by
  conv => lhs; rw [← List.take_append_drop k (ds.take i), List.take_take, Nat.min_eq_left hk]
 rw [e2] at hs
 obtain ⟨s1, s2, s3⟩ := List.pairwise_append.1 hs
 rw [e]
 refine List.pairwise_append.2 ⟨s1, List.pairwise_cons.2 ⟨fun z hz => by have := hg z hz; omega, s2⟩, fun a ha b hb => ?_⟩
 rcases List.mem_cons.1 hb with rfl | hb
 ·-- all ahead of k are at most the last of these
  cases k with
  | zero => simp at ha
  | succ m =>
   obtain ⟨z, hz⟩ : ∃ z, ds[m]? = some z := ⟨_, List.getElem?_eq_getElem (by omega)⟩
   have hzb := hle (by omega) z (by simpa using hz)
   rw [zbb hz] at s1 ha
   rcases List.mem_append.1 ha with ha | ha
   ·have := (List.pairwise_append.1 s1).2.2 a ha z (by simp)
    omega
   ·simp at ha; subst ha; exact hzb
 exact s3 a ha b hb
theorem insK_gt {ds : List Decision} {i k : Nat} {y z : Decision} (hk : k ≤ i) (h0 : 0 < k) (hz : ds[k - 1]? = some z) (hyz : y.number < z.number) (hg : ∀ z ∈ (ds.take i).drop k, y.number < z.number) : ∀ z ∈ (ds.take i).drop (k - 1), y.number < z.number := by
 obtain ⟨m, rfl⟩ : ∃ m, k = m + 1 := ⟨k - 1, by omega⟩
 rw [Nat.add_sub_cancel] at hz ⊢
 have hzi : (ds.take i)[m]? = some z := by rw [List.getElem?_take, if_pos (by omega)]; exact hz
 rw [zdM hzi]
 intro u hu
 rcases List.mem_cons.1 hu with rfl | hu
 ·exact hyz
 exact hg u hu
theorem ascD_of {l ds : List Decision} {i : Nat} (hp : ds.Perm l) (hs : zgR ds i) (hi : ds.length ≤ i) (hn : (l.map (·.number)).Nodup) : ds = ascD l := by
 unfold zgR at hs
 rw [List.take_of_length_le hi] at hs
 exact ascD_eq hp hs hn
end Go.Pk

namespace Go.Pk
open Go Go.RowKit
def winV (x : Lexicon) (p : Place) (wd : Str) : Decision :=
 if (zaW ((x.decisions.filter (zdH x)).filter fun d => zds d p wd)).number = 0 then { zbf with to := ⟨((zcZ x.rules 4 wd).getLast?).getD [], 0⟩ } else zaW ((x.decisions.filter (zdH x)).filter fun d => zds d p wd)
def headV (t : Text) (x : Lexicon) (p : Place) : Head := (winV x p (zbC t p)).to
def entryV (t : Text) (x : Lexicon) (p : Place) : Entry := ⟨p, zbC t p, headV t x p⟩
def headsV (t : Text) (x : Lexicon) : List Head := (zcj t).map (headV t x)
def entriesV (t : Text) (x : Lexicon) : List Entry := (zcj t).map (entryV t x)
def underV (t : Text) (x : Lexicon) (hd : Head) : List Place := (zcj t).filter fun p => decide (headV t x p = hd)
def homV (t : Text) (x : Lexicon) : List Str := setL sLt (zhd (entriesV t x) (zcj t).length)
def idleV (t : Text) (x : Lexicon) (n : Int) : Bool := decide ((lessX x n).decisions.length < x.decisions.length) && decide (headsV t (lessX x n) = headsV t x)
def changesV (t : Text) (x y : Lexicon) : List Place := (zcj t).filter fun p => decide (headV t y p ≠ headV t x p)
def wThe : Str := [116, 104, 101]
def wSea : Str := [115, 101, 97]
def wSee : Str := [115, 101, 101]
def wIs : Str := [105, 115]
def wOld : Str := [111, 108, 100]
def wOlde : Str := [111, 108, 100, 101]
def wAnd : Str := [97, 110, 100]
def wAge : Str := [97, 103, 101]
def textE : Text := ⟨[⟨7, [[wThe, wSea, wIs, wOld], [wOld, wThe, wSea]]⟩, ⟨3, [[wSea, wAnd, wSea]]⟩]⟩
def rulesE : List Rule := [⟨[115], [], 2⟩, ⟨[108, 100], [108, 100, 101], 1⟩]
def d1E : Decision := ⟨1, 1, wSea, zdB, ⟨wSea, 1⟩, 0⟩
def d2E : Decision := ⟨2, 2, wOld, ⟨0, 1, 0⟩, ⟨wAge, 3⟩, 0⟩
def d3E : Decision := ⟨3, 3, [], ⟨1, 0, 2⟩, ⟨wSee, 2⟩, 0⟩
def d4E : Decision := ⟨4, 1, wSea, zdB, ⟨wSee, 2⟩, 0⟩
def d5E : Decision := ⟨5, 4, [], zdB, zdc, 3⟩
def lexE (more : List Decision) : Lexicon := ⟨rulesE, [d1E, d2E, d3E] ++ more⟩
end Go.Pk

namespace Go.Pk
open Go Go.RowKit
def countV (x : Lexicon) (p : Place) (wd : Str) : List Decision := (x.decisions.filter (zdH x)).filter fun d => zds d p wd
end Go.Pk

namespace Go.Pk
open Go Go.RowKit
def standS (x : Lexicon) : List Int := (zch x).map (·.number)
def cntQ {α : Type} (q : α → Bool) (l : List α) (i : Nat) : Nat := ((l.take i).filter q).length
end Go.Pk

namespace Go.Pk
open Go Go.RowKit
def voidD (n o : Int) : Decision := ⟨n, 4, [], zdB, zdc, o⟩
section
variable {t : Text} {x : Lexicon} {d : Decision} {most : Int}
end
end Go.Pk

namespace Go.Pk
open Go Go.RowKit
def zRule : Rule := ⟨[], [], 0⟩
def chooseN (l : List Int) (i : Nat) : Int := (l[i % l.length]?).getD 0
end Go.Pk

namespace Go.Pk
open Go Go.RowKit
theorem at_word {t : Text} {p : Place} (ht : zbu t = true) : (if zbu t = true then (zgA t p).getD [] else []) = zbC t p := by rw [if_pos ht]; rfl
theorem at_err {t : Text} {p : Place} (ht : zbu t = true) (hp : zbB t p = true) : (if (zbu t && zbB t p) = true then (0 : Int) else if zbu t = true then 12 else 10) = 0 := by rw [if_pos (by rw [ht, hp]; rfl)]
def trM (l : List Int) : List (Int × Bool) := l.map fun n => (n, true)
def wonF (l : List Decision) (n : Int) : Decision := l.foldl (fun a d => if d.number = n then d else a) zbf
def someS (x : Lexicon) (p : Place) (wd : Str) (d : Decision) : Bool := decide (d.number ∈ standS x) && zds d p wd
def zdU (l : List Decision) : Int := l.foldl (fun a d => max a d.number) 0
theorem mostN_snoc {l : List Decision} {k : Nat} {d : Decision} (h : l[k]? = some d) : zdU (l.take (k + 1)) = max (zdU (l.take k)) d.number := by rw [zdU, zbb h, List.foldl_append]; rfl
theorem mostI_snoc {l : List Decision} {k : Nat} {d : Decision} (h : l[k]? = some d) : maxI (zdU (l.take k)) d.number = zdU (l.take (k + 1)) := by
 rw [mostN_snoc h, maxI]; split <;> omega
theorem fold_max : ∀ (l : List Decision) (a : Int), a ≤ l.foldl (fun a d => max a d.number) a ∧ ∀ d ∈ l, d.number ≤ l.foldl (fun a d => max a d.number) a
 | [], a => ⟨Int.le_refl _, fun d hd => by cases hd⟩
 | e :: l, a => by
  have ⟨h1, h2⟩ := fold_max l (max a e.number)
  rw [List.foldl_cons]
  refine ⟨by omega, fun d hd => ?_⟩
  rcases List.mem_cons.1 hd with rfl | hd
  ·omega
  ·exact h2 d hd
theorem fold_max_le : ∀ (l : List Decision) (a b : Int), a ≤ b → (∀ d ∈ l, d.number ≤ b) → l.foldl (fun a d => max a d.number) a ≤ b
 | [], a, b, h, _ => h
 | e :: l, a, b, h, h2 => by
  rw [List.foldl_cons]
  exact fold_max_le l _ b (by have := h2 e List.mem_cons_self; omega) fun d hd => h2 d (List.mem_cons_of_mem _ hd)
theorem mostN_pos (l : List Decision) : 0 ≤ zdU l := (fold_max l 0).1
theorem all_snoc {α : Type} {P : α → Prop} {l : List α} {k : Nat} {a : α} (h : ∀ o ∈ l.take k, P o) (ha : l[k]? = some a) (hp : P a) : ∀ o ∈ l.take (k + 1), P o := by
 intro o ho
 rw [zbb ha, List.mem_append] at ho
 rcases ho with ho | ho
 ·exact h o ho
 simp at ho; rw [ho]; exact hp
theorem small_of {t : Text} {x : Lexicon} (h : zaQ t x = 0) : zeZ x = true := by
 have h1 := (zhw h).2
 simp only [zck, Bool.and_eq_true, List.all_eq_true, decide_eq_true_eq] at h1
 obtain ⟨⟨⟨⟨a, b⟩, c⟩, d⟩, _⟩ := h1
 simp only [zeZ, Bool.and_eq_true, List.all_eq_true, decide_eq_true_eq]
 refine ⟨⟨⟨by omega, by omega⟩, fun r hr => ?_⟩, fun e he => ?_⟩
 ·have q := c r hr
  simp only [zgt, Bool.and_eq_true, zcG, inB, decide_eq_true_eq] at q
  simp only [smallR, Bool.and_eq_true, decide_eq_true_eq]
  omega
 have q := d e he
 simp only [zaq, Bool.and_eq_true] at q
 have q2 := q.2
 simp only [smallD, Bool.and_eq_true, decide_eq_true_eq]
 split at q2
 ·simp only [Bool.and_eq_true, zdV] at q2
  have a := zho q2.1.1.1; have b := zho q2.1.2.1; omega
 split at q2
 ·simp only [Bool.and_eq_true, zdV] at q2
  have a := zho q2.1.1.1; have b := zho q2.1.2.1; omega
 split at q2
 ·simp only [Bool.and_eq_true, zdV, decide_eq_true_eq] at q2
  have b := zho q2.1.2.1
  have a := q2.1.1.1
  rw [a]; simp; omega
 split at q2
 ·simp only [Bool.and_eq_true, decide_eq_true_eq] at q2
  have a := q2.1.1.1; have b := q2.1.2
  rw [a, b]; simp [zdc]
 cases q2
def chQ (t : Text) (x : Lexicon) (d : Decision) (p : Place) : Bool := decide (zhZ t (addX x d) p ≠ zhZ t x p)
section
variable {t : Text} {x : Lexicon} {d : Decision}
def cdQ (x y : Lexicon) (p : Place) (wd : Str) (o : Decision) : Bool := (decide (o.number ∈ standS x) != decide (o.number ∈ standS y)) && zds o p wd
theorem addN_check (h : addE t x d = 0) : zaQ t (addN t x d) = 0 := by
 rw [show addN t x d = addX x d by rw [addN, if_pos h]]
 exact addX_check (addE_zero h).2.2
end
end Go.Pk

namespace Go.Pk
open Go Go.RowKit
theorem St.setAt {h0 h : Heap} {w0 w : World} {A C : Own} {b : Nat} {o : Obj} (st : St h0 w0 h w (A ++ [(b, o)] :: C)) (o' : Obj) : St h0 w0 h (w.putObj b o') (A ++ [(b, o')] :: C) := by
 have := st.set (k := A.length) (b := b) (o := o) o' (by simp)
 have e : (A ++ [(b, o)] :: C).set A.length [(b, o')] = A ++ [(b, o')] :: C := by
  rw [List.set_append_right _ _ (Nat.le_refl _), Nat.sub_self, List.set_cons_zero]
 rw [e] at this; exact this
theorem St.at {h0 h : Heap} {w0 w : World} {A C : Own} {b : Nat} {o : Obj} (st : St h0 w0 h w (A ++ [(b, o)] :: C)) : w.heap[b]? = some o := st.get (k := A.length) (by simp)
def Yields (P : Program) (l : Nat) (args : Array Value) (w : World) (R : Value → World → Prop) : Prop :=
 ∃ fn tmps assign body, (Instr.yield l args).run P w = .ok (.round l fn tmps assign body) w ∧ RoundIn Fence.wide 0 P l fn tmps assign body w fun e w' => ∃ v, e = .returned v ∧ R v w'
theorem OpsL.yields {P : Program} {n : Nat} {ops : Array Oper} {rest : List Oper} {K : Env → World → Prop} {σ : Env} {w : World} {o : Oper} {x : Operand} {args : Array Operand} {ats : Array TypeId} {l : Nat} {vs : List Value}
  (ho : o.op = .call ⟨.value x, args, ats⟩) (hg : o.guard = none) (hd : zfF n o.dst = true) (hx : ev σ x = .func (.yield l) #[] #[]) (hv : args.toList.map (ev σ) = vs)
  (h : Yields P l vs.toArray w fun v w' => OpsL P n ops rest K (updO σ o.dst v) w') : OpsL P n ops (o :: rest) K σ w := by
 obtain ⟨fn, tmps, assign, body, hr, hR⟩ := h
 refine OpsL.round (l := l) (f := fn) (tmps := tmps) (assign := assign) (body := body) (w' := w) hg hd ?_ hR
 subst hv
 have e : args.map (ev σ) = (args.toList.map (ev σ)).toArray := amap (ev σ) args
 rw [← e] at hr
 unfold execOp
 simp [ho, resolve, hx, invoke, callFunc, hr, go_sem]
theorem St.tl {h0 h : Heap} {w0 w : World} {o : List (Nat × Obj)} {own : Own} (st : St h0 w0 h w (o :: own)) : St h0 w0 h w own := by
 have s := st.drop 0
 rw [List.set_cons_zero] at s
 exact ⟨s.le, s.new, s.sub, s.below, fun p hp => s.mine p (by simpa using hp), by simpa using s.nodup⟩
theorem Yields.mono {P : Program} {l : Nat} {args : Array Value} {w : World} {R R' : Value → World → Prop} (h : Yields P l args w R) (hr : ∀ v w', R v w' → R' v w') : Yields P l args w R' := by
 obtain ⟨fn, tmps, assign, body, hrun, hR⟩ := h
 exact ⟨fn, tmps, assign, body, hrun, RoundIn.mono hR fun e w' ⟨v, he, h⟩ => ⟨v, he, hr v w' h⟩⟩
theorem zgp {P : Program} {n : Nat} {ops : Array Oper} {rest : List Oper} {K : Env → World → Prop} {σ : Env} {w : World} {o : Oper} {x : Operand} {args : Array Operand} {ats : Array TypeId} {l : Nat} {vs : List Value} {h0 h1 : Heap} {w0 : World} {B : Own} {J1 J2 : Heap → Own → Prop}
  (ho : o.op = .call ⟨.value x, args, ats⟩) (hg : o.guard = none) (hd : zfF n o.dst = true) (hx : ev σ x = .func (.yield l) #[] #[]) (hv : args.toList.map (ev σ) = vs)
  (h : Yields P l vs.toArray w fun v w2 => ∃ h2 rest2, Le h1 h2 ∧ St h0 w0 h2 w2 (B ++ rest2) ∧ ((v = .bool true ∧ J1 h2 rest2) ∨ (v = .bool false ∧ J2 h2 rest2)))
  (hk : ∀ b w2 h2 rest2, Le h1 h2 → St h0 w0 h2 w2 (B ++ rest2) → (b = true → J1 h2 rest2) → (b = false → J2 h2 rest2) → OpsL P n ops rest K (updO σ o.dst (.bool b)) w2) : OpsL P n ops (o :: rest) K σ w := by
 refine OpsL.yields ho hg hd hx hv (h.mono ?_)
 rintro v w2 ⟨h2, rest2, le, st, ⟨rfl, hj⟩ | ⟨rfl, hj⟩⟩
 ·exact hk true w2 h2 rest2 le st (fun _ => hj) (fun e => by cases e)
 ·exact hk false w2 h2 rest2 le st (fun e => by cases e) (fun _ => hj)
theorem zdg {P : Program} {n : Nat} {ops : Array Oper} {rest : List Oper} {K : Env → World → Prop} {σ : Env} {w w0 : World} {h0 h : Heap} {own : Own} {o : Oper} {f : FuncId} {x : Operand} {fs cs : List Value} {args : Array Operand} {ats : Array TypeId} {vs : List Value} {Φ : Heap → World → Value → Prop} (st : St h0 w0 h w own) (ho : o.op = .call ⟨.value x, args, ats⟩) (hx : ev σ x = .func (.func f) fs.toArray cs.toArray) (hg : o.guard = none) (hd : zfF n o.dst = true) (hf : ∀ a w, (callFunc f a).run P w = .ok (.enter f a) w)
  (hv : fs ++ args.toList.map (ev σ) ++ cs = vs) (hc : Calls P f vs.toArray w (Rets h w Φ))
  (hk : ∀ v w' h', Le h h' → St h0 w0 h' w' own → Φ h' w' v → OpsL P n ops rest K (updO σ o.dst v) w') : OpsL P n ops (o :: rest) K σ w := by
 refine zaT hg hd (zcb ho hx hf hv) (hc.mono ?_)
 rintro e w' ⟨h', v, rfl, s, hΦ⟩
 exact ⟨v, rfl, hk v w' h' s.le (st.call0 s) hΦ⟩
def Gives {α : Type} (P : Program) (gf : FuncId) (caps : List Value) (A : Heap → Value → α → Prop) (S : List α → Prop) (h0 : Heap) (w0 : World) (h : Heap) : Prop :=
 ∀ (l : Nat) (J Jx : List α → Heap → Own → Prop),
  (∀ xs h1 h2 o, J xs h1 o → Le h1 h2 → J xs h2 o) → (∀ xs h1 h2 o, Jx xs h1 o → Le h1 h2 → Jx xs h2 o) →
  (∀ pre x h1 w1 B rest u, Le h h1 → J pre h1 rest → St h0 w0 h1 w1 (B ++ rest) → A h1 u x → Yields P l #[u] w1 fun v w2 => ∃ h2 rest2, Le h1 h2 ∧ St h0 w0 h2 w2 (B ++ rest2) ∧ ((v = .bool true ∧ J (pre ++ [x]) h2 rest2) ∨ (v = .bool false ∧ Jx (pre ++ [x]) h2 rest2))) →
  ∀ h1 w rest, Le h h1 → J [] h1 rest → St h0 w0 h1 w rest →
   Calls P gf (.func (.yield l) #[] #[] :: caps).toArray w fun e w' => ∃ h' rest' v, e = .returned v ∧ Le h1 h' ∧ St h0 w0 h' w' rest' ∧ ((∃ xs, S xs ∧ J xs h' rest') ∨ (∃ pre, Jx pre h' rest'))

structure FitsD (ds : List Deferred) (n : Nat) (a : Act) (σ : Env) : Prop where
 size : a.tmps.size = n
 defers : a.defers = ds
 at_ : ∀ i, a.tmps.getD i undef = σ i
abbrev VS := List Deferred × Env
theorem FitsD.bare {ds : List Deferred} {n : Nat} {a : Act} {σ : Env} (h : FitsD ds n a σ) : Fits n { a with defers := [] } σ := ⟨h.size, rfl, h.at_⟩
theorem FitsD.eval {ds : List Deferred} {n : Nat} {a : Act} {σ : Env} (h : FitsD ds n a σ) : a.eval = ev σ := by
 funext x; cases x <;> simp only [Act.eval, ev]; exact h.at_ _
def V (F : Fence) (P : Program) (n : Nat) (c : Code) (Q : Exit → VS → World → Prop) (s : VS) (w : World) : Prop :=
 ∀ k a, FitsD s.1 n a s.2 → c.wpIn F k P (fun e a' w' => ∃ s' : VS, FitsD s'.1 n a' s'.2 ∧ Q e s' w') a w
def ThenV (K : VS → World → Prop) (Q : Exit → VS → World → Prop) : Exit → VS → World → Prop
 | .normal, σ, w => K σ w
 | e, σ, w => Q e σ w
def BlkV (id : Nat) (Q : Exit → VS → World → Prop) : Exit → VS → World → Prop
 | .exit id', σ, w => if id' = id then Q .normal σ w else Q (.exit id') σ w
 | e, σ, w => Q e σ w
theorem zcO {K : VS → World → Prop} {Q : Exit → VS → World → Prop} {s : VS} {w : World} (h : K s w) : ThenV K Q .normal s w := h
theorem ThenV.exit {K : VS → World → Prop} {Q : Exit → VS → World → Prop} {s : VS} {w : World} {id : Nat} (h : Q (.exit id) s w) : ThenV K Q (.exit id) s w := h
theorem ThenV.ret {K : VS → World → Prop} {Q : Exit → VS → World → Prop} {s : VS} {w : World} (h : Q .ret s w) : ThenV K Q .ret s w := h
theorem zhn {id : Nat} {Q : Exit → VS → World → Prop} {s : VS} {w : World} (h : Q .normal s w) : BlkV id Q .normal s w := h
theorem BlkV.ret {id : Nat} {Q : Exit → VS → World → Prop} {s : VS} {w : World} (h : Q .ret s w) : BlkV id Q .ret s w := h
section
variable {F : Fence} {P : Program} {n : Nat} {Q : Exit → VS → World → Prop} {s : VS} {w : World}
theorem V.skip (h : Q .normal s w) : V F P n .skip Q s w := fun _ _ ha => wpIn_skip ⟨s, ha, h⟩
theorem V.label {l : Nat} (h : Q .normal s w) : V F P n (.label l) Q s w := fun _ _ ha => wpIn_label ⟨s, ha, h⟩
theorem V.exit {id : Nat} (h : Q (.exit id) s w) : V F P n (.exit id) Q s w := fun _ _ ha => wpIn_exit ⟨s, ha, h⟩
theorem V.ret (h : Q .ret s w) : V F P n .ret Q s w := fun _ _ ha => wpIn_ret ⟨s, ha, h⟩
theorem zhJ {x y : Code} (h : V F P n x (ThenV (V F P n y Q) Q) s w) : V F P n (.seq x y) Q s w := by
 intro k a ha
 refine wpIn_seq (wpIn_mono (h k a ha) ?_)
 rintro e a' w' ⟨s', hf, q⟩
 cases e <;> first | exact q k a' hf | exact ⟨s', hf, q⟩
theorem V.block {id : Nat} {c : Code} (h : V F P n c (BlkV id Q) s w) : V F P n (.block id c) Q s w := by
 intro k a ha
 refine wpIn_block (wpIn_mono (h k a ha) ?_)
 rintro e a' w' ⟨s', hf, q⟩
 cases e with
 | exit id' =>
  simp only [BlkV] at q
  simp only [Exit.inBlock]
  split
  ·rename_i h; rw [if_pos h] at q; exact ⟨s', hf, q⟩
  ·rename_i h; rw [if_neg h] at q; exact ⟨s', hf, q⟩
 | _ => exact ⟨s', hf, q⟩
theorem V.cond {c : Operand} {x y : Code} {t : Bool} (hc : ev s.2 c = .bool t) (ht : t = true → V F P n x Q s w) (hf : t = false → V F P n y Q s w) : V F P n (.cond c x y) Q s w := by
 intro k a ha
 exact wpIn_cond_split (t := t) (by rw [ha.eval]; exact hc) (fun e => ht e k a ha) (fun e => hf e k a ha)
def noDefer : List Oper → Bool
 | [] => true
 | o :: l => (match o.op with | .defer _ => false | _ => true) && noDefer l
theorem noDefer_one {o : Oper} (h : (match o.op with | .defer _ => false | _ => true) = true) : ∀ c, o.op ≠ .defer c := by
 intro c e; rw [e] at h; cases h
theorem listIn_of {ops : Array Oper} {ds : List Deferred} {q : Exit → Act → World → Prop} {q' : Exit → Act → World → Prop} {r : Option Nat} (hq : ∀ e a1 a2 w, a2.tmps = a1.tmps → a2.defers = a1.defers ++ ds → q e a1 w → q' e a2 w) (hn : ∀ e a w, q e a w → e = .normal) {k : Nat} :
  ∀ (l : List Oper) (a1 a2 : Act) (w : World), noDefer l = true → a2.tmps = a1.tmps → a2.defers = a1.defers ++ ds → wpListIn Fence.wide 0 P ops q l a1 w → wpListIn { Fence.wide with round := r } k P ops q' l a2 w
 | [], a1, a2, w, _, h1, h2, h => hq _ _ _ _ h1 h2 h
 | o :: l, a1, a2, w, hd, h1, h2, h => by
  simp only [noDefer, Bool.and_eq_true] at hd
  have ih := fun a1 a2 w => listIn_of (r := r) (ops := ops) hq hn (k := k) l a1 a2 w hd.2
  have hev : a2.eval = a1.eval := by funext x; cases x <;> simp only [Act.eval, h1]
  unfold wpListIn at h ⊢
  rw [h1]
  have hp1 : ∀ (d : Option Tmp) (v : Value), (a2.put d v).tmps = (a1.put d v).tmps := by
   intro d v; cases d <;> simp [Act.put, h1]
  have hp2 : ∀ (d : Option Tmp) (v : Value), (a2.put d v).defers = (a1.put d v).defers ++ ds := by
   intro d v; cases d <;> simp [Act.put, h2]
  split
  ·rename_i hw
   rw [if_pos hw] at h
   obtain ⟨_, h⟩ := h
   refine ⟨fun _ _ => trivial, ?_⟩
   rw [Oper.semAt_eq _ _ _ (noDefer_one hd.1), hev]
   have h : o.uponIn Fence.wide 0 P a1 _ _ ((execOp a1.eval o).run P w) := h
   cases hr : (execOp a1.eval o).run P w with
   | ok nx w' =>
    rw [hr] at h
    cases nx with
    | value v => exact ih _ _ _ (hp1 _ _) (hp2 _ _) h
    | skip => exact ih _ _ _ (hp1 _ _) (hp2 _ _) h
    | defer d =>
     refine ih _ _ _ ?_ ?_ h
     ·cases o.dst <;> simp [Act.put, h1]
     ·cases o.dst <;> simp [Act.put, h2]
    | enter f args =>
     refine ⟨fun hh => absurd hh (by simp [Fence.wide]), ?_⟩
     have h2' := (callsIn_wide (n := k - 1)).2 (callsIn_wide.1 h.2)
     have h3 : CallsIn { Fence.wide with round := r } (k - 1) P f args w' _ := h2'
     refine CallsIn.mono h3 ?_
     intro e w'' he
     cases e with
     | returned v => exact ih _ _ _ (hp1 _ _) (hp2 _ _) he
     | panicked c => exact absurd (hn _ _ _ he) (by simp)
     | outgrown => obtain ⟨_, _, he⟩ := he; exact absurd (hn _ _ _ he) (by simp)
    | round l f tmps assign body =>
     refine ⟨fun hh => absurd hh (by simp [Fence.wide]), ?_⟩
     have h3 : RoundIn { Fence.wide with round := r } (k - 1) P l f tmps assign body w' _ := ⟨trivial, fun c cs _ => h.2.2 c cs (room_wide _)⟩
     refine RoundIn.mono h3 ?_
     intro e w'' he
     cases e with
     | returned v => exact ih _ _ _ (hp1 _ _) (hp2 _ _) he
     | panicked c => exact absurd (hn _ _ _ he) (by simp)
     | outgrown => obtain ⟨_, _, he⟩ := he; exact absurd (hn _ _ _ he) (by simp)
    | row rw_ args =>
     refine ⟨fun hh => absurd hh (by simp [Fence.wide]), ?_⟩
     have h3 : RowsIn { Fence.wide with round := r } (k - 1) P rw_ args w' _ := fun c cs _ => h.2 c cs (room_wide _)
     refine RowsIn.mono h3 ?_
     intro v w'' he
     exact ih _ _ _ (hp1 _ _) (hp2 _ _) he
    | _ => exact h.elim
   | halt x w' =>
    rw [hr] at h
    cases x with
    | panic v => exact absurd (hn _ _ _ h) (by simp)
    | _ => exact h.elim
  ·rename_i hw
   rw [if_neg hw] at h
   obtain ⟨_, h⟩ := h
   exact ⟨fun _ _ => trivial, ih _ _ _ (hp1 _ _) (hp2 _ _) h⟩
theorem zdx {r : Option Nat} {ds : List Deferred} {σ : Env} {id : Nat} {l : List Oper} (hnd : noDefer l = true) (h : OpsL P n l.toArray l (fun σ w => Q .normal (ds, σ) w) σ w) : V { Fence.wide with round := r } P n (.region id l.toArray false) Q (ds, σ) w := by
 intro k a ha
 refine wpIn_region_lit (listIn_of (ds := ds) ?_ ?_ l { a with defers := [] } a w hnd rfl (by simpa using ha.defers) (h _ ha.bare))
 ·rintro e a1 a2 w h1 h2 ⟨rfl, σ', hf, q⟩
  refine ⟨(ds, σ'), ⟨by rw [h1]; exact hf.size, by rw [h2, hf.defers]; rfl, by rw [h1]; exact hf.at_⟩, q⟩
 rintro e a w ⟨rfl, _⟩; rfl
end
theorem V.mono {F : Fence} {P : Program} {n : Nat} {Q Q' : Exit → VS → World → Prop} {s : VS} {w : World} {c : Code} (h : V F P n c Q s w) (hq : ∀ e s w, Q e s w → Q' e s w) : V F P n c Q' s w :=
 fun k a ha => wpIn_mono (h k a ha) fun _ _ _ ⟨s', hf, q⟩ => ⟨s', hf, hq _ _ _ q⟩
theorem V.ofW {P : Program} {n : Nat} {c : Code} {Q : Exit → VS → World → Prop} {σ : Env} {w : World} (h : W P n c (fun e σ' w' => Q e ([], σ') w') σ w) : V Fence.wide P n c Q ([], σ) w := by
 intro k a ha
 have hf : Fits n a σ := ⟨ha.size, ha.defers, ha.at_⟩
 refine (wpIn_wide (n := k)).2 (Code.wp_mono ?_ (h a hf))
 rintro e a' w' ⟨σ', hf', q⟩
 exact ⟨([], σ'), ⟨hf'.size, hf'.defers, hf'.at_⟩, q⟩
def RPost {α : Type} (I : List α → Heap → Own → Prop) (Ix : Code → List α → Heap → Own → Prop) (h0 : Heap) (w0 : World) (h2 : Heap) (xs : List α) (tail : Own) : Exit → VS → World → Prop := fun e _ w4 =>
 ∃ h3 own3, Le h2 h3 ∧ St h0 w0 h3 w4 (own3 ++ tail) ∧ (match e with
  | .normal => I xs h3 own3
  | .ret => Ix .ret xs h3 own3
  | .exit id => Ix (.exit id) xs h3 own3
  | .goto t => Ix (.goto t) xs h3 own3
  | _ => False)
def APost {α : Type} (F : Fence) (P : Program) (n : Nat) (body : Code) (I : List α → Heap → Own → Prop) (Ix : Code → List α → Heap → Own → Prop) (h0 : Heap) (w0 : World) (h1 : Heap) (xs : List α) (tail : Own) : Exit → VS → World → Prop := fun e s w2 =>
 e = .normal ∧ ∃ h2 own2, Le h1 h2 ∧ St h0 w0 h2 w2 (own2 ++ tail) ∧ ∀ tail' w3, St h0 w0 h2 w3 (own2 ++ tail') → V F P n body (RPost I Ix h0 w0 h2 xs tail') s w3
theorem APost.mk {α : Type} {F : Fence} {P : Program} {n : Nat} {body : Code} {I : List α → Heap → Own → Prop} {Ix : Code → List α → Heap → Own → Prop} {h0 h1 h2 : Heap} {w0 : World} {xs : List α} {own2 tail : Own} {s : VS} {w2 : World} (le : Le h1 h2) (st : St h0 w0 h2 w2 (own2 ++ tail))
  (hb : ∀ tail' w3, St h0 w0 h2 w3 (own2 ++ tail') → V F P n body (RPost I Ix h0 w0 h2 xs tail') s w3) : APost F P n body I Ix h0 w0 h1 xs tail .normal s w2 := ⟨rfl, h2, own2, le, st, hb⟩
theorem ziO {α : Type} {I : List α → Heap → Own → Prop} {Ix : Code → List α → Heap → Own → Prop} {h0 h2 h3 : Heap} {w0 : World} {xs : List α} {own3 tail : Own} {s : VS} {w4 : World} (le : Le h2 h3) (st : St h0 w0 h3 w4 (own3 ++ tail)) (hI : I xs h3 own3) : RPost I Ix h0 w0 h2 xs tail .normal s w4 := ⟨h3, own3, le, st, hI⟩
theorem RPost.exit {α : Type} {I : List α → Heap → Own → Prop} {Ix : Code → List α → Heap → Own → Prop} {h0 h2 h3 : Heap} {w0 : World} {xs : List α} {own3 tail : Own} {s : VS} {w4 : World} {id : Nat} (le : Le h2 h3) (st : St h0 w0 h3 w4 (own3 ++ tail)) (hI : Ix (.exit id) xs h3 own3) : RPost I Ix h0 w0 h2 xs tail (.exit id) s w4 := ⟨h3, own3, le, st, hI⟩
theorem perm_end {α : Type} (A B C : List α) : (B ++ (A ++ C)).Perm (A ++ (C ++ B)) := by
 rw [← List.append_assoc A C B]; exact List.perm_append_comm
def GivesG {α : Type} (P : Program) (gf : FuncId) (caps : List Value) (A : List α → Heap → List Value → α → Prop) (S : List α → Prop) (h0 : Heap) (w0 : World) (h : Heap) : Prop :=
 ∀ (l : Nat) (J Jx : List α → Heap → Own → Prop),
  (∀ xs h1 h2 o, J xs h1 o → Le h1 h2 → J xs h2 o) → (∀ xs h1 h2 o, Jx xs h1 o → Le h1 h2 → Jx xs h2 o) →
  (∀ pre x h1 w1 B rest us, Le h h1 → J pre h1 rest → St h0 w0 h1 w1 (B ++ rest) → A pre h1 us x → Yields P l us.toArray w1 fun v w2 => ∃ h2 rest2, Le h1 h2 ∧ St h0 w0 h2 w2 (B ++ rest2) ∧ ((v = .bool true ∧ J (pre ++ [x]) h2 rest2) ∨ (v = .bool false ∧ Jx (pre ++ [x]) h2 rest2))) →
  ∀ h1 w rest, Le h h1 → J [] h1 rest → St h0 w0 h1 w rest →
   Calls P gf (.func (.yield l) #[] #[] :: caps).toArray w fun e w' => ∃ h' rest' v, e = .returned v ∧ Le h1 h' ∧ St h0 w0 h' w' rest' ∧ ((∃ xs, S xs ∧ J xs h' rest') ∨ (∃ pre, Jx pre h' rest'))
theorem V.rangeFuncG {α : Type} {P : Program} {n : Nat} {Q : Exit → VS → World → Prop} {A : List α → Heap → List Value → α → Prop} {g : Operand} {ps : Array Tmp} {up : List Value → Env} {assign body : Code} {σ : Env} {w : World} {gf : FuncId} {caps : List Value} {S : List α → Prop} {h0 h : Heap} {w0 : World} {own : Own}
  (st : St h0 w0 h w own) (hg : ev σ g = .func (.func gf) #[] caps.toArray) (eg : ∀ a w, (callFunc gf a).run P w = .ok (.enter gf a) w) (hput : ∀ (a : Act) pre us h x, FitsD [] n a σ → A pre h us x → FitsD [] n ({ tmps := (ps.zip us.toArray).foldl (fun tmps (x : Nat × Value) => tmps.setIfInBounds x.1 x.2) a.tmps, defers := [] } : Act) (up us)) (hsz : ∀ pre us h x, A pre h us x → us.toArray.size = ps.size)
  (seq : GivesG P gf caps A S h0 w0 h) (I : List α → Heap → Own → Prop) (Ix : Code → List α → Heap → Own → Prop)
  (hI : ∀ xs h1 h2 o, I xs h1 o → Le h1 h2 → I xs h2 o) (hIx : ∀ c xs h1 h2 o, Ix c xs h1 o → Le h1 h2 → Ix c xs h2 o) (h00 : I [] h own)
  (hround : ∀ (l : Nat) pre x h1 w1 own1 tail us, Le h h1 → I pre h1 own1 → St h0 w0 h1 w1 (own1 ++ tail) → A pre h1 us x →
   V { Fence.wide with round := some l } P n assign (APost { Fence.wide with round := some l } P n body I Ix h0 w0 h1 (pre ++ [x]) tail) ([], up us) w1)
  (hdone : ∀ D xs h' w' own', Le h h' → S xs → I xs h' own' → St h0 w0 h' w' (own' ++ [[(D, .deferred (some []))]]) → Q .normal ([{ target := .collected D, args := #[] }], σ) w')
  (hstop : ∀ D c pre h' w' own', Le h h' → Ix c pre h' own' → St h0 w0 h' w' (own' ++ [[(D, .deferred (some []))]]) → V Fence.wide P n c Q ([{ target := .collected D, args := #[] }], σ) w') :
  V Fence.wide P n (.rangeFunc g ps assign body) Q ([], σ) w := by
 intro k a ha
 refine wpIn_rangeFunc ?_
 intro fn _
 obtain ⟨D, hD⟩ : ∃ D, D = w.heap.size := ⟨_, rfl⟩
 obtain ⟨l, hl⟩ : ∃ l, l = w.heap.size + 1 := ⟨_, rfl⟩
 obtain ⟨rec, hrec⟩ : ∃ rec : LoopState → Option Code → Loop, rec = fun st pe => { state := st, pending := pe, fn, tmps := a.tmps, params := ps, assign, body, defers := D } := ⟨_, rfl⟩
 have st1 := (st.alloc (.deferred (some []))).alloc (.loop (rec .ready none))
 have hsz' : (w.alloc (.deferred (some []))).heap.size = l := by rw [hl]; simp
 rw [hsz', ← hD] at st1
 have hxa : a.eval = ev σ := ha.eval
 obtain ⟨w1, ew1⟩ : ∃ w1, w1 = (w.alloc (.deferred (some []))).alloc (.loop (rec .ready none)) := ⟨_, rfl⟩
 rw [← ew1] at st1
 have e1 : (Instr.enterLoop fn a.tmps ps assign body none).run P w = .ok (l, [({ target := .collected D, args := #[] } : Deferred)]) w1 := by
  rw [ew1, hrec, hl, hD]; exact run_enterLoop_outer _ _ _ _ _
 refine ⟨l, [({ target := .collected D, args := #[] } : Deferred)], w1, ({ target := .fn (.func gf) caps.toArray, args := #[.func (.yield l) #[] #[]] } : Deferred), w1, gf, #[.func (.yield l) #[] #[]] ++ caps.toArray, w1, ?_, ?_, fun _ _ => trivial, ?_, fun hh => absurd hh (by simp [Fence.wide]), ?_⟩
 ·exact e1
 ·simp only [resolve, hxa, hg]
  simp [go_sem, rangeCall, ev]
 ·simp [invoke, go_sem, eg]
 ·
  have con := seq l (fun pre h1 rest => ∃ own1, I pre h1 own1 ∧ rest = own1 ++ [[(D, .deferred (some []))], [(l, .loop (rec .ready none))]])
   (fun pre h1 rest => ∃ own1 c, Ix c pre h1 own1 ∧ rest = own1 ++ [[(D, .deferred (some []))], [(l, .loop (rec .done (some c)))]])
   (by rintro xs h1 h2 o ⟨own1, hi, rfl⟩ le; exact ⟨own1, hI _ _ _ _ hi le, rfl⟩) (by rintro xs h1 h2 o ⟨own1, c, hi, rfl⟩ le; exact ⟨own1, c, hIx _ _ _ _ _ hi le, rfl⟩) ?_ h _ _ (Le.refl h) ⟨own, h00, rfl⟩ (by simpa using st1)
  ·refine (callsIn_wide.2 ?_)
   have e0 : (.func (.yield l) #[] #[] :: caps : List Value).toArray = #[.func (.yield l) #[] #[]] ++ caps.toArray := by simp
   rw [e0] at con
   refine con.mono ?_
   rintro e w2 ⟨h', rest', v, rfl, le, st2, hout⟩
   have tk : ∀ {own1 : Own} {r : Loop}, St h0 w0 h' w2 (own1 ++ [[(D, .deferred (some []))], [(l, .loop r)]]) → ∀ o', St h0 w0 h' (w2.putObj l o') (own1 ++ [[(D, .deferred (some []))]]) := by
    intro own1 r s o'
    have s2 : St h0 w0 h' w2 ((own1 ++ [[(D, .deferred (some []))]]) ++ [(l, .loop r)] :: []) := by simpa using s
    have s3 := (s2.setAt o').take (own1 ++ [[(D, Obj.deferred (some []))]]).length
    rwa [List.take_left'] at s3
    rfl
   rcases hout with ⟨xs, hS, own1, hi, rfl⟩ | ⟨pre, own1, c, hi, rfl⟩
   ·have hlr : w2.heap[l]? = some (.loop (rec .ready none)) := St.at (A := own1 ++ [[(D, .deferred (some []))]]) (C := []) (by simpa using st2)
    have hend := run_endLoop (P := P) hlr (by rw [hrec]; simp)
    rw [hrec] at hend
    refine ⟨none, _, hend, ⟨([{ target := .collected D, args := #[] }], σ), ⟨ha.size, by simp [ha.defers], ha.at_⟩, hdone D xs h' _ own1 le hS hi (tk st2 _)⟩⟩
   ·have hlr : w2.heap[l]? = some (.loop (rec .done (some c))) := St.at (A := own1 ++ [[(D, .deferred (some []))]]) (C := []) (by simpa using st2)
    have hend := run_endLoop (P := P) hlr (by rw [hrec]; simp)
    rw [hrec] at hend
    refine ⟨some c, _, hend, ?_⟩
    exact hstop D c pre h' _ own1 le hi (tk st2 _) k _ ⟨ha.size, by simp [ha.defers], ha.at_⟩
  ·rintro pre x h1 w1 B rest us le ⟨own1, hi, rfl⟩ s1 hA
   have hlr : w1.heap[l]? = some (.loop (rec .ready none)) := St.at (A := B ++ (own1 ++ [[(D, .deferred (some []))]])) (C := []) (by simpa using s1)
   have hy := run_yield (P := P) (args := us.toArray) hlr (by rw [hrec]; exact hsz pre us h1 x hA)
   rw [hrec] at hy
   refine ⟨fn, _, assign, body, hy, roundIn_of_wpIn trivial ?_⟩
   -- the caller's entries first
   have s2 : St h0 w0 h1 w1 (own1 ++ ([[(D, .deferred (some []))], [(l, .loop (rec .ready none))]] ++ B)) := s1.perm (perm_end own1 B _)
   have hfit := hput { tmps := a.tmps, defers := [] } pre us h1 x ⟨ha.size, rfl, ha.at_⟩ hA
   have hr := hround l pre x h1 w1 own1 _ us le hi s2 hA 0 _ hfit
   refine wpIn_mono hr ?_
   rintro e a2 w2 ⟨s', hf2, rfl, h2, own2, le2, s3, hbody⟩
   have s3' : St h0 w0 h2 w2 ((own2 ++ [[(D, .deferred (some []))]]) ++ [(l, .loop (rec .ready none))] :: B) := by simpa using s3
   have hl2 := s3'.at
   have hbr := run_beginRound (P := P) hl2 (by rw [hrec])
   refine ⟨_, hbr, ?_⟩
   have s4 := s3'.setAt (.loop { rec .ready none with state := .busy })
   have s4' := s4
   rw [show (own2 ++ [[(D, .deferred (some []))]]) ++ [(l, .loop { rec .ready none with state := .busy })] :: B = own2 ++ ([[(D, .deferred (some []))], [(l, .loop { rec .ready none with state := .busy })]] ++ B) by simp] at s4'
   refine wpIn_mono (hbody _ _ s4' 0 a2 hf2) ?_
   have fin : ∀ (jump : Option Code) (h3 : Heap) (own3 : Own) (w4 : World), St h0 w0 h3 w4 (own3 ++ ([[(D, .deferred (some []))], [(l, .loop { rec .ready none with state := .busy })]] ++ B)) →
     ∃ w5, (Instr.endRound l jump).run P w4 = .ok (.bool jump.isNone) w5 ∧ St h0 w0 h3 w5 (B ++ (own3 ++ [[(D, .deferred (some []))], [(l, .loop (rec (if jump.isNone then .ready else .done) jump))]])) := by
    intro jump h3 own3 w4 s5
    have s5' : St h0 w0 h3 w4 ((own3 ++ [[(D, .deferred (some []))]]) ++ [(l, .loop { rec .ready none with state := .busy })] :: B) := by simpa using s5
    refine ⟨_, run_endRound (P := P) jump s5'.at, ?_⟩
    have s6 := s5'.setAt (.loop (rec (if jump.isNone then .ready else .done) jump))
    rw [show (own3 ++ [[(D, .deferred (some []))]]) ++ [(l, .loop (rec (if jump.isNone then .ready else .done) jump))] :: B = own3 ++ ([[(D, .deferred (some []))], [(l, .loop (rec (if jump.isNone then .ready else .done) jump))]] ++ B) by simp] at s6
    have s7 := s6.perm (perm_end own3 B _).symm
    rw [hrec] at s7 ⊢
    exact s7
   rintro e a4 w4 ⟨s'', hf4, h3, own3, le3, s5, hm⟩
   cases e with
   | normal =>
    obtain ⟨w5, hr5, s6⟩ := fin none h3 own3 w4 s5
    exact ⟨_, w5, hr5, _, rfl, h3, _, le2.trans le3, s6, .inl ⟨rfl, own3, hm, rfl⟩⟩
   | ret =>
    obtain ⟨w5, hr5, s6⟩ := fin (some .ret) h3 own3 w4 s5
    exact ⟨_, w5, hr5, _, rfl, h3, _, le2.trans le3, s6, .inr ⟨rfl, own3, .ret, hm, rfl⟩⟩
   | exit id =>
    obtain ⟨w5, hr5, s6⟩ := fin (some (.exit id)) h3 own3 w4 s5
    exact ⟨_, w5, hr5, _, rfl, h3, _, le2.trans le3, s6, .inr ⟨rfl, own3, .exit id, hm, rfl⟩⟩
   | goto t =>
    obtain ⟨w5, hr5, s6⟩ := fin (some (.goto t)) h3 own3 w4 s5
    exact ⟨_, w5, hr5, _, rfl, h3, _, le2.trans le3, s6, .inr ⟨rfl, own3, .goto t, hm, rfl⟩⟩
   | panic ch => exact hm.elim
   | outgrown => exact hm.elim
theorem V.rangeFunc {α : Type} {P : Program} {n : Nat} {Q : Exit → VS → World → Prop} {A : Heap → Value → α → Prop} {g : Operand} {p : Tmp} {assign body : Code} {σ : Env} {w : World} {gf : FuncId} {caps : List Value} {S : List α → Prop} {h0 h : Heap} {w0 : World} {own : Own}
  (st : St h0 w0 h w own) (hg : ev σ g = .func (.func gf) #[] caps.toArray) (eg : ∀ a w, (callFunc gf a).run P w = .ok (.enter gf a) w) (hp : Nat.blt p n = true)
  (seq : Gives P gf caps A S h0 w0 h) (I : List α → Heap → Own → Prop) (Ix : Code → List α → Heap → Own → Prop)
  (hI : ∀ xs h1 h2 o, I xs h1 o → Le h1 h2 → I xs h2 o) (hIx : ∀ c xs h1 h2 o, Ix c xs h1 o → Le h1 h2 → Ix c xs h2 o) (h00 : I [] h own)
  (hround : ∀ (l : Nat) pre x h1 w1 own1 tail u, Le h h1 → I pre h1 own1 → St h0 w0 h1 w1 (own1 ++ tail) → A h1 u x →
   V { Fence.wide with round := some l } P n assign (APost { Fence.wide with round := some l } P n body I Ix h0 w0 h1 (pre ++ [x]) tail) ([], upd σ p u) w1)
  (hdone : ∀ D xs h' w' own', Le h h' → S xs → I xs h' own' → St h0 w0 h' w' (own' ++ [[(D, .deferred (some []))]]) → Q .normal ([{ target := .collected D, args := #[] }], σ) w')
  (hstop : ∀ D c pre h' w' own', Le h h' → Ix c pre h' own' → St h0 w0 h' w' (own' ++ [[(D, .deferred (some []))]]) → V Fence.wide P n c Q ([{ target := .collected D, args := #[] }], σ) w') :
  V Fence.wide P n (.rangeFunc g #[p] assign body) Q ([], σ) w := by
 refine V.rangeFuncG (A := fun _ h us x => ∃ u, us = [u] ∧ A h u x) (up := fun us => upd σ p (us.headD undef)) st hg eg ?_ (by rintro _ _ _ _ ⟨u, rfl, _⟩; rfl) ?_ I Ix hI hIx h00 ?_ hdone hstop
 ·rintro a pre us h x hf ⟨u, rfl, _⟩
  have h2 := hf.bare.put (d := some p) (by exact hp) u
  have e1 : (#[p].zip [u].toArray).foldl (fun tmps (x : Nat × Value) => tmps.setIfInBounds x.1 x.2) a.tmps = a.tmps.setIfInBounds p u := by simp
  show FitsD [] n ({ tmps := (#[p].zip [u].toArray).foldl (fun tmps (x : Nat × Value) => tmps.setIfInBounds x.1 x.2) a.tmps, defers := [] } : Act) (upd σ p u)
  rw [e1]; exact ⟨h2.size, rfl, h2.at_⟩
 ·intro l J Jx hm hxm hY
  exact seq l J Jx hm hxm fun pre x h1 w1 B rest u a b c d => hY pre x h1 w1 B rest [u] a b c ⟨u, rfl, d⟩
 ·rintro l pre x h1 w1 own1 tail us a b c ⟨u, rfl, d⟩
  exact hround l pre x h1 w1 own1 tail u a b c d
def Taken (P : Program) : List Deferred → World → (World → Prop) → Prop
 | [], w, K => K w
 | d :: ds, w, K => ∃ D, d.target = .collected D ∧ w.heap[D]? = some (.deferred (some [])) ∧ Taken P ds (w.putObj D (.deferred none)) K
def PostV (fn : Func) (P : Program) (R : Ending → World → Prop) : Exit → VS → World → Prop
 | .normal, s, w | .ret, s, w => Taken P s.1 w fun w' => Post fn P R .ret s.2 w'
 | _, _, _ => False
theorem V.calls {P : Program} {f : FuncId} {fn : Func} {c : Code} {n : Nat} {args : List Value} {w : World} {R : Ending → World → Prop}
  (hf : P.funcs[f]? = some fn) (hb : fn.body = some c) (hn : fn.ntmps = n) (hl : Nat.ble args.length n = true)
  (h : V Fence.wide P n c (PostV fn P R) ([], start args) w) : Calls P f args.toArray w R := by
 have hl' : args.length ≤ n := by simpa using hl
 refine (callsIn_wide (n := 0)).1 (callsIn_of_wp_marks hf hb trivial ?_)
 have hfit : FitsD [] n { tmps := args.toArray ++ Array.replicate (fn.ntmps - args.toArray.size) undef, defers := [] } (start args) := by
  refine ⟨by simp [hn]; omega, rfl, fun i => ?_⟩
  rw [← start_eq]
  simp only [Array.getD_eq_getD_getElem?, List.getD_eq_getElem?_getD]
  by_cases hi : i < args.length
  ·rw [Array.getElem?_append_left (by simpa using hi)]; simp
  ·rw [Array.getElem?_append_right (by simpa using hi), List.getElem?_eq_none (by omega)]
   by_cases hj : i - args.toArray.size < fn.ntmps - args.toArray.size
   ·rw [Array.getElem?_replicate, if_pos hj]; rfl
   ·rw [Array.getElem?_replicate, if_neg hj]
 have key : ∀ (ds : List Deferred) (w : World) (tmps : Array Value) (σ : Env), (∀ i, tmps.getD i undef = σ i) → Taken P ds w (fun w' => Post fn P R .ret σ w') → LeavesInM Fence.wide 0 P fn tmps R ds .returning w := by
  intro ds
  induction ds with
  | nil =>
   intro w tmps σ ht h
   exact h tmps ht
  | cons d ds ih =>
   intro w tmps σ ht h
   obtain ⟨D, hd, hD, h⟩ := h
   exact ⟨by simp, .inl ⟨D, _, hd, run_takeDeferred hD, ih _ _ _ ht h⟩⟩
 refine wpIn_mono (h 0 _ hfit) ?_
 rintro e a' w' ⟨s', hf', hq⟩
 cases e with
 | normal => show LeavesInM _ _ _ _ _ _ a'.defers _ _; rw [hf'.defers]; exact key _ _ _ _ hf'.at_ hq
 | ret => show LeavesInM _ _ _ _ _ _ a'.defers _ _; rw [hf'.defers]; exact key _ _ _ _ hf'.at_ hq
 | exit id => exact hq.elim
 | goto l => exact hq.elim
 | panic ch => exact hq.elim
 | outgrown => exact hq.elim
theorem PostV.zero {fn : Func} {P : Program} {R : Ending → World → Prop} {σ : Env} {w : World} (h : Post fn P R .ret σ w) : PostV fn P R .ret ([], σ) w := h
theorem PostV.one {fn : Func} {P : Program} {R : Ending → World → Prop} {σ : Env} {w w0 : World} {h0 h : Heap} {own : Own} {D : Nat} (st : St h0 w0 h w (own ++ [[(D, .deferred (some []))]])) (hk : ∀ w', St h0 w0 h w' own → Post fn P R .ret σ w') : PostV fn P R .ret ([{ target := .collected D, args := #[] }], σ) w := by
 have s2 : St h0 w0 h w (own ++ [(D, .deferred (some []))] :: []) := st
 refine ⟨D, rfl, s2.at, hk _ ?_⟩
 have s3 := (s2.setAt (.deferred none)).take own.length
 rwa [List.take_left'] at s3
 rfl
end Go.Pk

namespace Go.Pk
open Go Go.RowKit
theorem St.mid {h0 h : Heap} {w0 w : World} {A rest : Own} {o : List (Nat × Obj)} (st : St h0 w0 h w ((A ++ rest) ++ [o])) : St h0 w0 h w (A ++ o :: rest) := by
 refine st.perm ?_
 rw [List.append_assoc]
 exact (List.perm_append_comm (l₁ := rest) (l₂ := [o])).append_left A
theorem St.over {h0 h h' : Heap} {w0 w w' : World} {own rest : Own} (a : St h0 w0 h w rest) (b : St h w h' w' own) : St h0 w0 h' w' rest := a.call0 (b.take 0)
theorem St.keep {h0 h h' : Heap} {w0 w w' : World} {own rest : Own} (a : St h0 w0 h w rest) (b : St h w h' w' own) : St h0 w0 h' w' (own ++ rest) := (a.call b).perm List.perm_append_comm
def GivesA {α : Type} (P : Program) (gf : FuncId) (caps : List Value) (A : List α → Heap → Value → α → Prop) (S : List α → Prop) (h : Heap) : Prop :=
 ∀ h0 w0 h', Le h h' → GivesG P gf caps (fun pre h us x => ∃ u, us = [u] ∧ A pre h u x) S h0 w0 h'
theorem GivesA.up {α : Type} {P : Program} {gf : FuncId} {caps : List Value} {A : List α → Heap → Value → α → Prop} {S : List α → Prop} {h h' : Heap} (g : GivesA P gf caps A S h) (le : Le h h') : GivesA P gf caps A S h' :=
 fun h0 w0 h1 l1 => g h0 w0 h1 (le.trans l1)
theorem V.rangeFuncP {α : Type} {P : Program} {n : Nat} {Q : Exit → VS → World → Prop} {A : List α → Heap → Value → α → Prop} {g : Operand} {p : Tmp} {assign body : Code} {σ : Env} {w : World} {gf : FuncId} {caps : List Value} {S : List α → Prop} {h0 h : Heap} {w0 : World} {own : Own}
  (st : St h0 w0 h w own) (hg : ev σ g = .func (.func gf) #[] caps.toArray) (eg : ∀ a w, (callFunc gf a).run P w = .ok (.enter gf a) w) (hp : Nat.blt p n = true)
  (seq : GivesG P gf caps (fun pre h us x => ∃ u, us = [u] ∧ A pre h u x) S h0 w0 h) (I : List α → Heap → Own → Prop) (Ix : Code → List α → Heap → Own → Prop)
  (hI : ∀ xs h1 h2 o, I xs h1 o → Le h1 h2 → I xs h2 o) (hIx : ∀ c xs h1 h2 o, Ix c xs h1 o → Le h1 h2 → Ix c xs h2 o) (h00 : I [] h own)
  (hround : ∀ (l : Nat) pre x h1 w1 own1 tail u, Le h h1 → I pre h1 own1 → St h0 w0 h1 w1 (own1 ++ tail) → A pre h1 u x →
   V { Fence.wide with round := some l } P n assign (APost { Fence.wide with round := some l } P n body I Ix h0 w0 h1 (pre ++ [x]) tail) ([], upd σ p u) w1)
  (hdone : ∀ D xs h' w' own', Le h h' → S xs → I xs h' own' → St h0 w0 h' w' (own' ++ [[(D, .deferred (some []))]]) → Q .normal ([{ target := .collected D, args := #[] }], σ) w')
  (hstop : ∀ D c pre h' w' own', Le h h' → Ix c pre h' own' → St h0 w0 h' w' (own' ++ [[(D, .deferred (some []))]]) → V Fence.wide P n c Q ([{ target := .collected D, args := #[] }], σ) w') :
  V Fence.wide P n (.rangeFunc g #[p] assign body) Q ([], σ) w := by
 refine V.rangeFuncG (up := fun us => upd σ p (us.headD undef)) st hg eg ?_ (by rintro _ _ _ _ ⟨u, rfl, _⟩; rfl) seq I Ix hI hIx h00 ?_ hdone hstop
 ·rintro a pre us h x hf ⟨u, rfl, _⟩
  have h2 := hf.bare.put (d := some p) (by exact hp) u
  have e1 : (#[p].zip [u].toArray).foldl (fun tmps (x : Nat × Value) => tmps.setIfInBounds x.1 x.2) a.tmps = a.tmps.setIfInBounds p u := by simp
  show FitsD [] n ({ tmps := (#[p].zip [u].toArray).foldl (fun tmps (x : Nat × Value) => tmps.setIfInBounds x.1 x.2) a.tmps, defers := [] } : Act) (upd σ p u)
  rw [e1]; exact ⟨h2.size, rfl, h2.at_⟩
 ·rintro l pre x h1 w1 own1 tail us a b c ⟨u, rfl, d⟩
  exact hround l pre x h1 w1 own1 tail u a b c d
end Go.Pk

namespace Go.Pk
open Go Go.RowKit
def zid : Question := ⟨zdB, []⟩
def zVoter : Voter := ⟨0, 0, []⟩
def zSpan : Span := ⟨0, 0⟩
def zcX (hs : List Head) (k : Nat) : Bool := match hs[k]? with | some h => zdV h && (decide (k = 0) || headLt ((hs[k - 1]?).getD zdc) h) | none => true
def headsOk (hs : List Head) : Bool := (List.range hs.length).all (zcX hs)
def zeE (p : Poll) (i : Nat) : Bool := match p.questions[i]? with
 | some q => zbB p.text q.at_ && (decide (i = 0) || zdA ((p.questions[i - 1]?).getD zid).at_ q.at_) && inB q.heads.length 2 3 && headsOk q.heads
 | none => true
def zgL (p : Poll) (v : Voter) (k : Nat) : Bool := match v.votes[k]?, p.questions[k]? with | some n, some q => inB n (-1) ((q.heads.length : Int) - 1) | _, _ => true
def votesOk (p : Poll) (v : Voter) : Bool := (List.range v.votes.length).all (zgL p v)
def ziv (p : Poll) (v : Voter) : Bool := inB v.id 0 9999 && inB v.wrong 0 6 && decide (v.votes.length = p.questions.length) && votesOk p v
def zed (p : Poll) (i : Nat) : Bool := match p.voters[i]? with | some v => ziv p v && (p.voters.take i).all fun u => decide (u.id ≠ v.id) | none => true
def zdh (p : Poll) : Bool := decide (p.questions.length ≤ 6) && decide (p.voters.length ≤ 6) && (List.range p.questions.length).all (zeE p) && (List.range p.voters.length).all (zed p)
def zev (p : Poll) : Int := if zaQ p.text p.lexicon ≠ 0 then zaQ p.text p.lexicon else if zdh p = true then 0 else 70
def zgd (v : Voter) (hs : List Int) (k : Nat) : Bool := match v.votes[k]?, hs[k]? with | some a, some b => decide (0 ≤ a) && decide (a ≠ b) | _, _ => false
def zcY (v : Voter) (hs : List Int) : Nat := ((List.range hs.length).filter (zgd v hs)).length
def inAt (p : Poll) (hs : List Int) (k : Nat) : Bool := match hs[k]?, p.questions[k]? with | some n, some q => inB n 0 ((q.heads.length : Int) - 1) | _, _ => true
def zef (p : Poll) (hs : List Int) : Bool := decide (hs.length = p.questions.length) && (List.range hs.length).all (inAt p hs) && p.voters.all fun v => decide ((zcY v hs : Int) ≤ v.wrong)
def zda : List Nat → List (List Int)
 | [] => [[]]
 | n :: ns => (List.range n).flatMap fun (h : Nat) => (zda ns).map fun t => (h : Int) :: t
def zcg (p : Poll) : List Nat := p.questions.map (·.heads.length)
def zas (p : Poll) : List (List Int) := (zda (zcg p)).filter (zef p)
theorem candL_mem : ∀ {ns : List Nat} {hs : List Int}, hs ∈ zda ns ↔ hs.length = ns.length ∧ ∀ (k n : Nat) (h : Int), ns[k]? = some n → hs[k]? = some h → 0 ≤ h ∧ h < (n : Int)
 | [], hs => by
  rw [zda, List.mem_singleton]
  constructor
  ·rintro rfl; exact ⟨rfl, by simp⟩
  ·rintro ⟨h, _⟩; exact List.length_eq_zero_iff.1 h
 | n :: ns, hs => by
  rw [zda, List.mem_flatMap]
  constructor
  ·rintro ⟨h, hh, hm⟩
   obtain ⟨t, ht, rfl⟩ := List.mem_map.1 hm
   obtain ⟨h1, h2⟩ := candL_mem.1 ht
   refine ⟨by simp [h1], fun k m a hk ha => ?_⟩
   cases k with
   | zero => simp at hk ha; have := List.mem_range.1 hh; omega
   | succ k => exact h2 k m a (by simpa using hk) (by simpa using ha)
  ·rintro ⟨h1, h2⟩
   cases hs with
   | nil => simp at h1
   | cons a t =>
    have h0 := h2 0 n a rfl rfl
    refine ⟨a.toNat, List.mem_range.2 (by omega), List.mem_map.2 ⟨t, candL_mem.2 ⟨by simpa using h1, fun k m b hk hb => h2 (k + 1) m b (by simpa using hk) (by simpa using hb)⟩, ?_⟩⟩
    rw [show ((a.toNat : Nat) : Int) = a by omega]
theorem wrongN_snoc (v : Voter) (hs : List Int) (h : Int) : zcY v (hs ++ [h]) = zcY v hs + if (match v.votes[hs.length]? with | some a => decide (0 ≤ a) && decide (a ≠ h) | none => false) = true then 1 else 0 := by
 rw [zcY, List.length_append, List.length_cons, List.length_nil, Nat.zero_add, List.range_succ, List.filter_append, List.length_append]
 congr 1
 ·rw [zcY]
  congr 1
  refine List.filter_congr fun k hk => ?_
  have hk := List.mem_range.1 hk
  simp only [zgd]
  rw [List.getElem?_append_left hk]
 have e : zgd v (hs ++ [h]) hs.length = (match v.votes[hs.length]? with | some a => decide (0 ≤ a) && decide (a ≠ h) | none => false) := by
  simp only [zgd]
  have e1 : (hs ++ [h])[hs.length]? = some h := by simp
  rw [e1]
  cases v.votes[hs.length]? <;> rfl
 rw [List.filter_cons, e, List.filter_nil]
 generalize (match v.votes[hs.length]? with | some a => decide (0 ≤ a) && decide (a ≠ h) | none => false) = c
 cases c <;> rfl
theorem wrongN_pre (v : Voter) : ∀ (t hs : List Int), zcY v hs ≤ zcY v (hs ++ t)
 | [], hs => by simp
 | a :: t, hs => by
  have h1 := wrongN_pre v t (hs ++ [a])
  have h2 := wrongN_snoc v hs a
  rw [List.append_assoc] at h1
  have : zcY v hs ≤ zcY v (hs ++ [a]) := by omega
  exact Nat.le_trans this h1
theorem flat_congr {α β : Type} {f g : α → List β} : ∀ {l : List α}, (∀ a ∈ l, f a = g a) → l.flatMap f = l.flatMap g
 | [], _ => rfl
 | a :: l, h => by rw [List.flatMap_cons, List.flatMap_cons, h a List.mem_cons_self, flat_congr fun b hb => h b (List.mem_cons_of_mem _ hb)]
theorem filter_flat {α β : Type} (q : β → Bool) (f : α → List β) : ∀ l : List α, (l.flatMap f).filter q = l.flatMap fun a => (f a).filter q
 | [] => rfl
 | a :: l => by rw [List.flatMap_cons, List.flatMap_cons, List.filter_append, filter_flat q f l]
theorem map_flat {α β γ : Type} (g : β → γ) (f : α → List β) : ∀ l : List α, (l.flatMap f).map g = l.flatMap fun a => (f a).map g
 | [] => rfl
 | a :: l => by rw [List.flatMap_cons, List.flatMap_cons, List.map_append, map_flat g f l]
def zcq (p : Poll) (now : List Int) : List (List Int) := ((zda ((zcg p).drop now.length)).map (now ++ ·)).filter (zef p)
theorem truthsFrom_nil (p : Poll) : zcq p [] = zas p := by simp [zcq, zas]
theorem truthsFrom_next {p : Poll} {now : List Int} {n : Nat} (hn : (zcg p)[now.length]? = some n) : zcq p now = (List.range n).flatMap fun (h : Nat) => zcq p (now ++ [(h : Int)]) := by
 rw [zcq, zdM hn, zda, map_flat, filter_flat]
 refine flat_congr fun h _ => ?_
 rw [zcq]
 congr 1
 rw [List.map_map, List.length_append, List.length_cons, List.length_nil, Nat.zero_add]
 refine List.map_congr_left fun t _ => ?_
 simp
theorem truthsFrom_all {p : Poll} {now : List Int} (hn : now.length = p.questions.length) : zcq p now = if zef p now = true then [now] else [] := by
 have e : (zcg p).drop now.length = [] := List.drop_eq_nil_of_le (by rw [zcg, List.length_map]; omega)
 rw [zcq, e, zda]
 simp only [List.map_cons, List.map_nil, List.append_nil, List.filter_cons, List.filter_nil]
theorem truthsFrom_none {p : Poll} {now : List Int} {v : Voter} (hv : v ∈ p.voters) (hw : v.wrong < (zcY v now : Int)) : zcq p now = [] := by
 rw [zcq, List.filter_eq_nil_iff]
 intro hs hh
 obtain ⟨t, _, rfl⟩ := List.mem_map.1 hh
 simp only [zef, Bool.and_eq_true, List.all_eq_true, decide_eq_true_eq, not_and]
 intro _ q
 have h1 := q v hv
 have h2 := wrongN_pre v t now
 omega
theorem zdf {P : Nat → Bool} {k : Nat} (h : ∀ j, j < k → P j = true) (hk : P k = true) : ∀ j, j < k + 1 → P j = true := by
 intro j hj
 by_cases e : j = k
 ·subst e; exact hk
 exact h j (by omega)
theorem zhk {P : Nat → Bool} {n k : Nat} (h : ∀ j, j < k → P j = true) (hk : n ≤ k) : (List.range n).all P = true := by
 rw [List.all_eq_true]
 intro j hj
 exact h j (by have := List.mem_range.1 hj; omega)
theorem range_no {P : Nat → Bool} {n k : Nat} (h : P k = false) (hk : k < n) : (List.range n).all P = false := by
 rw [List.all_eq_false]
 exact ⟨k, List.mem_range.2 hk, by simp [h]⟩
theorem all_snocB {α : Type} {q : α → Bool} {l : List α} {k : Nat} {a : α} (h : l[k]? = some a) : (l.take (k + 1)).all q = ((l.take k).all q && q a) := by rw [zbb h, List.all_append]; simp
theorem headsOk_no {hs : List Head} {k : Nat} (h : zcX hs k = false) : headsOk hs = false := by
 refine range_no h ?_
 refine Classical.byContradiction fun q => ?_
 simp [zcX, List.getElem?_eq_none (show hs.length ≤ k by omega)] at h
theorem votesOk_no {p : Poll} {v : Voter} {k : Nat} (h : zgL p v k = false) : votesOk p v = false := by
 refine range_no h ?_
 refine Classical.byContradiction fun q => ?_
 simp [zgL, List.getElem?_eq_none (show v.votes.length ≤ k by omega)] at h
theorem poll_q {p : Poll} {i : Nat} (h : zeE p i = false) : zdh p = false := by
 have : (List.range p.questions.length).all (zeE p) = false := by
  refine range_no h ?_
  refine Classical.byContradiction fun q => ?_
  simp [zeE, List.getElem?_eq_none (show p.questions.length ≤ i by omega)] at h
 rw [zdh, this]; simp
theorem poll_v {p : Poll} {i : Nat} (h : zed p i = false) : zdh p = false := by
 have : (List.range p.voters.length).all (zed p) = false := by
  refine range_no h ?_
  refine Classical.byContradiction fun q => ?_
  simp [zed, List.getElem?_eq_none (show p.voters.length ≤ i by omega)] at h
 rw [zdh, this]; simp
theorem poll_true {p : Poll} {i j : Nat} (h1 : p.questions.length ≤ 6) (h2 : p.voters.length ≤ 6) (h3 : ∀ k, k < i → zeE p k = true) (hi : p.questions.length ≤ i) (h4 : ∀ k, k < j → zed p k = true) (hj : p.voters.length ≤ j) : zdh p = true := by
 rw [zdh, zhk h3 hi, zhk h4 hj, decide_eq_true h1, decide_eq_true h2]; rfl
theorem poll_quest {p : Poll} (h : zdh p = true) {i : Nat} {q : Question} (hq : p.questions[i]? = some q) : zbB p.text q.at_ = true ∧ 2 ≤ q.heads.length ∧ q.heads.length ≤ 3 ∧ headsOk q.heads = true := by
 simp only [zdh, Bool.and_eq_true, List.all_eq_true] at h
 have h1 := h.1.2 i (List.mem_range.2 (List.getElem?_eq_some_iff.1 hq).1)
 simp only [zeE, hq, Bool.and_eq_true, inB, decide_eq_true_eq] at h1
 refine ⟨h1.1.1.1, by omega, by omega, h1.2⟩
theorem ziA {p : Poll} (h : zdh p = true) {v : Voter} (hv : v ∈ p.voters) : 0 ≤ v.wrong ∧ v.wrong ≤ 6 ∧ v.votes.length = p.questions.length ∧ votesOk p v = true := by
 obtain ⟨i, hi⟩ := List.mem_iff_getElem?.1 hv
 simp only [zdh, Bool.and_eq_true, List.all_eq_true] at h
 have h1 := h.2 i (List.mem_range.2 (List.getElem?_eq_some_iff.1 hi).1)
 simp only [zed, hi, ziv, Bool.and_eq_true, inB, decide_eq_true_eq] at h1
 obtain ⟨⟨⟨⟨_, h2⟩, h3⟩, h4⟩, _⟩ := h1
 exact ⟨h2.1, h2.2, h3, h4⟩
theorem zeh {p : Poll} (h : zdh p = true) : p.questions.length ≤ 6 ∧ p.voters.length ≤ 6 := by
 simp only [zdh, Bool.and_eq_true, decide_eq_true_eq] at h
 exact ⟨h.1.1.1, h.1.1.2⟩
theorem true_len {p : Poll} {hs : List Int} (h : zef p hs = true) : hs.length = p.questions.length := by
 simp only [zef, Bool.and_eq_true, decide_eq_true_eq] at h; exact h.1.1
theorem true_in {p : Poll} {hs : List Int} (h : zef p hs = true) {k : Nat} {a : Int} {q : Question} (ha : hs[k]? = some a) (hq : p.questions[k]? = some q) : 0 ≤ a ∧ a < (q.heads.length : Int) := by
 simp only [zef, Bool.and_eq_true, List.all_eq_true] at h
 have := h.1.2 k (List.mem_range.2 (List.getElem?_eq_some_iff.1 ha).1)
 simp only [inAt, ha, hq, inB, Bool.and_eq_true, decide_eq_true_eq] at this
 omega
theorem true_no1 {p : Poll} {hs : List Int} {k : Nat} (hk : k < hs.length) (h : inAt p hs k = false) : zef p hs = false := by
 rw [zef, range_no h hk]; simp
theorem true_no2 {p : Poll} {hs : List Int} {v : Voter} (hv : v ∈ p.voters) (h : v.wrong < (zcY v hs : Int)) : zef p hs = false := by
 have : (p.voters.all fun v => decide ((zcY v hs : Int) ≤ v.wrong)) = false := List.all_eq_false.2 ⟨v, hv, by simp; omega⟩
 rw [zef, this]; simp
theorem true_yes {p : Poll} {hs : List Int} {i k : Nat} (h1 : hs.length = p.questions.length) (h2 : ∀ j, j < i → inAt p hs j = true) (hi : hs.length ≤ i) (h3 : ∀ v ∈ p.voters.take k, (zcY v hs : Int) ≤ v.wrong) (hk : p.voters.length ≤ k) : zef p hs = true := by
 rw [List.take_of_length_le hk] at h3
 have : (p.voters.all fun v => decide ((zcY v hs : Int) ≤ v.wrong)) = true := List.all_eq_true.2 fun v hv => decide_eq_true (h3 v hv)
 rw [zef, zhk h2 hi, this, decide_eq_true h1]; rfl
def wrongK (v : Voter) (hs : List Int) (k : Nat) : Nat := ((List.range k).filter (zgd v hs)).length
theorem wrongK_succ (v : Voter) (hs : List Int) (k : Nat) : wrongK v hs (k + 1) = wrongK v hs k + if zgd v hs k = true then 1 else 0 := by
 rw [wrongK, List.range_succ, List.filter_append, List.length_append, List.filter_cons, List.filter_nil, wrongK]
 split <;> rfl
theorem wrongK_le (v : Voter) (hs : List Int) (k : Nat) : wrongK v hs k ≤ k := by
 have := List.length_filter_le (zgd v hs) (List.range k)
 rw [List.length_range] at this; exact this
theorem poll_q2 {p : Poll} {i k : Nat} {q : Question} (hq : p.questions[i]? = some q) (h : zcX q.heads k = false) : zdh p = false := by
 refine poll_q (i := i) ?_
 simp only [zeE, hq, headsOk_no h, Bool.and_false]
theorem poll_v2 {p : Poll} {i k : Nat} {v : Voter} (hv : p.voters[i]? = some v) (h : zgL p v k = false) : zdh p = false := by
 refine poll_v (i := i) ?_
 simp only [zed, hv, ziv, votesOk_no h, Bool.and_false, Bool.false_and]
theorem poll_v3 {p : Poll} {i k : Nat} {v u : Voter} (hv : p.voters[i]? = some v) (hu : p.voters[k]? = some u) (hk : k < i) (h : u.id = v.id) : zdh p = false := by
 refine poll_v (i := i) ?_
 have : ((p.voters.take i).all fun u => decide (u.id ≠ v.id)) = false := by
  refine List.all_eq_false.2 ⟨u, ?_, by simp [h]⟩
  exact List.mem_of_getElem? (i := k) (by rw [List.getElem?_take_of_lt hk]; exact hu)
 simp only [zed, hv, this, Bool.and_false]
theorem wrongAt_neg {v : Voter} {xs : List Int} {k : Nat} {a : Int} (ha : v.votes[k]? = some a) (h : ¬ 0 ≤ a) : zgd v xs k = false := by
 simp only [zgd, ha]
 cases xs[k]? with
 | none => rfl
 | some c => simp [h]
theorem zgz {v : Voter} {xs : List Int} {k : Nat} {a c : Int} (ha : v.votes[k]? = some a) (hc : xs[k]? = some c) : zgd v xs k = (decide (0 ≤ a) && decide (a ≠ c)) := by simp only [zgd, ha, hc]
end Go.Pk

namespace Go.Pk
open Go Go.RowKit
def allE (p : Poll) (so : Bool) : Int := if zev p ≠ 0 then zev p else if so = false then 2 else if zas p = [] then 8 else 0
def allL (p : Poll) (so : Bool) : List (List Int) := if allE p so = 0 then zas p else []
theorem zdj {p : Poll} (h : zev p = 0) : zaQ p.text p.lexicon = 0 ∧ zdh p = true := by
 unfold zev at h
 split at h
 ·rename_i q; exact absurd h q
 rename_i q
 split at h
 ·rename_i q2; exact ⟨by simpa using q, q2⟩
 cases h
theorem all_ok {p : Poll} {so : Bool} (h : allE p so = 0) : zev p = 0 ∧ so = true ∧ zas p ≠ [] ∧ allL p so = zas p := by
 have h0 := h
 unfold allE at h
 split at h
 ·rename_i q; exact absurd h q
 rename_i q
 split at h
 ·cases h
 rename_i q2
 split at h
 ·cases h
 rename_i q3
 exact ⟨by simpa using q, by simpa using q2, q3, by rw [allL, if_pos h0]⟩
theorem flat_at {α : Type} {f : Nat → List α} {L : Nat} (hL : ∀ h, (f h).length = L) : ∀ {n h j : Nat}, h < n → j < L → ((List.range n).flatMap f)[h * L + j]? = (f h)[j]?
 | n + 1, h, j, hh, hj => by
  have hlen : ∀ m, ((List.range m).flatMap f).length = m * L := by
   intro m
   induction m with
   | zero => simp
   | succ m ih => rw [zcA, List.length_append, ih, hL, Nat.succ_mul]
  rw [zcA]
  by_cases e : h = n
  ·subst e
   rw [List.getElem?_append_right (by rw [hlen]; omega), hlen]
   congr 1; omega
  ·have h1 : h < n := by omega
   rw [List.getElem?_append_left (by rw [hlen]; have := Nat.mul_le_mul_right L (show h + 1 ≤ n by omega); rw [Nat.succ_mul] at this; omega)]
   exact flat_at hL h1 hj
def zdT : List Nat → Nat
 | [] => 1
 | n :: ns => n * zdT ns
theorem zfX : ∀ ns : List Nat, (zda ns).length = zdT ns
 | [] => rfl
 | n :: ns => by
  rw [zda, zdT, List.length_flatMap]
  simp only [List.length_map, zfX ns]
  induction n with
  | zero => simp
  | succ n ih => rw [List.range_succ, List.map_append, List.sum_append, ih, Nat.succ_mul]; simp
theorem prodL_pos : ∀ {ns : List Nat}, (∀ n ∈ ns, 0 < n) → 0 < zdT ns
 | [], _ => Nat.one_pos
 | n :: ns, h => Nat.mul_pos (h n List.mem_cons_self) (prodL_pos fun m hm => h m (List.mem_cons_of_mem _ hm))
theorem cand_cons {n : Nat} {ns : List Nat} {h j : Nat} (hh : h < n) (hj : j < zdT ns) : (zda (n :: ns))[h * zdT ns + j]? = ((zda ns)[j]?).map fun t => (h : Int) :: t := by
 rw [zda, flat_at (L := zdT ns) (fun h => by rw [List.length_map, zfX]) hh hj, List.getElem?_map]
theorem cand_zero : ∀ {ns : List Nat}, (∀ n ∈ ns, 0 < n) → (zda ns)[0]? = some (List.replicate ns.length 0)
 | [], _ => rfl
 | n :: ns, h => by
  have h1 := prodL_pos fun m hm => h m (List.mem_cons_of_mem _ hm)
  have := cand_cons (n := n) (ns := ns) (h := 0) (j := 0) (h n List.mem_cons_self) h1
  rw [Nat.zero_mul] at this
  rw [this, cand_zero fun m hm => h m (List.mem_cons_of_mem _ hm)]; rfl
theorem cand_split {n : Nat} {ns : List Nat} {j : Nat} {xs : List Int} (hx : (zda (n :: ns))[j]? = some xs) : ∃ h j' t, j = h * zdT ns + j' ∧ h < n ∧ j' < zdT ns ∧ (zda ns)[j']? = some t ∧ xs = (h : Int) :: t := by
 have hj := (List.getElem?_eq_some_iff.1 hx).1
 rw [zfX, zdT] at hj
 have hp : 0 < zdT ns := by
  rcases Nat.eq_zero_or_pos (zdT ns) with e | e
  ·rw [e] at hj; omega
  ·exact e
 have e : j = j / zdT ns * zdT ns + j % zdT ns := by rw [Nat.mul_comm]; exact (Nat.div_add_mod j (zdT ns)).symm
 have h1 : j / zdT ns < n := Nat.div_lt_of_lt_mul (by rw [Nat.mul_comm]; exact hj)
 have h2 : j % zdT ns < zdT ns := Nat.mod_lt _ hp
 have h3 := cand_cons (n := n) (ns := ns) h1 h2
 rw [← e, hx] at h3
 cases ht : (zda ns)[j % zdT ns]? with
 | none => rw [ht] at h3; cases h3
 | some t => rw [ht] at h3; exact ⟨_, _, t, e, h1, h2, ht, Option.some.inj h3⟩
theorem cand_last : ∀ {ns : List Nat} {j : Nat} {xs : List Int}, (zda ns)[j]? = some xs → (∀ (k n : Nat) (x : Int), ns[k]? = some n → xs[k]? = some x → x = (n : Int) - 1) → j + 1 = zdT ns
 | [], j, xs, hx, _ => by
  have := (List.getElem?_eq_some_iff.1 hx).1
  rw [zfX] at this
  simp only [zdT] at this ⊢; omega
 | n :: ns, j, xs, hx, hm => by
  obtain ⟨h, j', t, rfl, h1, h2, h3, rfl⟩ := cand_split hx
  have e1 := hm 0 n (h : Int) rfl rfl
  have e2 := cand_last h3 fun k m x hk hx => hm (k + 1) m x (by simpa using hk) (by simpa using hx)
  rw [zdT, show n = h + 1 by omega, Nat.succ_mul]; omega
theorem cand_next : ∀ {ns : List Nat} {j m : Nat} {xs : List Int} {a : Int} {n : Nat}, (∀ n ∈ ns, 0 < n) → (zda ns)[j]? = some xs → (∀ (k n : Nat) (x : Int), m < k → ns[k]? = some n → xs[k]? = some x → x = (n : Int) - 1) → xs[m]? = some a → ns[m]? = some n → a ≠ (n : Int) - 1 →
  (zda ns)[j + 1]? = some (xs.take m ++ (a + 1) :: List.replicate (xs.length - (m + 1)) 0)
 | [], j, m, xs, a, n, _, hx, _, ha, hn, _ => by simp at hn
 | n0 :: ns, j, m, xs, a, n, hp, hx, hm, ha, hn, hne => by
  obtain ⟨h, j', t, rfl, h1, h2, h3, rfl⟩ := cand_split hx
  have hp' : ∀ n ∈ ns, 0 < n := fun q hq => hp q (List.mem_cons_of_mem _ hq)
  have hlen : t.length = ns.length := (candL_mem.1 (List.mem_of_getElem? h3)).1
  cases m with
  | zero =>
   simp at ha hn; subst ha; subst hn
   have e2 := cand_last h3 fun k q x hk hx => hm (k + 1) q x (by omega) (by simpa using hk) (by simpa using hx)
   have e3 := cand_cons (n := n0) (ns := ns) (h := h + 1) (j := 0) (by omega) (prodL_pos hp')
   rw [show (h + 1) * zdT ns + 0 = h * zdT ns + j' + 1 by rw [Nat.succ_mul]; omega] at e3
   rw [e3, cand_zero hp']
   simp [hlen]
  | succ m =>
   have ha' : t[m]? = some a := by simpa using ha
   have hn' : ns[m]? = some n := by simpa using hn
   have ih := cand_next hp' h3 (fun k q x hk hq hx => hm (k + 1) q x (by omega) (by simpa using hq) (by simpa using hx)) ha' hn' hne
   have hj : j' + 1 < zdT ns := by
    have := (List.getElem?_eq_some_iff.1 ih).1
    rwa [zfX] at this
   have e3 := cand_cons (n := n0) (ns := ns) (h := h) (j := j' + 1) h1 hj
   rw [← Nat.add_assoc] at e3
   rw [e3, ih]
   simp
def cntH (l : List (List Int)) (q : Nat) (h : Int) : Nat := (l.filter fun t => decide (t[q]? = some h)).length
def worstK (l : List (List Int)) (q : Nat) : Nat → Int
 | 0 => 0
 | k + 1 => maxI (worstK l q k) (cntH l q (k : Int))
def worstN (l : List (List Int)) (q : Nat) : Int := worstK l q 3
end Go.Pk

namespace Go.Pk
open Go Go.RowKit
theorem sizes_len (p : Poll) : (zcg p).length = p.questions.length := by rw [zcg, List.length_map]
theorem sizes_at {p : Poll} {k : Nat} {q : Question} (hq : p.questions[k]? = some q) : (zcg p)[k]? = some q.heads.length := by rw [zcg, List.getElem?_map, hq]; rfl
theorem sizes_ok {p : Poll} (h : zdh p = true) : ∀ n ∈ zcg p, 2 ≤ n ∧ n ≤ 3 := by
 intro n hn
 obtain ⟨q, hq, rfl⟩ := List.mem_map.1 hn
 obtain ⟨i, hi⟩ := List.mem_iff_getElem?.1 hq
 have := poll_quest h hi
 exact ⟨this.2.1, this.2.2.1⟩
theorem sizes_pos {p : Poll} (h : zdh p = true) : ∀ n ∈ zcg p, 0 < n := fun n hn => by have := sizes_ok h n hn; omega
theorem prod_pow : ∀ {ns : List Nat}, (∀ n ∈ ns, n ≤ 3) → zdT ns ≤ 3 ^ ns.length
 | [], _ => Nat.le_refl _
 | n :: ns, h => by
  rw [zdT, List.length_cons, Nat.pow_succ, Nat.mul_comm]
  exact Nat.mul_le_mul (prod_pow fun m hm => h m (List.mem_cons_of_mem _ hm)) (h n List.mem_cons_self)
theorem prod_le {p : Poll} (h : zdh p = true) : zdT (zcg p) ≤ 729 := by
 refine Nat.le_trans (prod_pow fun n hn => (sizes_ok h n hn).2) ?_
 have : (zcg p).length ≤ 6 := by rw [sizes_len]; exact (zeh h).1
 exact Nat.pow_le_pow_right (by omega) this
theorem cand_xlen {p : Poll} {j : Nat} {xs : List Int} (hx : (zda (zcg p))[j]? = some xs) : xs.length = p.questions.length := by
 rw [(candL_mem.1 (List.mem_of_getElem? hx)).1, sizes_len]
theorem odo_at {xs : List Int} {m : Nat} {a : Int} {R : List Int} (h : (xs.take m ++ R)[m - 1]? = some a) (h1 : 1 ≤ m) (h2 : m ≤ xs.length) : xs[m - 1]? = some a := by
 rw [List.getElem?_append_left (by rw [List.length_take]; omega), List.getElem?_take_of_lt (by omega)] at h
 exact h
theorem odo_set {xs : List Int} {m : Nat} {b : Int} (h1 : 1 ≤ m) (h2 : m ≤ xs.length) : (xs.take m ++ List.replicate (xs.length - m) 0).set (m - 1) b = xs.take (m - 1) ++ b :: List.replicate (xs.length - m) 0 := by
 have hx : xs[m - 1]? = some xs[m - 1] := List.getElem?_eq_getElem (by omega)
 have e : xs.take m = xs.take (m - 1) ++ [xs[m - 1]] := by
  have := zbb hx
  rwa [show m - 1 + 1 = m by omega] at this
 rw [e, List.append_assoc, List.set_append_right _ _ (by rw [List.length_take]; omega), List.length_take, Nat.min_eq_left (by omega), Nat.sub_self]
 rfl
theorem odo_zero {xs : List Int} {m : Nat} (h1 : 1 ≤ m) (h2 : m ≤ xs.length) : (xs.take m ++ List.replicate (xs.length - m) 0).set (m - 1) 0 = xs.take (m - 1) ++ List.replicate (xs.length - (m - 1)) 0 := by
 rw [odo_set h1 h2, show xs.length - (m - 1) = xs.length - m + 1 by omega]; rfl
theorem odo_max {p : Poll} {xs : List Int} {m : Nat} {a : Int} {q : Question} (hz : ∀ (k n : Nat) (x : Int), m ≤ k → (zcg p)[k]? = some n → xs[k]? = some x → x = (n : Int) - 1) (hm : 1 ≤ m) (ha : xs[m - 1]? = some a) (hq : p.questions[m - 1]? = some q) (he : a = (q.heads.length : Int) - 1) :
  ∀ (k n : Nat) (x : Int), m - 1 ≤ k → (zcg p)[k]? = some n → xs[k]? = some x → x = (n : Int) - 1 := by
 intro k n x hk hn hx
 by_cases e : k = m - 1
 ·subst e
  rw [sizes_at hq] at hn; cases hn
  rw [ha] at hx; cases hx; exact he
 ·exact hz k n x (by omega) hn hx
theorem odo_next {p : Poll} {xs : List Int} {j m : Nat} {a : Int} {q : Question} (hp : zdh p = true) (hx : (zda (zcg p))[j]? = some xs) (hz : ∀ (k n : Nat) (x : Int), m ≤ k → (zcg p)[k]? = some n → xs[k]? = some x → x = (n : Int) - 1) (hm : 1 ≤ m) (ha : xs[m - 1]? = some a) (hq : p.questions[m - 1]? = some q) (he : ¬ a = (q.heads.length : Int) - 1) :
  (zda (zcg p))[j + 1]? = some (xs.take (m - 1) ++ (a + 1) :: List.replicate (xs.length - m) 0) := by
 have := cand_next (sizes_pos hp) hx (m := m - 1) (fun k n x hk => hz k n x (by omega)) ha (sizes_at hq) he
 rwa [show xs.length - (m - 1 + 1) = xs.length - m by omega] at this
theorem cand_small {p : Poll} {xs : List Int} {j k : Nat} {a : Int} (hp : zdh p = true) (hx : (zda (zcg p))[j]? = some xs) (ha : xs[k]? = some a) : 0 ≤ a ∧ a ≤ 2 := by
 have h1 := candL_mem.1 (List.mem_of_getElem? hx)
 have hk : k < (zcg p).length := by rw [← h1.1]; exact (List.getElem?_eq_some_iff.1 ha).1
 have h2 := h1.2 k _ a (List.getElem?_eq_getElem hk) ha
 have h3 := sizes_ok hp _ (List.getElem_mem hk)
 omega
theorem truths_end {p : Poll} {xs : List Int} {j : Nat} (hx : (zda (zcg p))[j]? = some xs) (hz : ∀ (k n : Nat) (x : Int), 0 ≤ k → (zcg p)[k]? = some n → xs[k]? = some x → x = (n : Int) - 1) : zas p = ((zda (zcg p)).take j).filter (zef p) ++ if zef p xs = true then [xs] else [] := by
 have h1 := cand_last hx fun k n x => hz k n x (Nat.zero_le _)
 have h2 : (zda (zcg p)).take (j + 1) = zda (zcg p) := List.take_of_length_le (by rw [zfX]; omega)
 rw [zas, ← h2, zbb hx, List.filter_append, List.filter_cons, List.filter_nil]
 rw [List.take_append_of_le_length (by rw [List.length_take]; have := (List.getElem?_eq_some_iff.1 hx).1; omega), List.take_take, Nat.min_self]
theorem zih {p : Poll} (hp : zdh p = true) : (zas p).length ≤ 729 := by
 refine Nat.le_trans (List.length_filter_le _ _) ?_
 rw [zfX]; exact prod_le hp
end Go.Pk

namespace Go.Pk
open Go Go.RowKit
def ltL : List Int → List Int → Bool
 | a :: s, b :: t => if a = b then ltL s t else decide (a < b)
 | _, _ => false
def beforeL (a b : List Int) : Bool := if a.length ≠ b.length then decide (a.length < b.length) else ltL a b
def alikeL (a b l : List Int) : Bool := l.all fun k => decide (a[k.toNat]? = b[k.toNat]?)
def tellsAt (ts : List (List Int)) (l : List Int) (i : Nat) : Bool := match ts[i]? with | some t => (ts.take i).all fun u => !alikeL t u l | none => true
def tellsL (ts : List (List Int)) (l : List Int) : Bool := (List.range ts.length).all (tellsAt ts l)
def membersL (s : Int) (n : Nat) : List Int := ((List.range n).filter fun (i : Nat) => decide (bitN s (i : Int) = 1)).map fun (i : Nat) => (i : Int)
def askK (ts : List (List Int)) (n : Nat) : Nat → Option (List Int)
 | 0 => none
 | k + 1 => if ((match askK ts n k with | none => true | some b => beforeL (membersL (k : Int) n) b) && tellsL ts (membersL (k : Int) n)) = true then some (membersL (k : Int) n) else askK ts n k
def askR7 (p : Poll) : List Int := if allE p true = 0 then (askK (zas p) p.questions.length (2 ^ p.questions.length)).getD [] else []
def nextK (ts : List (List Int)) : Nat → Nat
 | 0 => 0
 | k + 1 => if worstN ts (k + 1) < worstN ts (nextK ts k) then k + 1 else nextK ts k
def nextE (p : Poll) : Int := if allE p true ≠ 0 then allE p true else if (zas p).length = 1 then 6 else 0
def nextR (p : Poll) : Int := if nextE p = 0 then (nextK (zas p) (p.questions.length - 1) : Int) else 0
theorem zhi {p : Poll} {t : List Int} (h : t ∈ zas p) : t.length = p.questions.length := true_len (List.mem_filter.1 h).2
theorem truth_in {p : Poll} {t : List Int} (h : t ∈ zas p) {k : Nat} {a : Int} {q : Question} (ha : t[k]? = some a) (hq : p.questions[k]? = some q) : 0 ≤ a ∧ a < (q.heads.length : Int) := true_in (List.mem_filter.1 h).2 ha hq
def openB (ts : List (List Int)) (q : Nat) (h : Int) : Bool := ts.any fun t => decide (t[q]? = some h)
def openK (ts : List (List Int)) (q n : Nat) : List Int := ((List.range n).filter fun (h : Nat) => openB ts q (h : Int)).map fun (h : Nat) => (h : Int)
def openR (p : Poll) (question : Int) : List Int := if allE p (inB question 0 ((p.questions.length : Int) - 1)) = 0 then openK (zas p) question.toNat (((p.questions[question.toNat]?).getD zid).heads.length) else []
def tallyL (vs : List Voter) (q n : Nat) : List Int := (List.range n).map fun (h : Nat) => (((vs.filter fun v => decide (v.votes[q]? = some (h : Int))).length : Nat) : Int)
def tallyE (p : Poll) (question : Int) : Int := if zev p ≠ 0 then zev p else if inB question 0 ((p.questions.length : Int) - 1) = true then 0 else 2
def tallyR (p : Poll) (question : Int) : List Int := if tallyE p question = 0 then tallyL p.voters question.toNat (((p.questions[question.toNat]?).getD zid).heads.length) else []
end Go.Pk

namespace Go.Pk
open Go Go.RowKit
def setAt (ts : List (List Int)) (a0 : List Int) (k : Nat) : Int := match a0[k]? with | some h => if (ts.all fun t => decide (t[k]? = some h)) = true then h else -1 | none => -1
def setK (ts : List (List Int)) (a0 : List Int) : List Int := (List.range a0.length).map (setAt ts a0)
def zbK (ts : List (List Int)) : List Int := match ts[0]? with | some a0 => setK ts a0 | none => []
theorem zeg (ts : List (List Int)) (a0 : List Int) : (setK ts a0).length = a0.length := by simp [setK]
theorem zii {ts : List (List Int)} {a0 : List Int} {k : Nat} (hk : k < a0.length) : (setK ts a0)[k]? = some (setAt ts a0 k) := by rw [setK, List.getElem?_map, List.getElem?_range hk]; rfl
theorem setK_one {ts : List (List Int)} {a0 : List Int} (h : ts[0]? = some a0) : setK (ts.take 1) a0 = a0 := by
 have e : ts.take 1 = [a0] := by
  cases ts with
  | nil => cases h
  | cons a l => simp at h; subst h; rfl
 rw [e]
 refine List.ext_getElem? fun k => ?_
 by_cases hk : k < a0.length
 ·rw [zii hk, setAt, List.getElem?_eq_getElem hk]; simp
 rw [List.getElem?_eq_none (by rw [zeg]; omega), List.getElem?_eq_none (by omega)]
def setM (ts : List (List Int)) (a0 : List Int) (i k : Nat) : List Int := (setK (ts.take (i + 1)) a0).take k ++ (setK (ts.take i) a0).drop k
theorem setM_len (ts : List (List Int)) (a0 : List Int) (i k : Nat) : (setM ts a0 i k).length = a0.length := by
 rw [setM, List.length_append, List.length_take, List.length_drop, zeg, zeg]; omega
theorem setM_zero (ts : List (List Int)) (a0 : List Int) (i : Nat) : setM ts a0 i 0 = setK (ts.take i) a0 := by simp [setM]
theorem setM_end {ts : List (List Int)} {a0 : List Int} {i k : Nat} (hk : a0.length ≤ k) : setM ts a0 i k = setK (ts.take (i + 1)) a0 := by
 rw [setM, List.take_of_length_le (by rw [zeg]; omega), List.drop_eq_nil_of_le (by rw [zeg]; omega), List.append_nil]
theorem setM_at {ts : List (List Int)} {a0 : List Int} {i k : Nat} (hk : k < a0.length) : setM ts a0 i (k + 1) = (setM ts a0 i k).set k (setAt (ts.take (i + 1)) a0 k) := by
 have h1 : (setK (ts.take (i + 1)) a0)[k]? = some (setAt (ts.take (i + 1)) a0 k) := zii hk
 have h2 : (setK (ts.take i) a0)[k]? = some (setAt (ts.take i) a0 k) := zii hk
 have hl : ((setK (ts.take (i + 1)) a0).take k).length = k := by rw [List.length_take, zeg]; omega
 rw [setM, zbb h1, setM, List.set_append_right _ _ (by omega), hl, Nat.sub_self, zdM h2, List.set_cons_zero, List.append_assoc]; rfl
theorem setAt_snoc {ts : List (List Int)} {a0 t : List Int} {i k : Nat} {h x : Int} (ht : ts[i]? = some t) (h0 : a0[k]? = some h) (hx : t[k]? = some x) : setAt (ts.take (i + 1)) a0 k = if x = h then setAt (ts.take i) a0 k else -1 := by
 simp only [setAt, h0]
 rw [zbb ht, List.all_append, List.all_cons, List.all_nil, Bool.and_true, hx]
 by_cases e : x = h
 ·simp [e]
 simp [e]
theorem setM_same {ts : List (List Int)} {a0 t : List Int} {i k : Nat} {h x : Int} (ht : ts[i]? = some t) (h0 : a0[k]? = some h) (hx : t[k]? = some x) (e : x = h) : setM ts a0 i (k + 1) = setM ts a0 i k := by
 have hk : k < a0.length := (List.getElem?_eq_some_iff.1 h0).1
 rw [setM_at hk, setAt_snoc ht h0 hx, if_pos e]
 refine List.ext_getElem? fun j => ?_
 by_cases ej : j = k
 ·subst ej
  rw [List.getElem?_set_self (by rw [setM_len]; exact hk), setM, List.getElem?_append_right (by rw [List.length_take]; omega), List.length_take, zeg, Nat.min_eq_left (by omega), Nat.sub_self, List.getElem?_drop, Nat.add_zero, zii hk]
 rw [List.getElem?_set_ne (Ne.symm ej)]
theorem setM_else {ts : List (List Int)} {a0 t : List Int} {i k : Nat} {h x : Int} (ht : ts[i]? = some t) (h0 : a0[k]? = some h) (hx : t[k]? = some x) (e : ¬ x = h) : setM ts a0 i (k + 1) = (setM ts a0 i k).set k (-1) := by
 rw [setM_at (List.getElem?_eq_some_iff.1 h0).1, setAt_snoc ht h0 hx, if_neg e]
def settledR (p : Poll) : List Int := if allE p true = 0 then zbK (zas p) else []
def spanK (v : Voter) (ts : List (List Int)) : Span := ts.foldl (fun s t => ⟨minI s.lo (zcY v t), maxI s.hi (zcY v t)⟩) ⟨6, 0⟩
def wrongsR (p : Poll) (voter : Int) : Span := if allE p (inB voter 0 ((p.voters.length : Int) - 1)) = 0 then spanK ((p.voters[voter.toNat]?).getD zVoter) (zas p) else zSpan
end Go.Pk

namespace Go.Pk
open Go Go.RowKit
section
variable {P : Program} {σ : Env} {w : World} {ty : TypeId} {pos : String} {aft : Array Edge} {g : Option (Nat × Bool)} {dst : Option Tmp}
theorem r_sgtr {t t' : TypeId} {x y : Operand} {a b : Str} (hx : ev σ x = strV a) (hy : ev σ y = strV b) : Run P σ w ⟨dst, .binOp .gtr t x y t', ty, pos, aft, g⟩ (.bool (!(Op.bytesLess a b || decide (a = b)))) w := by
 simp only [strV] at hx hy
 simp [Run, execOp, hx, hy, eqGuard, binOp, Op.stringOp, beq_str]
theorem zgg {t e : TypeId} {x ix : Operand} {i : Int} {k m n : Nat} {vs us : List Value} (hx : ev σ x = .agg vs.toArray) (hi : ev σ ix = .int .i64 i) (hk : i = (k : Int)) (hlt : Nat.blt k n = true) (hu : P.underlying t = some (.array n e)) (ha : ∀ w, (isAgg e).run P w = .ok true w) (hz : ∀ w, (sizeOf e).run P w = .ok m w) (hv : (vs.drop (k * m)).take m = us) :
  Run P σ w ⟨dst, .index t x ix, ty, pos, aft, g⟩ (.agg us.toArray) w := by
 subst hk hv
 have h1 : k < n := by rwa [Nat.blt_eq] at hlt
 simp [Run, execOp, hx, hi, Instr.index, asIntOf, run_underlying hu, h1, part, ha, hz]
end
def cmpT (a b : Str) : Int := if sLt a b = true then -1 else if a = b then 0 else 1
def orL : List Int → Int
 | [] => 0
 | a :: l => if a ≠ 0 then a else orL l
theorem orL_drop {l : List Int} {k : Nat} {a : Int} (h : l[k]? = some a) : orL (l.drop k) = if a ≠ 0 then a else orL (l.drop (k + 1)) := by rw [zdM h]; rfl
theorem places_lt (a b : Place) : decide (orL [cmpI a.chapter b.chapter, cmpI a.line b.line, cmpI a.word b.word] < 0) = zdA a b := by
 rcases a with ⟨a1, a2, a3⟩; rcases b with ⟨b1, b2, b3⟩
 simp only [orL, cmpI, zdA, ne_eq]
 rw [Bool.eq_iff_iff, decide_eq_true_eq]
 by_cases h1 : a1 = b1 <;> by_cases h2 : a2 = b2 <;> simp only [h1, h2, not_true_eq_false, not_false_eq_true, if_true, if_false, decide_eq_true_eq, Int.lt_irrefl] <;> (repeat' split) <;> omega
theorem heads_lt (a b : Head) : decide (orL [cmpT a.stem b.stem, cmpI a.mark b.mark] < 0) = headLt a b := by
 rcases a with ⟨s1, m1⟩; rcases b with ⟨s2, m2⟩
 simp only [orL, cmpT, cmpI, headLt, ne_eq]
 rw [Bool.eq_iff_iff, decide_eq_true_eq]
 by_cases h1 : sLt s1 s2 = true
 ·simp [h1]
 simp only [h1, if_false, Bool.or_eq_true, Bool.and_eq_true, decide_eq_true_eq, false_or, Bool.false_eq_true]
 by_cases h2 : s1 = s2
 ·subst h2
  simp only [if_true, not_true_eq_false, if_false, true_and]
  (repeat' split) <;> omega
 simp [h2]
def zeo (p : Poll) (i : Nat) (q : Question) : Bool := zbB p.text q.at_ && (decide (i = 0) || zdA ((p.questions[i - 1]?).getD zid).at_ q.at_) && inB q.heads.length 2 3
def zfy (p : Poll) (i : Nat) (q : Question) (k : Nat) : Bool := zeo p i q && (List.range k).all (zcX q.heads)
theorem zhR (p : Poll) (i : Nat) (q : Question) (k : Nat) : zfy p i q (k + 1) = (zfy p i q k && zcX q.heads k) := by
 simp only [zfy, List.range_succ, List.all_append, List.all_cons, List.all_nil, Bool.and_true, Bool.and_assoc]
theorem questK_zero (p : Poll) (i : Nat) (q : Question) : zfy p i q 0 = zeo p i q := by simp [zfy]
theorem quest_eq {p : Poll} {i k : Nat} {q : Question} (hq : p.questions[i]? = some q) (hk : q.heads.length = k) : zeE p i = zfy p i q k := by
 subst hk
 simp only [zeE, hq, zfy, zeo, headsOk]
section
variable {p : Poll} {i k : Nat} {q q1 : Question} {hd h1 : Head}
theorem q_init0 (a : (if zbB p.text q.at_ = true then (0 : Int) else 12) = 0) (b : zcJ [(q.heads.length : Int)] 2 3 = true) (c : (i : Int) = 0) : true = zeo p i q := by
 have a : zbB p.text q.at_ = true := by
  cases e : zbB p.text q.at_
  ·rw [e] at a; simp at a
  ·rfl
 rw [inAll_one] at b
 simp only [zeo, a, b, decide_eq_true (show i = 0 by omega), Bool.and_true, Bool.true_or]
theorem q_init1 (a : (if zbB p.text q.at_ = true then (0 : Int) else 12) = 0) (b : zcJ [(q.heads.length : Int)] 2 3 = true) (c : ¬ (i : Int) = 0) (d : p.questions[i - 1]? = some q1) : decide (orL [cmpI q1.at_.chapter q.at_.chapter, cmpI q1.at_.line q.at_.line, cmpI q1.at_.word q.at_.word] < 0) = zeo p i q := by
 have a : zbB p.text q.at_ = true := by
  cases e : zbB p.text q.at_
  ·rw [e] at a; simp at a
  ·rfl
 rw [inAll_one] at b
 simp only [zeo, a, b, decide_eq_false (show ¬ i = 0 by omega), Bool.and_true, Bool.true_and, Bool.false_or, places_lt, d, Option.getD_some]
theorem q_init2 (b : zcJ [(q.heads.length : Int)] 2 3 = false) : false = zeo p i q := by
 rw [inAll_one] at b
 simp only [zeo, b, Bool.and_false]
theorem q_init3 (a : ¬ (if zbB p.text q.at_ = true then (0 : Int) else 12) = 0) : false = zeo p i q := by
 have a : zbB p.text q.at_ = false := by
  cases e : zbB p.text q.at_
  ·rfl
  ·rw [e] at a; simp at a
 simp only [zeo, a, Bool.false_and]
theorem q_step0 (a : zfy p i q k = true) (b : zdV hd = true) (c : (k : Int) = 0) (d : q.heads[k]? = some hd) : true = (zfy p i q k && zcX q.heads k) := by
 simp only [a, zcX, d, b, decide_eq_true (show k = 0 by omega), Bool.true_or, Bool.and_true]
theorem q_step1 (a : zfy p i q k = true) (b : zdV hd = true) (c : ¬ (k : Int) = 0) (d : q.heads[k]? = some hd) (e : q.heads[k - 1]? = some h1) : decide (orL [cmpT h1.stem hd.stem, cmpI h1.mark hd.mark] < 0) = (zfy p i q k && zcX q.heads k) := by
 simp only [a, zcX, d, b, e, decide_eq_false (show ¬ k = 0 by omega), Bool.false_or, Bool.true_and, heads_lt, Option.getD_some]
theorem q_step2 (b : zdV hd = false) (d : q.heads[k]? = some hd) : false = (zfy p i q k && zcX q.heads k) := by
 simp only [zcX, d, b, Bool.false_and, Bool.and_false]
theorem q_step3 (a : zfy p i q k = false) : false = (zfy p i q k && zcX q.heads k) := by simp only [a, Bool.false_and]
end
def zcf (p : Poll) (v : Voter) (i : Nat) : Nat → Bool
 | 0 => inB v.id 0 9999
 | 1 => inB v.wrong 0 6
 | 2 => decide (v.votes.length = p.questions.length)
 | 3 => votesOk p v
 | _ => !((p.voters.take i).any fun u => decide (u.id = v.id))
theorem ask_all {p : Poll} {v : Voter} {i k : Nat} (hv : p.voters[i]? = some v) (h : ∀ m, m < k → zcf p v i m = true) (hk : 5 ≤ k) : zed p i = true := by
 have h0 := h 0 (by omega); have h1 := h 1 (by omega); have h2 := h 2 (by omega); have h3 := h 3 (by omega); have h4 := h 4 (by omega)
 simp only [zcf] at h0 h1 h2 h3 h4
 simp only [zed, hv, ziv, h0, h1, h2, h3, Bool.and_true, Bool.true_and]
 rw [List.all_eq_true]
 intro u hu
 simp only [Bool.not_eq_true', List.any_eq_false, decide_eq_true_eq] at h4
 exact decide_eq_true (h4 u hu)
theorem ask_no {p : Poll} {v : Voter} {i k : Nat} (hv : p.voters[i]? = some v) (h : zcf p v i k = false) : zdh p = false := by
 refine poll_v (i := i) ?_
 simp only [zed, hv, ziv]
 match k, h with
 | 0, h => simp only [zcf] at h; simp [h]
 | 1, h => simp only [zcf] at h; simp [h]
 | 2, h => simp only [zcf] at h; simp [h]
 | 3, h => simp only [zcf] at h; simp [h]
 | k + 4, h =>
  simp only [zcf, Bool.not_eq_false', List.any_eq_true, decide_eq_true_eq] at h
  obtain ⟨u, hu, e⟩ := h
  have : ((p.voters.take i).all fun u => decide (u.id ≠ v.id)) = false := List.all_eq_false.2 ⟨u, hu, by simp [e]⟩
  rw [this, Bool.and_false]
theorem asked_len {p : Poll} {v u : Voter} {j : Nat} (hv : p.voters[j]? = some v) (h : zcf p v j 2 = true) : u.votes.length = p.questions.length ∨ p.voters[((j : Int)).toNat]? ≠ some u := by
 by_cases e : p.voters[((j : Int)).toNat]? = some u
 ·rw [Int.toNat_natCast, hv] at e
  cases e
  exact .inl (by simpa [zcf] using h)
 exact .inr e
theorem zfW {p : Poll} (h0 : zaQ p.text p.lexicon = 0) (h : zdh p = false) : zev p = 70 := by simp [zev, h0, h]
theorem check_yes {p : Poll} (h0 : zaQ p.text p.lexicon = 0) (h : zdh p = true) : zev p = 0 := by simp [zev, h0, h]
theorem quest_no {p : Poll} {i : Nat} {q : Question} (hq : p.questions[i]? = some q) (h : zeo p i q = false) : zeE p i = false := by
 simp only [zeE, hq]
 show (zeo p i q && headsOk q.heads) = false
 rw [h]; rfl
theorem quest_ok {p : Poll} {i : Nat} {q : Question} (h : zeo p i q = true) : zbB p.text q.at_ = true ∧ (decide (i = 0) || zdA ((p.questions[i - 1]?).getD zid).at_ q.at_) = true ∧ inB q.heads.length 2 3 = true := by
 simp only [zeo, Bool.and_eq_true] at h
 exact ⟨h.1.1, h.1.2, h.2⟩
def voteB (p : Poll) (v : Voter) : Bool := inB v.id 0 9999 && inB v.wrong 0 6 && decide (v.votes.length = p.questions.length)
theorem vote_no {p : Poll} {i : Nat} {v : Voter} (hv : p.voters[i]? = some v) (h : voteB p v = false) : zed p i = false := by
 simp only [zed, hv, ziv]
 show ((voteB p v && votesOk p v) && _) = false
 rw [h]; rfl
theorem vote_ok {p : Poll} {v : Voter} (h : voteB p v = true) : inB v.id 0 9999 = true ∧ inB v.wrong 0 6 = true ∧ v.votes.length = p.questions.length := by
 simp only [voteB, Bool.and_eq_true, decide_eq_true_eq] at h
 exact ⟨h.1.1, h.1.2, h.2⟩
end Go.Pk
