/- A PART OF THE PROOF: contracts of functions, each walked once (much of it printed by a program of the author's own). -/
import Derived.Test.YtfpiiheehdedmaaGreatDoorT3
set_option linter.unusedSimpArgs false
set_option linter.unusedVariables false
set_option maxRecDepth 4000
namespace Go.Pk
open Go Go.RowKit
def decD (x : Lexicon) (q : Question) (hd : Head) : Decision := ⟨mostN x.decisions + 1, 3, [], q.at_, hd, 0⟩
def decN (n : Int) (q : Question) (hd : Head) : Decision := ⟨n, 3, [], q.at_, hd, 0⟩
def decQ (p : Poll) (x : Lexicon) (q : Question) (h : Int) : Lexicon × Int :=
 if h < 0 then (x, 0) else if (askR p.text x q.at_).to = (q.heads[h.toNat]?).getD zdq then (x, 0)
 else (addN p.text x (decD x q ((q.heads[h.toNat]?).getD zdq)), addE p.text x (decD x q ((q.heads[h.toNat]?).getD zdq)))
def decK (p : Poll) (s : List Int) : Nat → Lexicon × Int
 | 0 => (p.lexicon, 0)
 | k + 1 => if (decK p s k).2 = 0 then (match p.questions[k]?, s[k]? with
  | some q, some h => decQ p (decK p s k).1 q h
  | _, _ => decK p s k) else decK p s k
def zeo (p : Poll) : Int := if allE p true = 0 then (decK p (zcU (zM p)) (zcU (zM p)).length).2 else allE p true
def zcI (p : Poll) : Lexicon := if allE p true = 0 then (decK p (zcU (zM p)) (zcU (zM p)).length).1 else zfa
variable {p : Poll} {s : List Int} {k : Nat} {x : Lexicon} {q : Question} {h : Int} {hd : Head}
theorem dec_skip (a : decK p s k = (x, 0)) (hq : p.questions[k]? = some q) (hs : s[k]? = some h) (h0 : h < 0) : decK p s (k + 1) = (x, 0) := by
 simp only [decK, a, if_true, hq, hs, decQ, if_pos h0]
theorem dec_same (a : decK p s k = (x, 0)) (hq : p.questions[k]? = some q) (hs : s[k]? = some h) (h0 : ¬ h < 0) (hh : q.heads[h.toNat]? = some hd) (e : (askR p.text x q.at_).to = hd) : decK p s (k + 1) = (x, 0) := by
 simp only [decK, a, if_true, hq, hs, decQ, if_neg h0, hh, Option.getD_some, if_pos e]
theorem dec_add (a : decK p s k = (x, 0)) (hq : p.questions[k]? = some q) (hs : s[k]? = some h) (h0 : ¬ h < 0) (hh : q.heads[h.toNat]? = some hd) (e : ¬ (askR p.text x q.at_).to = hd) : decK p s (k + 1) = (addN p.text x (decD x q hd), addE p.text x (decD x q hd)) := by
 simp only [decK, a, if_true, hq, hs, decQ, if_neg h0, hh, Option.getD_some, if_neg e]
theorem dec_stop (e : ¬ (decK p s k).2 = 0) : ∀ d, decK p s (k + d) = decK p s k
 | 0 => rfl
 | d + 1 => by rw [← Nat.add_assoc, decK, dec_stop e d, if_neg e]
theorem addN_bad {t : Text} {d : Decision} (e : ¬ addE t x d = 0) : addN t x d = zfa := by rw [addN, if_neg e]
theorem dec_err (a : decK p s k = (x, 0)) (hq : p.questions[k]? = some q) (hs : s[k]? = some h) (h0 : ¬ h < 0) (hh : q.heads[h.toNat]? = some hd) (e : ¬ (askR p.text x q.at_).to = hd) (e2 : ¬ addE p.text x (decD x q hd) = 0) : decK p s s.length = (zfa, addE p.text x (decD x q hd)) := by
 have h1 := dec_add a hq hs h0 hh e
 have hk := (List.getElem?_eq_some_iff.1 hs).1
 have := dec_stop (p := p) (s := s) (k := k + 1) (by rw [h1]; exact e2) (s.length - (k + 1))
 rw [show k + 1 + (s.length - (k + 1)) = s.length by omega] at this
 rw [this, h1, addN_bad e2]
theorem dec_check (hx : zaR p.text p.lexicon = 0) : ∀ k, (decK p s k).2 = 0 → zaR p.text (decK p s k).1 = 0
 | 0, _ => hx
 | k + 1, e => by
  have ih := dec_check hx k
  rw [decK] at e ⊢
  by_cases h0 : (decK p s k).2 = 0
  ·rw [if_pos h0] at e ⊢
   split at e
   ·rename_i q h hq hs
    unfold decQ at e ⊢
    split at e
    ·rename_i c; rw [if_pos c]; exact ih h0
    ·rename_i c
     rw [if_neg c]
     split at e
     ·rename_i c2; rw [if_pos c2]; exact ih h0
     ·rename_i c2; rw [if_neg c2]; exact addN_check e
   ·exact ih h0
  ·rw [if_neg h0] at e; exact absurd e h0
theorem dec_ok (hx : zaR p.text p.lexicon = 0) (a : decK p s k = (x, 0)) : zaR p.text x = 0 := by
 have := dec_check (s := s) hx k
 rw [a] at this; exact this rfl
def nextN (l : List Decision) : Int := mostN l + 1
theorem nextN_snoc {l : List Decision} {k : Nat} {d : Decision} (h : l[k]? = some d) : maxI (nextN (l.take k)) (d.number + 1) = nextN (l.take (k + 1)) := by
 rw [nextN, nextN, mostN_snoc h, maxI]; split <;> omega
theorem nextN_eq {l : List Decision} {k : Nat} (h : l.length ≤ k) : nextN (l.take k) = mostN l + 1 := by rw [List.take_of_length_le h]; rfl
theorem mostN_le' (hx : OkD x) (k : Nat) : mostN (x.decisions.take k) ≤ 999 := fold_max_le _ _ _ (by omega) fun d hd => (hx.2 d (List.mem_of_mem_take hd)).2.1
theorem nextN_le (hx : OkD x) (k : Nat) : 1 ≤ nextN (x.decisions.take k) ∧ nextN (x.decisions.take k) ≤ 1000 := by
 have := mostN_le' hx k
 have := mostN_pos (x.decisions.take k)
 rw [nextN]; omega
def mootB (p : Poll) (s : List Int) (k : Nat) (w : Str) : Bool := match p.questions[k]?, s[k]? with
 | some q, some h => decide (h < 0) && decide (zcs p.text q.at_ = w)
 | _, _ => false
def mootQ (p : Poll) (s : List Int) (n : Nat) (w : Str) : Bool := (List.range n).any fun k => mootB p s k w
theorem moot_succ (p : Poll) (s : List Int) (n : Nat) (w : Str) : mootQ p s (n + 1) w = (mootQ p s n w || mootB p s n w) := by simp [mootQ, List.range_succ, List.any_append]
theorem moot_at {p : Poll} {s : List Int} {n : Nat} {w : Str} {q : Question} {h : Int} (hq : p.questions[n]? = some q) (hs : s[n]? = some h) : mootQ p s (n + 1) w = (mootQ p s n w || (decide (h < 0) && decide (zcs p.text q.at_ = w))) := by
 rw [moot_succ, mootB, hq, hs]
def mootR (p : Poll) : List Str := if allE p true = 0 then (homR p.text p.lexicon).filter (mootQ p (zcU (zM p)) (zcU (zM p)).length) else []
def zgG (ws : List Str) (p : Poll) (s : List Int) (n : Nat) (w : Str) : Option Bool := if w ∈ ws ∧ mootQ p s n w = false then some true else none
theorem still_skip {ws : List Str} {p : Poll} {s : List Int} {n : Nat} {q : Question} {h : Int} (hq : p.questions[n]? = some q) (hs : s[n]? = some h) (h0 : ¬ h < 0) {m : List (Str × Bool)} (hm : ∀ w, look m w = zgG ws p s n w) : ∀ w, look m w = zgG ws p s (n + 1) w := by
 intro w
 rw [hm, zgG, zgG, moot_at hq hs, decide_eq_false h0]; simp
theorem still_del {ws : List Str} {p : Poll} {s : List Int} {n : Nat} {q : Question} {h : Int} (hq : p.questions[n]? = some q) (hs : s[n]? = some h) (h0 : h < 0) {m : List (Str × Bool)} (hm : ∀ w, look m w = zgG ws p s n w) : ∀ w, look (delM m (zcs p.text q.at_)) w = zgG ws p s (n + 1) w := by
 intro w
 rw [look_delM, hm, zgG, zgG, moot_at hq hs, decide_eq_true h0, Bool.true_and]
 by_cases e : w = zcs p.text q.at_
 ·subst e; simp
 rw [if_neg e, decide_eq_false (fun q => e q.symm), Bool.or_false]
theorem still_put {ws : List Str} {k : Nat} {w0 : Str} (h : ws[k]? = some w0) {m : List (Str × Bool)} (hm : ∀ w, look m w = if w ∈ ws.take k then some true else none) : ∀ w, look (putM m w0 true) w = if w ∈ ws.take (k + 1) then some true else none := by
 intro w
 rw [ziI, zbf h, hm]
 by_cases e : w = w0
 ·subst e; simp
 simp [e]
theorem still_zero {ws : List Str} {k : Nat} (hk : ws.length ≤ k) {p : Poll} {s : List Int} {m : List (Str × Bool)} (hm : ∀ w, look m w = if w ∈ ws.take k then some true else none) : ∀ w, look m w = zgG ws p s 0 w := by
 intro w
 rw [hm, List.take_of_length_le hk, zgG]
 simp [mootQ]
theorem still_filter {ws : List Str} {p : Poll} {s : List Int} {n : Nat} {m : List (Str × Bool)} (hm : ∀ w, look m w = zgG ws p s n w) : ws.filter (fun w => !(look m w).getD false) = ws.filter (mootQ p s n) := by
 refine List.filter_congr fun w hw => ?_
 rw [hm, zgG]
 cases e : mootQ p s n w <;> simp [hw]
end Go.Pk

namespace Go.Pk
open Go Go.RowKit
def dPE : Decision := ⟨1, 3, [], ⟨1, 0, 2⟩, ⟨wSee, 2⟩, 0⟩
def lexP (more : List Decision) : Lexicon := ⟨[], dPE :: more⟩
def seaSee : List Head := [⟨wSea, 1⟩, ⟨wSee, 2⟩]
def questsE : List Question := [⟨⟨0, 0, 1⟩, seaSee⟩, ⟨⟨0, 0, 3⟩, [⟨wAge, 3⟩, ⟨wOld, 0⟩]⟩, ⟨⟨1, 0, 0⟩, seaSee⟩]
def votersE : List Voter := [⟨5, 0, [-1, 1, -1]⟩, ⟨2, 1, [0, 0, 0]⟩, ⟨8, 1, [0, -1, 1]⟩]
def zdj : Poll := ⟨zhP, lexP [], questsE, votersE⟩
def twoE : Poll := ⟨zhP, lexP [], questsE, votersE.drop 1⟩
theorem checkLP : zaR zhP (lexP []) = 0 := by decide +kernel
theorem checkPE : zbM zdj = 0 := by decide +kernel
theorem checkP2 : zbM twoE = 0 := by decide +kernel
theorem truthsE : zM zdj = [[0, 1, 0]] := by decide +kernel
theorem ziU : zM twoE = [[0, 0, 0], [0, 0, 1], [0, 1, 0]] := by decide +kernel
theorem allEE : allE zdj true = 0 := by rw [allE, if_neg (by rw [checkPE]; decide), if_neg (by decide), truthsE]; rfl
theorem allE2 : allE twoE true = 0 := by rw [allE, if_neg (by rw [checkP2]; decide), if_neg (by decide), ziU]; rfl
theorem setE : zcU (zM zdj) = [0, 1, 0] := by rw [truthsE]; decide +kernel
theorem set2 : zcU (zM twoE) = [0, -1, -1] := by rw [ziU]; decide +kernel
def e1E : Decision := ⟨2, 3, [], ⟨0, 0, 1⟩, ⟨wSea, 1⟩, 0⟩
def e2E : Decision := ⟨3, 3, [], ⟨1, 0, 0⟩, ⟨wSea, 1⟩, 0⟩
theorem addP1 : addE zhP (lexP []) e1E = 0 := by decide +kernel
theorem addP2 : addE zhP (lexP [e1E]) e2E = 0 := by decide +kernel
theorem addXP1 : addX (lexP []) e1E = lexP [e1E] := addX_eq (ys := [dPE, e1E]) (List.Perm.refl _) (by decide +kernel) (by decide +kernel)
theorem addXP2 : addX (lexP [e1E]) e2E = lexP [e1E, e2E] := addX_eq (ys := [dPE, e1E, e2E]) (List.Perm.refl _) (by decide +kernel) (by decide +kernel)
theorem checkLP1 : zaR zhP (lexP [e1E]) = 0 := by decide +kernel
theorem dec1 : decK zdj [0, 1, 0] 1 = (lexP [e1E], 0) := by
 rw [dec_add (p := zdj) (s := [0, 1, 0]) (k := 0) (x := lexP []) (hd := ⟨wSea, 1⟩) rfl rfl rfl (by decide) rfl (by show ¬ (askR zhP (lexP []) _).to = _; rw [askR_eq checkLP (by decide +kernel)]; decide +kernel)]
 rw [show decD (lexP []) ⟨⟨0, 0, 1⟩, seaSee⟩ ⟨wSea, 1⟩ = e1E by decide +kernel]
 show (addN zhP (lexP []) e1E, addE zhP (lexP []) e1E) = _
 rw [addN, if_pos addP1, addXP1, addP1]
theorem dec2 : decK zdj [0, 1, 0] 2 = (lexP [e1E], 0) :=
 dec_same (p := zdj) (s := [0, 1, 0]) (k := 1) (hd := ⟨wOld, 0⟩) dec1 rfl rfl (by decide) rfl (by
  show (askR zhP (lexP [e1E]) _).to = _
  rw [askR_eq checkLP1 (by decide +kernel)]; decide +kernel)
theorem dec3 : decK zdj [0, 1, 0] 3 = (lexP [e1E, e2E], 0) := by
 rw [dec_add (p := zdj) (s := [0, 1, 0]) (k := 2) (hd := ⟨wSea, 1⟩) dec2 rfl rfl (by decide) rfl (by
  show ¬ (askR zhP (lexP [e1E]) _).to = _
  rw [askR_eq checkLP1 (by decide +kernel)]; decide +kernel)]
 rw [show decD (lexP [e1E]) ⟨⟨1, 0, 0⟩, seaSee⟩ ⟨wSea, 1⟩ = e2E by decide +kernel]
 show (addN zhP (lexP [e1E]) e2E, addE zhP (lexP [e1E]) e2E) = _
 rw [addN, if_pos addP2, addXP2, addP2]
theorem decideEE : zeo zdj = 0 ∧ zcI zdj = lexP [e1E, e2E] := by
 rw [zeo, zcI, if_pos allEE, if_pos allEE, setE]
 exact ⟨congrArg Prod.snd dec3, congrArg Prod.fst dec3⟩
theorem homP : homR zhP (lexP []) = [wSea] := by rw [homV_eq checkLP]; decide +kernel
theorem moot2 : mootR twoE = [wSea] := by
 rw [mootR, if_pos allE2, set2]
 show (homR zhP (lexP [])).filter _ = _
 rw [homP]; decide +kernel
theorem ex_01 : (if zbM twoE = 0 then ((zM twoE).length : Int) else 0) = 3 := by rw [if_pos checkP2, ziU]; rfl
theorem ex_02 : ((allL zdj true)[0]?).getD [] = [0, 1, 0] := by rw [allL, if_pos allEE, truthsE]; rfl
theorem in_ok {p : Poll} {n m : Int} (h : allE p true = 0) (h1 : inB n 0 m = true) : allE p (inB n 0 m) = 0 := by rw [h1]; exact h
theorem ex_03 : allE twoE (inB 1 0 ((twoE.questions.length : Int) - 1)) = 0 := in_ok allE2 (by decide +kernel)
theorem ex_04 : openR twoE 1 = [0, 1] := by rw [openR, if_pos ex_03, ziU]; decide +kernel
theorem ex_05 : zbz twoE = [0, -1, -1] := by rw [zbz, if_pos allE2, set2]
theorem ex_06 : allE zdj (inB 1 0 ((zdj.voters.length : Int) - 1)) = 0 := in_ok allEE (by decide +kernel)
theorem ex_07 : zeT zdj 1 = ⟨1, 1⟩ := by rw [zeT, if_pos ex_06, truthsE]; decide +kernel
theorem ex_08 : zis zdj 0 = 0 := by rw [zis, if_neg (by rw [checkPE]; decide), if_pos (by decide +kernel)]
theorem ex_09 : tallyR zdj 0 = [2, 0] := by rw [tallyR, if_pos ex_08]; decide +kernel
theorem ex_10 : ziR twoE = [1, 2] := by rw [ziR, if_pos allE2, ziU]; decide +kernel
theorem ex_11 : nextE twoE = 0 := by rw [nextE, if_neg (by rw [allE2]; decide), ziU]; rfl
theorem ex_12 : nextR twoE = 1 := by rw [nextR, if_pos ex_11, ziU]; decide +kernel
theorem ex_13 : ((zcI zdj).decisions.length : Int) = 3 := by rw [decideEE.2]; rfl
end Go.Pk

namespace Go.Pk
open Go Go.RowKit
def candX (l : List (List Int)) (n : Nat) : List (List Int) := l.flatMap fun x => (List.range n).map fun (h : Nat) => x ++ [(h : Int)]
def heads1 (x : List Int) (h : Nat) : List (List Int) := (List.range h).map fun (h : Nat) => x ++ [(h : Int)]
theorem inAt_of {p x : Poll} (hq : x.questions = p.questions) : inAt x = inAt p := by funext hs k; simp only [inAt, hq]
theorem votesOk_of {p x : Poll} (hq : x.questions = p.questions) : zfp x = zfp p := by
 have e : ∀ v, zeU x v = zeU p v := by intro v; funext k; simp only [zeU, hq]
 funext v; simp only [zfp, zhy, e, hq]
theorem questAt_of {p x : Poll} (ht : x.text = p.text) (hq : x.questions = p.questions) : zdN x = zdN p := by funext i; simp only [zdN, ht, hq]
theorem zhN {p : Poll} {hs : List Int} : zhO p hs = true ↔ (hs.length = p.questions.length ∧ (List.range hs.length).all (inAt p hs) = true) ∧ ∀ v ∈ p.voters, (zcF v hs : Int) ≤ v.wrong := by
 simp only [zhO, Bool.and_eq_true, decide_eq_true_eq]
 rw [List.all_eq_true (p := fun v => decide ((zcF v hs : Int) ≤ v.wrong))]
 simp only [decide_eq_true_eq]
theorem truths_sub {p x : Poll} (hq : x.questions = p.questions) (hv : ∀ v ∈ p.voters, v ∈ x.voters) : ∀ t ∈ zM x, t ∈ zM p := by
 intro t ht
 have h1 := List.mem_filter.1 ht
 refine List.mem_filter.2 ⟨by rw [show zdg p = zdg x by rw [zdg, zdg, hq]]; exact h1.1, ?_⟩
 have h2 := zhN.1 h1.2
 rw [hq, inAt_of hq] at h2
 exact zhN.2 ⟨h2.1, fun v h => h2.2 v (hv v h)⟩
theorem truths_same {p x : Poll} (hq : x.questions = p.questions) (hv : ∀ v, v ∈ x.voters ↔ v ∈ p.voters) : zM x = zM p := by
 rw [zM, zM, show zdg x = zdg p by rw [zdg, zdg, hq]]
 refine List.filter_congr fun hs _ => ?_
 rw [Bool.eq_iff_iff, zhN, zhN, hq, inAt_of hq]
 exact and_congr Iff.rfl ⟨fun h v h2 => h v ((hv v).2 h2), fun h v h2 => h v ((hv v).1 h2)⟩
theorem truths_le_of {p x : Poll} (hq : x.questions = p.questions) (hv : ∀ v ∈ p.voters, v ∈ x.voters) : (zM x).length ≤ (zM p).length := by
 have e : zM x = (zM p).filter fun t => decide (t ∈ zM x) := by
  rw [zM, zM, show zdg x = zdg p by rw [zdg, zdg, hq], List.filter_filter]
  refine List.filter_congr fun t ht => ?_
  rw [Bool.eq_iff_iff, Bool.and_eq_true, decide_eq_true_eq, List.mem_filter]
  constructor
  ·intro h
   have hx : t ∈ zM x := List.mem_filter.2 ⟨by rw [show zdg x = zdg p by rw [zdg, zdg, hq]]; exact ht, h⟩
   exact ⟨⟨ht, h⟩, (List.mem_filter.1 (truths_sub hq hv t hx)).2⟩
  ·exact fun h => h.1.2
 rw [e]; exact List.length_filter_le _ _
theorem ids_iff {vs : List Voter} : (∀ i v, vs[i]? = some v → ((vs.take i).all fun u => decide (u.id ≠ v.id)) = true) ↔ (vs.map (·.id)).Nodup := by
 rw [List.nodup_iff_pairwise_ne, List.pairwise_iff_getElem]
 simp only [List.length_map, List.getElem_map]
 constructor
 ·intro h i j hi hj hij
  have := List.all_eq_true.1 (h j vs[j] (List.getElem?_eq_getElem hj)) vs[i] (List.mem_of_getElem? (by rw [List.getElem?_take, if_pos hij]; exact List.getElem?_eq_getElem hi))
  simpa using this
 intro h i v hv
 obtain ⟨hi, rfl⟩ := List.getElem?_eq_some_iff.1 hv
 rw [List.all_eq_true]
 intro u hu
 obtain ⟨j, hj⟩ := List.mem_iff_getElem?.1 hu
 rw [List.getElem?_take] at hj
 split at hj
 ·obtain ⟨hj1, rfl⟩ := List.getElem?_eq_some_iff.1 hj
  simpa using h j i hj1 hi (by assumption)
 cases hj
theorem poll_iff {p : Poll} : zcJ p = true ↔ ((p.questions.length ≤ 6 ∧ p.voters.length ≤ 6) ∧ (List.range p.questions.length).all (zdN p) = true) ∧ (∀ v ∈ p.voters, zfp p v = true) ∧ (p.voters.map (·.id)).Nodup := by
 simp only [zcJ, Bool.and_eq_true, decide_eq_true_eq]
 refine and_congr Iff.rfl ?_
 rw [← ids_iff, List.all_eq_true]
 constructor
 ·intro h
  have h2 : ∀ i v, p.voters[i]? = some v → zfp p v = true ∧ ((p.voters.take i).all fun u => decide (u.id ≠ v.id)) = true := by
   intro i v hv
   have := h i (List.mem_range.2 (List.getElem?_eq_some_iff.1 hv).1)
   simpa only [zdM, hv, Bool.and_eq_true] using this
  refine ⟨fun v hv => ?_, fun i v hv => (h2 i v hv).2⟩
  obtain ⟨i, hi⟩ := List.mem_iff_getElem?.1 hv
  exact (h2 i v hi).1
 rintro ⟨h1, h2⟩ i hi
 have hv : p.voters[i]? = some (p.voters[i]'(List.mem_range.1 hi)) := List.getElem?_eq_getElem (List.mem_range.1 hi)
 simp only [zdM, hv, Bool.and_eq_true]
 exact ⟨h1 _ (List.mem_of_getElem? hv), h2 i _ hv⟩
theorem check_perm {p x : Poll} (ht : x.text = p.text) (hl : x.lexicon = p.lexicon) (hq : x.questions = p.questions) (hv : x.voters.Perm p.voters) : zbM x = zbM p := by
 have e : zcJ x = zcJ p := by
  rw [Bool.eq_iff_iff, poll_iff, poll_iff, hq, questAt_of ht hq, votesOk_of hq, hv.length_eq, (hv.map (·.id)).nodup_iff]
  exact and_congr Iff.rfl (and_congr ⟨fun h v h2 => h v (hv.mem_iff.2 h2), fun h v h2 => h v (hv.mem_iff.1 h2)⟩ Iff.rfl)
 rw [zbM, zbM, ht, hl, e]
theorem allE_of {p x : Poll} (hc : zbM x = zbM p) (ht : zM x = zM p) (so : Bool) : allE x so = allE p so := by rw [allE, allE, hc, ht]
theorem decK_of {p x : Poll} (ht : x.text = p.text) (hl : x.lexicon = p.lexicon) (hq : x.questions = p.questions) (s : List Int) : ∀ k, decK x s k = decK p s k
 | 0 => by rw [decK, decK, hl]
 | k + 1 => by
  rw [decK, decK, decK_of ht hl hq s k, hq]
  have e : ∀ y q h, decQ x y q h = decQ p y q h := by intro y q h; simp only [decQ, ht]
  simp only [e]
theorem setL_at {ts : List (List Int)} {a0 : List Int} (h0 : ts[0]? = some a0) {k : Nat} {h : Int} (e : (zcU ts)[k]? = some h) : ∃ a, a0[k]? = some a ∧ h = if (ts.all fun t => decide (t[k]? = some a)) = true then a else -1 := by
 rw [zcU, h0] at e
 have hk : k < a0.length := by
  have := (List.getElem?_eq_some_iff.1 e).1
  rwa [zfL] at this
 rw [ziE hk] at e
 refine ⟨_, List.getElem?_eq_getElem hk, ?_⟩
 have e2 := Option.some.inj e
 rw [← e2, setAt, List.getElem?_eq_getElem hk]
theorem set_pos {ts : List (List Int)} {k : Nat} {h : Int} (e : (zcU ts)[k]? = some h) (hp : 0 ≤ h) : ∀ t ∈ ts, t[k]? = some h := by
 cases h0 : ts[0]? with
 | none => rw [zcU, h0] at e; cases e
 | some a0 =>
  obtain ⟨a, ha, q⟩ := setL_at h0 e
  split at q
  ·rename_i c
   subst q
   intro t ht
   simpa using List.all_eq_true.1 c t ht
  ·omega
theorem set_all {ts : List (List Int)} (hn : ts ≠ []) {k : Nat} {h : Int} (ha : ∀ t ∈ ts, t[k]? = some h) : (zcU ts)[k]? = some h := by
 cases ts with
 | nil => exact absurd rfl hn
 | cons a0 ts =>
  have h1 := ha a0 List.mem_cons_self
  have hk := (List.getElem?_eq_some_iff.1 h1).1
  show (setK (a0 :: ts) a0)[k]? = _
  rw [ziE hk, setAt, h1]
  simp only
  rw [if_pos (List.all_eq_true.2 fun t ht => by simpa using ha t ht)]
theorem set_len7 {p : Poll} (hn : zM p ≠ []) : (zcU (zM p)).length = p.questions.length := by
 cases e : zM p with
 | nil => exact absurd e hn
 | cons a0 ts =>
  show (setK (a0 :: ts) a0).length = _
  rw [zfL]; exact zdB (by rw [e]; exact List.mem_cons_self)
def forN (vs : List Voter) (q : Nat) (h : Int) : Nat := (vs.filter fun v => decide (v.votes[q]? = some h)).length
theorem open_mem {ts : List (List Int)} {q n : Nat} {a : Int} : a ∈ zht ts q n ↔ ∃ h : Nat, h < n ∧ a = (h : Int) ∧ ∃ t ∈ ts, t[q]? = some a := by
 simp only [zht, List.mem_map, List.mem_filter, List.mem_range, openB, List.any_eq_true, decide_eq_true_eq]
 constructor
 ·rintro ⟨h, ⟨h1, t, ht, e⟩, rfl⟩; exact ⟨h, h1, rfl, t, ht, e⟩
 rintro ⟨h, h1, rfl, t, ht, e⟩; exact ⟨h, ⟨h1, t, ht, e⟩, rfl⟩
theorem sure_vote {p : Poll} {t : List Int} {v : Voter} {k : Nat} {a h : Int} (ht : t ∈ zM p) (hv : v ∈ p.voters) (hw : v.wrong = 0) (ha : v.votes[k]? = some a) (h0 : 0 ≤ a) (hh : t[k]? = some h) : a = h := by
 refine Classical.byContradiction fun e => ?_
 have h1 := (zhN.1 (List.mem_filter.1 ht).2).2 v hv
 rw [hw] at h1
 have h2 : zcF v t = 0 := by omega
 rw [zcF, List.length_eq_zero_iff, List.filter_eq_nil_iff] at h2
 have := h2 k (List.mem_range.2 (List.getElem?_eq_some_iff.1 hh).1)
 rw [zfT ha hh] at this
 simp [h0, e] at this
theorem set_in {p : Poll} (hn : zM p ≠ []) {k : Nat} {q : Question} (hq : p.questions[k]? = some q) {h : Int} (hs : (zcU (zM p))[k]? = some h) (h0 : 0 ≤ h) : h < (q.heads.length : Int) := by
 obtain ⟨t, ht⟩ := List.exists_mem_of_ne_nil _ hn
 obtain ⟨b, hb, _, h1⟩ := truth_at ht hq
 rw [set_pos hs h0 t ht] at hb
 cases hb; exact h1
theorem homR_len {t : Text} {x : Lexicon} (h : zaR t x = 0) : (homR t x).length ≤ 1000 := by
 rw [homR, if_pos h]
 have q := setL_len sLt_T (homsN (zbF t x) (zbF t x).length)
 have q2 := zhI (zbF t x) (zbF t x).length
 have q3 := entries_len (zdW h) x
 omega
theorem dec_bad {p : Poll} {s : List Int} : ∀ k, ¬ (decK p s k).2 = 0 → (decK p s k).1 = zfa
 | 0, h => absurd rfl h
 | k + 1, h => by
  have ih := dec_bad (p := p) (s := s) k
  rw [decK] at h ⊢
  by_cases h0 : (decK p s k).2 = 0
  ·rw [if_pos h0] at h ⊢
   split at h
   ·rename_i q c hq hs
    unfold decQ at h ⊢
    split at h
    ·exact absurd rfl h
    ·rename_i c1
     rw [if_neg c1]
     split at h
     ·exact absurd rfl h
     ·rename_i c2; rw [if_neg c2]; exact addN_bad h
   ·exact absurd h0 h
  ·rw [if_neg h0] at h ⊢; exact ih h
theorem decide_ok (p : Poll) : zaR p.text (zcI p) = 0 ∨ zcI p = zfa := by
 rw [zcI]
 by_cases h : allE p true = 0
 ·rw [if_pos h]
  have hx := (zcb (zgQ h).1).1
  by_cases h2 : (decK p (zcU (zM p)) (zcU (zM p)).length).2 = 0
  ·exact .inl (dec_check hx _ h2)
  ·exact .inr (dec_bad _ h2)
 rw [if_neg h]; exact .inr rfl
theorem zhf (p : Poll) : (zcI p).rules.length ≤ 281474976710656 := by
 rcases decide_ok p with h | h
 ·have := lexicon_12 h; omega
 rw [h]; decide
theorem zhe (p : Poll) : (zcI p).decisions.length ≤ 281474976710656 := by
 rcases decide_ok p with h | h
 ·have := zhV h; omega
 rw [h]; decide
end Go.Pk

namespace Go.Pk
open Go Go.RowKit
end Go.Pk

namespace Go.Pk
open Go Go.RowKit
theorem in_at {n k : Nat} (h : k < n) : inB (k : Int) 0 ((n : Int) - 1) = true := by
 simp only [inB, Bool.and_eq_true, decide_eq_true_eq]; omega
theorem allE_or {p : Poll} (h : zbM p = 0) : (allE p true = 0 ∧ zM p ≠ []) ∨ (allE p true = 8 ∧ zM p = []) := by
 rw [allE, if_neg (by simp [h]), if_neg (by simp)]
 by_cases e : zM p = []
 ·exact .inr ⟨by rw [if_pos e], e⟩
 exact .inl ⟨by rw [if_neg e], e⟩
def zhb (p : Poll) (k : Nat) : List Int := if allE p true = 0 then zht (zM p) k (((p.questions[k]?).getD zhF).heads.length) else []
theorem open_ok {p : Poll} {k : Nat} {q : Question} (hq : p.questions[k]? = some q) : allE p (inB (k : Int) 0 ((p.questions.length : Int) - 1)) = allE p true ∧ openR p (k : Int) = zhb p k := by
 have e := in_at (List.getElem?_eq_some_iff.1 hq).1
 exact ⟨by rw [e], by rw [openR, e, Int.toNat_natCast]; rfl⟩
theorem ziX {p : Poll} (h : allE p true = 0) : zbz p = zcU (zM p) := by rw [zbz, if_pos h]
def wrongsN (p : Poll) (k : Nat) : Span := zeT p (k : Int)
def zcj (p : Poll) (v : Voter) : Poll := ⟨p.text, p.lexicon, p.questions, p.voters ++ [v]⟩
theorem more_sub {p : Poll} {v : Voter} : ∀ t ∈ zM (zcj p v), t ∈ zM p := truths_sub (p := p) (x := zcj p v) rfl (fun u hu => List.mem_append_left _ hu)
theorem more_le {p : Poll} {v : Voter} : (zM (zcj p v)).length ≤ (zM p).length := truths_le_of (p := p) (x := zcj p v) rfl (fun u hu => List.mem_append_left _ hu)
theorem allE_some {p : Poll} (h : zbM p = 0) (hn : zM p ≠ []) : allE p true = 0 := by
 rcases allE_or h with q | q
 ·exact q.1
 exact absurd q.2 hn
theorem allE_none {p : Poll} (h : zbM p = 0) (hn : zM p = []) : allE p true = 8 := by
 rcases allE_or h with q | q
 ·exact absurd hn q.2
 exact q.1
theorem more_ne {p : Poll} {v : Voter} (h : zM (zcj p v) ≠ []) : zM p ≠ [] := by
 obtain ⟨t, ht⟩ := List.exists_mem_of_ne_nil _ h
 intro e
 have := more_sub t ht
 rw [e] at this; cases this
theorem more_set {p : Poll} {v : Voter} (h : zM (zcj p v) ≠ []) {k : Nat} {a b : Int} (ha : (zcU (zM p))[k]? = some a) (hb : (zcU (zM (zcj p v)))[k]? = some b) (h0 : 0 ≤ a) : b = a := by
 have h1 := set_pos ha h0
 have h2 := set_all h (fun t ht => h1 t (more_sub t ht))
 rw [hb] at h2
 exact Option.some.inj h2
theorem more_open {p : Poll} {v : Voter} {k : Nat} {a : Int} (hp : allE p true = 0) (hx : allE (zcj p v) true = 0) (h : a ∈ zhb (zcj p v) k) : a ∈ zhb p k := by
 rw [zhb, if_pos hx] at h
 rw [zhb, if_pos hp]
 obtain ⟨n, h1, h2, t, ht, e⟩ := open_mem.1 h
 exact open_mem.2 ⟨n, h1, h2, t, more_sub t ht, e⟩
theorem ziY {p : Poll} (h : allE p true = 0) : (zbz p).length = p.questions.length := by
 rw [ziX h, set_len7 (zgQ h).2.2.1]
def rotP (p : Poll) (ys : List Voter) : Poll := ⟨p.text, p.lexicon, p.questions, ys⟩
theorem add_tmod (i k n : Nat) : ((i : Int) + (k : Int)).tmod (n : Int) = (((i + k) % n : Nat) : Int) := by
 rw [tmod_nat (by omega)]
 congr 2
def RotN (vs ys : List Voter) (k i : Nat) : Prop := ys.length = vs.length ∧ ∀ j, j < i → ys[j]? = vs[(j + k) % vs.length]?
theorem RotN.step {vs ys : List Voter} {k i : Nat} {v : Voter} (h : RotN vs ys k i) (hi : i < vs.length) (hv : vs[(i + k) % vs.length]? = some v) : RotN vs (ys.set i v) k (i + 1) := by
 refine ⟨by rw [List.length_set]; exact h.1, fun j hj => ?_⟩
 by_cases e : j = i
 ·subst e; rw [List.getElem?_set_self (by rw [h.1]; exact hi), hv]
 rw [List.getElem?_set_ne (Ne.symm e)]; exact h.2 j (by omega)
theorem RotN.perm {vs ys : List Voter} {k i : Nat} (h : RotN vs ys k i) (hi : vs.length ≤ i) (hk : k < vs.length) : ys.Perm vs := by
 have e : ys = vs.drop k ++ vs.take k := by
  refine List.ext_getElem? fun j => ?_
  by_cases hj : j < vs.length
  ·rw [h.2 j (by omega)]
   by_cases c : j + k < vs.length
   ·rw [Nat.mod_eq_of_lt c, List.getElem?_append_left (by rw [List.length_drop]; omega), List.getElem?_drop, Nat.add_comm]
   ·have e2 : (j + k) % vs.length = j + k - vs.length := by
     rw [Nat.mod_eq_sub_mod (by omega), Nat.mod_eq_of_lt (by omega)]
    rw [e2, List.getElem?_append_right (by rw [List.length_drop]; omega), List.length_drop, List.getElem?_take, if_pos (by omega)]
    congr 1; omega
  ·rw [List.getElem?_eq_none (by rw [h.1]; omega), List.getElem?_eq_none (by rw [List.length_append, List.length_drop, List.length_take]; omega)]
 rw [e]
 have := List.perm_append_comm (l₁ := vs.drop k) (l₂ := vs.take k)
 rwa [List.take_append_drop] at this
structure RotE (p x : Poll) : Prop where
 ck : zbM x = zbM p
 ts : zM x = zM p
 al : ∀ so, allE x so = allE p so
 se : zbz x = zbz p
 ak : ziR x = ziR p
 dr : zcI x = zcI p
 de : zeo x = zeo p
theorem rot_eq {p : Poll} {ys : List Voter} (h : ys.Perm p.voters) : RotE p (rotP p ys) := by
 have h1 : zbM (rotP p ys) = zbM p := check_perm rfl rfl rfl h
 have h2 : zM (rotP p ys) = zM p := truths_same rfl (fun v => h.mem_iff)
 have h3 : ∀ so, allE (rotP p ys) so = allE p so := allE_of h1 h2
 have h4 := decK_of (p := p) (x := rotP p ys) rfl rfl rfl
 exact ⟨h1, h2, h3, by rw [zbz, zbz, h3, h2], by rw [ziR, ziR, h3, h2]; rfl, by rw [zcI, zcI, h3, h2, h4], by rw [zeo, zeo, h3, h2, h4]⟩
def zfn (p : Poll) (v : Voter) : Span := if allE p true = 0 then spanK v (zM p) else zSpan
theorem ziS {p : Poll} {i : Nat} {v : Voter} (hv : p.voters[i]? = some v) : allE p (inB (i : Int) 0 ((p.voters.length : Int) - 1)) = allE p true ∧ zeT p (i : Int) = zfn p v := by
 have e := in_at (List.getElem?_eq_some_iff.1 hv).1
 refine ⟨by rw [e], ?_⟩
 rw [zeT, e, Int.toNat_natCast, hv]; rfl
theorem wrongsV_rot {p x : Poll} (h : RotE p x) (v : Voter) : zfn x v = zfn p v := by rw [zfn, zfn, h.al, h.ts]
def ziu (vs : List Voter) : Int := vs.foldl (fun a v => maxI a v.id) 0
theorem maxIdN_snoc {vs : List Voter} {i : Nat} {v : Voter} (h : vs[i]? = some v) : ziu (vs.take (i + 1)) = maxI (ziu (vs.take i)) v.id := by
 rw [ziu, zbf h, List.foldl_append]; rfl
theorem maxId_fold : ∀ (vs : List Voter) (a : Int), 0 ≤ a → a ≤ 9999 → (∀ v ∈ vs, 0 ≤ v.id ∧ v.id ≤ 9999) → 0 ≤ vs.foldl (fun a v => maxI a v.id) a ∧ vs.foldl (fun a v => maxI a v.id) a ≤ 9999
 | [], a, h1, h2, _ => ⟨h1, h2⟩
 | v :: vs, a, h1, h2, h => by
  rw [List.foldl_cons]
  have hv := h v List.mem_cons_self
  refine maxId_fold vs _ ?_ ?_ (fun u hu => h u (List.mem_cons_of_mem _ hu))
  ·unfold maxI; split <;> omega
  ·unfold maxI; split <;> omega
theorem poll_id {p : Poll} (hp : zcJ p = true) {v : Voter} (hv : v ∈ p.voters) : 0 ≤ v.id ∧ v.id ≤ 9999 := by
 have h := (poll_iff.1 hp).2.1 v hv
 simp only [zfp, Bool.and_eq_true, inB, decide_eq_true_eq] at h
 exact h.1.1.1
theorem maxIdN_le {p : Poll} (hp : zcJ p = true) (i : Nat) : 0 ≤ ziu (p.voters.take i) ∧ ziu (p.voters.take i) ≤ 9999 := maxId_fold _ 0 (by omega) (by omega) (fun v hv => poll_id hp (List.mem_of_mem_take hv))
def expAt (hs qs : List Int) (k : Nat) : Int := if (k : Int) ∈ qs then (hs[k]?).getD 0 else -1
def expL (hs qs : List Int) (n : Nat) : List Int := (List.range n).map (expAt hs qs)
theorem expL_succ (hs qs : List Int) (n : Nat) : expL hs qs (n + 1) = expL hs qs n ++ [expAt hs qs n] := by simp [expL, List.range_succ]
theorem zeI (hs qs : List Int) (n : Nat) : (expL hs qs n).length = n := by simp [expL]
def zbt (p : Poll) (hs qs : List Int) : Voter := ⟨ziu p.voters + 1, 0, expL hs qs p.questions.length⟩
theorem tmod_bd {c n : Int} (h : 0 < n) : -n < c.tmod n ∧ c.tmod n < n := by
 have h1 := Int.natAbs_tmod c n
 have h2 : (c.tmod n).natAbs < n.natAbs := by
  rw [h1]; exact Nat.mod_lt _ (by omega)
 omega
theorem weak_same {p : Poll} {v : Voter} (hw : v.wrong = (p.questions.length : Int)) : zM (zcj p v) = zM p := by
 show (candL (zdg p)).filter (zhO (zcj p v)) = (candL (zdg p)).filter (zhO p)
 refine List.filter_congr fun t _ => ?_
 rw [Bool.eq_iff_iff, zhN, zhN, inAt_of (p := p) (x := zcj p v) rfl]
 show ((t.length = p.questions.length ∧ _) ∧ ∀ u ∈ p.voters ++ [v], (zcF u t : Int) ≤ u.wrong) ↔ _
 constructor
 ·rintro ⟨a, b⟩; exact ⟨a, fun u hu => b u (List.mem_append_left _ hu)⟩
 rintro ⟨a, b⟩
 refine ⟨a, fun u hu => ?_⟩
 rcases List.mem_append.1 hu with q | q
 ·exact b u q
 rw [List.mem_singleton] at q
 subst q
 have : zcF u t ≤ t.length := by
  rw [zcF]
  have := List.length_filter_le (zfo u t) (List.range t.length)
  rwa [List.length_range] at this
 rw [hw]
 have := a.1
 omega
theorem weak_all {p : Poll} {v : Voter} (hw : v.wrong = (p.questions.length : Int)) (h : zbM p = 0) (hx : zbM (zcj p v) = 0) : allE (zcj p v) true = allE p true ∧ zbz (zcj p v) = zbz p := by
 have e := weak_same hw
 have e2 : allE (zcj p v) true = allE p true := allE_of (hx.trans h.symm) e true
 exact ⟨e2, by rw [zbz, zbz, e2, e]⟩
theorem sure_set {p : Poll} {v : Voter} (hw : v.wrong = 0) (he : allE (zcj p v) true = 0) {k : Nat} {a b : Int} (ha : v.votes[k]? = some a) (h0 : 0 ≤ a) (hb : (zbz (zcj p v))[k]? = some b) : b = a := by
 obtain ⟨_, _, hn, _⟩ := zgQ he
 rw [ziX he] at hb
 have hk : k < p.questions.length := by
  have h1 := (List.getElem?_eq_some_iff.1 hb).1
  rw [set_len7 hn] at h1; exact h1
 have h2 : ∀ t ∈ zM (zcj p v), t[k]? = some a := by
  intro t ht
  have hl : t.length = p.questions.length := zdB (p := zcj p v) ht
  have h3 : t[k]? = some (t[k]'(by omega)) := List.getElem?_eq_getElem (by omega)
  rw [h3, sure_vote ht (List.mem_append_right _ (List.mem_singleton.2 rfl)) hw ha h0 h3]
 have := set_all hn h2
 rw [hb] at this
 exact Option.some.inj this
end Go.Pk
