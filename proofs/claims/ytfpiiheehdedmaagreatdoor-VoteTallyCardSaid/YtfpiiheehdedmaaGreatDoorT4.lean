/- A PART OF THE PROOF: contracts of functions, each walked once (much of it printed by a program of the author's own). -/
import Derived.Test.YtfpiiheehdedmaaGreatDoorT3
set_option linter.unusedSimpArgs false
set_option linter.unusedVariables false
set_option maxRecDepth 4000
namespace Go.Pk
open Go Go.RowKit
def decD (x : Lexicon) (q : Question) (hd : Head) : Decision := ⟨mostN x.decisions + 1, 3, [], q.at_, hd, 0⟩
def decN (n : Int) (q : Question) (hd : Head) : Decision := ⟨n, 3, [], q.at_, hd, 0⟩
def decQ (p : Poll) (x : Lexicon) (q : Question) (h : Int) : Lexicon × Int :=
 if h < 0 then (x, 0) else if (askR p.text x q.at_).to = (q.heads[h.toNat]?).getD zdd then (x, 0)
 else (addN p.text x (decD x q ((q.heads[h.toNat]?).getD zdd)), addE p.text x (decD x q ((q.heads[h.toNat]?).getD zdd)))
def decK (p : Poll) (s : List Int) : Nat → Lexicon × Int
 | 0 => (p.lexicon, 0)
 | k + 1 => if (decK p s k).2 = 0 then (match p.questions[k]?, s[k]? with
  | some q, some h => decQ p (decK p s k).1 q h
  | _, _ => decK p s k) else decK p s k
def zgz (p : Poll) : Int := if allE p true = 0 then (decK p (zcV (zY p)) (zcV (zY p)).length).2 else allE p true
def zft (p : Poll) : Lexicon := if allE p true = 0 then (decK p (zcV (zY p)) (zcV (zY p)).length).1 else zfN
variable {p : Poll} {s : List Int} {k : Nat} {x : Lexicon} {q : Question} {h : Int} {hd : Head}
theorem dec_skip (a : decK p s k = (x, 0)) (hq : p.questions[k]? = some q) (hs : s[k]? = some h) (h0 : h < 0) : decK p s (k + 1) = (x, 0) := by
 simp only [decK, a, if_true, hq, hs, decQ, if_pos h0]
theorem dec_same (a : decK p s k = (x, 0)) (hq : p.questions[k]? = some q) (hs : s[k]? = some h) (h0 : ¬ h < 0) (hh : q.heads[h.toNat]? = some hd) (e : (askR p.text x q.at_).to = hd) : decK p s (k + 1) = (x, 0) := by
 simp only [decK, a, if_true, hq, hs, decQ, if_neg h0, hh, Option.getD_some, if_pos e]
theorem dec_add (a : decK p s k = (x, 0)) (hq : p.questions[k]? = some q) (hs : s[k]? = some h) (h0 : ¬ h < 0) (hh : q.heads[h.toNat]? = some hd) (e : ¬ (askR p.text x q.at_).to = hd) : decK p s (k + 1) = (addN p.text x (decD x q hd), addE p.text x (decD x q hd)) := by
 simp only [decK, a, if_true, hq, hs, decQ, if_neg h0, hh, Option.getD_some, if_neg e]
theorem dec_stop (e : ¬ (decK p s k).2 = 0) : ∀ d, decK p s (k + d) = decK p s k
 | 0 => rfl
 | d + 1 => by rw [← Nat.add_assoc, decK, dec_stop e d, if_neg e]
theorem addN_bad {t : Text} {d : Decision} (e : ¬ addE t x d = 0) : addN t x d = zfN := by rw [addN, if_neg e]
theorem dec_err (a : decK p s k = (x, 0)) (hq : p.questions[k]? = some q) (hs : s[k]? = some h) (h0 : ¬ h < 0) (hh : q.heads[h.toNat]? = some hd) (e : ¬ (askR p.text x q.at_).to = hd) (e2 : ¬ addE p.text x (decD x q hd) = 0) : decK p s s.length = (zfN, addE p.text x (decD x q hd)) := by
 have h1 := dec_add a hq hs h0 hh e
 have hk := (List.getElem?_eq_some_iff.1 hs).1
 have := dec_stop (p := p) (s := s) (k := k + 1) (by rw [h1]; exact e2) (s.length - (k + 1))
 rw [show k + 1 + (s.length - (k + 1)) = s.length by omega] at this
 rw [this, h1, addN_bad e2]
theorem dec_check (hx : zaF p.text p.lexicon = 0) : ∀ k, (decK p s k).2 = 0 → zaF p.text (decK p s k).1 = 0
 | 0, _ => hx
 | k + 1, e => by
  have ih := dec_check hx k
  rw [decK] at e ⊢
  by_cases h0 : (decK p s k).2 = 0
  ·rw [if_pos h0] at e ⊢
   split at e
   ·rename_i q h hq hs
    unfold decQ at e ⊢
    split at e
    ·rename_i c; rw [if_pos c]; exact ih h0
    ·rename_i c
     rw [if_neg c]
     split at e
     ·rename_i c2; rw [if_pos c2]; exact ih h0
     ·rename_i c2; rw [if_neg c2]; exact addN_check e
   ·exact ih h0
  ·rw [if_neg h0] at e; exact absurd e h0
theorem dec_ok (hx : zaF p.text p.lexicon = 0) (a : decK p s k = (x, 0)) : zaF p.text x = 0 := by
 have := dec_check (s := s) hx k
 rw [a] at this; exact this rfl
def nextN (l : List Decision) : Int := mostN l + 1
theorem nextN_snoc {l : List Decision} {k : Nat} {d : Decision} (h : l[k]? = some d) : maxI (nextN (l.take k)) (d.number + 1) = nextN (l.take (k + 1)) := by
 rw [nextN, nextN, mostN_snoc h, maxI]; split <;> omega
theorem nextN_eq {l : List Decision} {k : Nat} (h : l.length ≤ k) : nextN (l.take k) = mostN l + 1 := by rw [List.take_of_length_le h]; rfl
theorem mostN_le' (hx : OkD x) (k : Nat) : mostN (x.decisions.take k) ≤ 999 := fold_max_le _ _ _ (by omega) fun d hd => (hx.2 d (List.mem_of_mem_take hd)).2.1
theorem nextN_le (hx : OkD x) (k : Nat) : 1 ≤ nextN (x.decisions.take k) ∧ nextN (x.decisions.take k) ≤ 1000 := by
 have := mostN_le' hx k
 have := mostN_pos (x.decisions.take k)
 rw [nextN]; omega
def mootB (p : Poll) (s : List Int) (k : Nat) (w : Str) : Bool := match p.questions[k]?, s[k]? with
 | some q, some h => decide (h < 0) && decide (zcb p.text q.at_ = w)
 | _, _ => false
def mootQ (p : Poll) (s : List Int) (n : Nat) (w : Str) : Bool := (List.range n).any fun k => mootB p s k w
theorem moot_succ (p : Poll) (s : List Int) (n : Nat) (w : Str) : mootQ p s (n + 1) w = (mootQ p s n w || mootB p s n w) := by simp [mootQ, List.range_succ, List.any_append]
theorem moot_at {p : Poll} {s : List Int} {n : Nat} {w : Str} {q : Question} {h : Int} (hq : p.questions[n]? = some q) (hs : s[n]? = some h) : mootQ p s (n + 1) w = (mootQ p s n w || (decide (h < 0) && decide (zcb p.text q.at_ = w))) := by
 rw [moot_succ, mootB, hq, hs]
def mootR (p : Poll) : List Str := if allE p true = 0 then (homR p.text p.lexicon).filter (mootQ p (zcV (zY p)) (zcV (zY p)).length) else []
def zgi (ws : List Str) (p : Poll) (s : List Int) (n : Nat) (w : Str) : Option Bool := if w ∈ ws ∧ mootQ p s n w = false then some true else none
theorem still_skip {ws : List Str} {p : Poll} {s : List Int} {n : Nat} {q : Question} {h : Int} (hq : p.questions[n]? = some q) (hs : s[n]? = some h) (h0 : ¬ h < 0) {m : List (Str × Bool)} (hm : ∀ w, look m w = zgi ws p s n w) : ∀ w, look m w = zgi ws p s (n + 1) w := by
 intro w
 rw [hm, zgi, zgi, moot_at hq hs, decide_eq_false h0]; simp
theorem still_del {ws : List Str} {p : Poll} {s : List Int} {n : Nat} {q : Question} {h : Int} (hq : p.questions[n]? = some q) (hs : s[n]? = some h) (h0 : h < 0) {m : List (Str × Bool)} (hm : ∀ w, look m w = zgi ws p s n w) : ∀ w, look (delM m (zcb p.text q.at_)) w = zgi ws p s (n + 1) w := by
 intro w
 rw [look_delM, hm, zgi, zgi, moot_at hq hs, decide_eq_true h0, Bool.true_and]
 by_cases e : w = zcb p.text q.at_
 ·subst e; simp
 rw [if_neg e, decide_eq_false (fun q => e q.symm), Bool.or_false]
theorem still_put {ws : List Str} {k : Nat} {w0 : Str} (h : ws[k]? = some w0) {m : List (Str × Bool)} (hm : ∀ w, look m w = if w ∈ ws.take k then some true else none) : ∀ w, look (putM m w0 true) w = if w ∈ ws.take (k + 1) then some true else none := by
 intro w
 rw [zia, zbd h, hm]
 by_cases e : w = w0
 ·subst e; simp
 simp [e]
theorem still_zero {ws : List Str} {k : Nat} (hk : ws.length ≤ k) {p : Poll} {s : List Int} {m : List (Str × Bool)} (hm : ∀ w, look m w = if w ∈ ws.take k then some true else none) : ∀ w, look m w = zgi ws p s 0 w := by
 intro w
 rw [hm, List.take_of_length_le hk, zgi]
 simp [mootQ]
theorem still_filter {ws : List Str} {p : Poll} {s : List Int} {n : Nat} {m : List (Str × Bool)} (hm : ∀ w, look m w = zgi ws p s n w) : ws.filter (fun w => !(look m w).getD false) = ws.filter (mootQ p s n) := by
 refine List.filter_congr fun w hw => ?_
 rw [hm, zgi]
 cases e : mootQ p s n w <;> simp [hw]
end Go.Pk

namespace Go.Pk
open Go Go.RowKit
def dPE : Decision := ⟨1, 3, [], ⟨1, 0, 2⟩, ⟨wSee, 2⟩, 0⟩
def lexP (more : List Decision) : Lexicon := ⟨[], dPE :: more⟩
def seaSee : List Head := [⟨wSea, 1⟩, ⟨wSee, 2⟩]
def questsE : List Question := [⟨⟨0, 0, 1⟩, seaSee⟩, ⟨⟨0, 0, 3⟩, [⟨wAge, 3⟩, ⟨wOld, 0⟩]⟩, ⟨⟨1, 0, 0⟩, seaSee⟩]
def votersE : List Voter := [⟨5, 0, [-1, 1, -1]⟩, ⟨2, 1, [0, 0, 0]⟩, ⟨8, 1, [0, -1, 1]⟩]
def zcY : Poll := ⟨zhi, lexP [], questsE, votersE⟩
def twoE : Poll := ⟨zhi, lexP [], questsE, votersE.drop 1⟩
theorem checkLP : zaF zhi (lexP []) = 0 := by decide +kernel
theorem checkPE : zcH zcY = 0 := by decide +kernel
theorem checkP2 : zcH twoE = 0 := by decide +kernel
theorem truthsE : zY zcY = [[0, 1, 0]] := by decide +kernel
theorem zil : zY twoE = [[0, 0, 0], [0, 0, 1], [0, 1, 0]] := by decide +kernel
theorem allEE : allE zcY true = 0 := by rw [allE, if_neg (by rw [checkPE]; decide), if_neg (by decide), truthsE]; rfl
theorem allE2 : allE twoE true = 0 := by rw [allE, if_neg (by rw [checkP2]; decide), if_neg (by decide), zil]; rfl
theorem setE : zcV (zY zcY) = [0, 1, 0] := by rw [truthsE]; decide +kernel
theorem set2 : zcV (zY twoE) = [0, -1, -1] := by rw [zil]; decide +kernel
def e1E : Decision := ⟨2, 3, [], ⟨0, 0, 1⟩, ⟨wSea, 1⟩, 0⟩
def e2E : Decision := ⟨3, 3, [], ⟨1, 0, 0⟩, ⟨wSea, 1⟩, 0⟩
theorem addP1 : addE zhi (lexP []) e1E = 0 := by decide +kernel
theorem addP2 : addE zhi (lexP [e1E]) e2E = 0 := by decide +kernel
theorem addXP1 : addX (lexP []) e1E = lexP [e1E] := addX_eq (ys := [dPE, e1E]) (List.Perm.refl _) (by decide +kernel) (by decide +kernel)
theorem addXP2 : addX (lexP [e1E]) e2E = lexP [e1E, e2E] := addX_eq (ys := [dPE, e1E, e2E]) (List.Perm.refl _) (by decide +kernel) (by decide +kernel)
theorem checkLP1 : zaF zhi (lexP [e1E]) = 0 := by decide +kernel
theorem dec1 : decK zcY [0, 1, 0] 1 = (lexP [e1E], 0) := by
 rw [dec_add (p := zcY) (s := [0, 1, 0]) (k := 0) (x := lexP []) (hd := ⟨wSea, 1⟩) rfl rfl rfl (by decide) rfl (by show ¬ (askR zhi (lexP []) _).to = _; rw [askR_eq checkLP (by decide +kernel)]; decide +kernel)]
 rw [show decD (lexP []) ⟨⟨0, 0, 1⟩, seaSee⟩ ⟨wSea, 1⟩ = e1E by decide +kernel]
 show (addN zhi (lexP []) e1E, addE zhi (lexP []) e1E) = _
 rw [addN, if_pos addP1, addXP1, addP1]
theorem dec2 : decK zcY [0, 1, 0] 2 = (lexP [e1E], 0) :=
 dec_same (p := zcY) (s := [0, 1, 0]) (k := 1) (hd := ⟨wOld, 0⟩) dec1 rfl rfl (by decide) rfl (by
  show (askR zhi (lexP [e1E]) _).to = _
  rw [askR_eq checkLP1 (by decide +kernel)]; decide +kernel)
theorem dec3 : decK zcY [0, 1, 0] 3 = (lexP [e1E, e2E], 0) := by
 rw [dec_add (p := zcY) (s := [0, 1, 0]) (k := 2) (hd := ⟨wSea, 1⟩) dec2 rfl rfl (by decide) rfl (by
  show ¬ (askR zhi (lexP [e1E]) _).to = _
  rw [askR_eq checkLP1 (by decide +kernel)]; decide +kernel)]
 rw [show decD (lexP [e1E]) ⟨⟨1, 0, 0⟩, seaSee⟩ ⟨wSea, 1⟩ = e2E by decide +kernel]
 show (addN zhi (lexP [e1E]) e2E, addE zhi (lexP [e1E]) e2E) = _
 rw [addN, if_pos addP2, addXP2, addP2]
theorem decideEE : zgz zcY = 0 ∧ zft zcY = lexP [e1E, e2E] := by
 rw [zgz, zft, if_pos allEE, if_pos allEE, setE]
 exact ⟨congrArg Prod.snd dec3, congrArg Prod.fst dec3⟩
theorem homP : homR zhi (lexP []) = [wSea] := by rw [homV_eq checkLP]; decide +kernel
theorem moot2 : mootR twoE = [wSea] := by
 rw [mootR, if_pos allE2, set2]
 show (homR zhi (lexP [])).filter _ = _
 rw [homP]; decide +kernel
theorem ex_01 : (if zcH twoE = 0 then ((zY twoE).length : Int) else 0) = 3 := by rw [if_pos checkP2, zil]; rfl
theorem ex_02 : ((allL zcY true)[0]?).getD [] = [0, 1, 0] := by rw [allL, if_pos allEE, truthsE]; rfl
theorem in_ok {p : Poll} {n m : Int} (h : allE p true = 0) (h1 : inB n 0 m = true) : allE p (inB n 0 m) = 0 := by rw [h1]; exact h
theorem ex_03 : allE twoE (inB 1 0 ((twoE.questions.length : Int) - 1)) = 0 := in_ok allE2 (by decide +kernel)
theorem ex_04 : openR twoE 1 = [0, 1] := by rw [openR, if_pos ex_03, zil]; decide +kernel
theorem ex_05 : zhl twoE = [0, -1, -1] := by rw [zhl, if_pos allE2, set2]
theorem ex_06 : allE zcY (inB 1 0 ((zcY.voters.length : Int) - 1)) = 0 := in_ok allEE (by decide +kernel)
theorem ex_07 : zgv zcY 1 = ⟨1, 1⟩ := by rw [zgv, if_pos ex_06, truthsE]; decide +kernel
theorem ex_08 : zfR zcY 0 = 0 := by rw [zfR, if_neg (by rw [checkPE]; decide), if_pos (by decide +kernel)]
theorem ex_09 : zhj zcY 0 = [2, 0] := by rw [zhj, if_pos ex_08]; decide +kernel
theorem ex_10 : askR7 twoE = [1, 2] := by rw [askR7, if_pos allE2, zil]; decide +kernel
theorem ex_11 : nextE twoE = 0 := by rw [nextE, if_neg (by rw [allE2]; decide), zil]; rfl
theorem ex_12 : nextR twoE = 1 := by rw [nextR, if_pos ex_11, zil]; decide +kernel
theorem ex_13 : ((zft zcY).decisions.length : Int) = 3 := by rw [decideEE.2]; rfl
end Go.Pk

namespace Go.Pk
open Go Go.RowKit
def candX (l : List (List Int)) (n : Nat) : List (List Int) := l.flatMap fun x => (List.range n).map fun (h : Nat) => x ++ [(h : Int)]
def heads1 (x : List Int) (h : Nat) : List (List Int) := (List.range h).map fun (h : Nat) => x ++ [(h : Int)]
theorem true_iff {p : Poll} {hs : List Int} : zhW p hs = true ↔ (hs.length = p.questions.length ∧ (List.range hs.length).all (inAt p hs) = true) ∧ ∀ v ∈ p.voters, (zcD v hs : Int) ≤ v.wrong := by
 simp only [zhW, Bool.and_eq_true, decide_eq_true_eq]
 rw [List.all_eq_true (p := fun v => decide ((zcD v hs : Int) ≤ v.wrong))]
 simp only [decide_eq_true_eq]
theorem setL_at {ts : List (List Int)} {a0 : List Int} (h0 : ts[0]? = some a0) {k : Nat} {h : Int} (e : (zcV ts)[k]? = some h) : ∃ a, a0[k]? = some a ∧ h = if (ts.all fun t => decide (t[k]? = some a)) = true then a else -1 := by
 rw [zcV, h0] at e
 have hk : k < a0.length := by
  have := (List.getElem?_eq_some_iff.1 e).1
  rwa [zfk] at this
 rw [setK_get hk] at e
 refine ⟨_, List.getElem?_eq_getElem hk, ?_⟩
 have e2 := Option.some.inj e
 rw [← e2, setAt, List.getElem?_eq_getElem hk]
theorem set_pos {ts : List (List Int)} {k : Nat} {h : Int} (e : (zcV ts)[k]? = some h) (hp : 0 ≤ h) : ∀ t ∈ ts, t[k]? = some h := by
 cases h0 : ts[0]? with
 | none => rw [zcV, h0] at e; cases e
 | some a0 =>
  obtain ⟨a, ha, q⟩ := setL_at h0 e
  split at q
  ·rename_i c
   subst q
   intro t ht
   simpa using List.all_eq_true.1 c t ht
  ·omega
theorem set_len7 {p : Poll} (hn : zY p ≠ []) : (zcV (zY p)).length = p.questions.length := by
 cases e : zY p with
 | nil => exact absurd e hn
 | cons a0 ts =>
  show (setK (a0 :: ts) a0).length = _
  rw [zfk]; exact zdA (by rw [e]; exact List.mem_cons_self)
def forN (vs : List Voter) (q : Nat) (h : Int) : Nat := (vs.filter fun v => decide (v.votes[q]? = some h)).length
theorem zev {vs : List Voter} {i q : Nat} {v : Voter} {a : Int} (hv : vs[i]? = some v) (ha : v.votes[q]? = some a) (h : Int) : (forN (vs.take (i + 1)) q h : Int) = (forN (vs.take i) q h : Int) + if a = h then 1 else 0 := by
 rw [forN, zbd hv, List.filter_append, List.length_append, List.filter_cons, ha]
 by_cases e : a = h
 ·simp [e, forN]
 simp [e, forN]
theorem tally_for (vs : List Voter) (q : Nat) {n h : Nat} {x : Int} (hx : (zdh vs q n)[h]? = some x) : x = (forN vs q (h : Int) : Int) := by
 have hh := (List.getElem?_eq_some_iff.1 hx).1
 rw [zeu] at hh
 rw [tally_at vs q hh] at hx
 exact (Option.some.inj hx).symm
theorem open_mem {ts : List (List Int)} {q n : Nat} {a : Int} : a ∈ zgH ts q n ↔ ∃ h : Nat, h < n ∧ a = (h : Int) ∧ ∃ t ∈ ts, t[q]? = some a := by
 simp only [zgH, List.mem_map, List.mem_filter, List.mem_range, openB, List.any_eq_true, decide_eq_true_eq]
 constructor
 ·rintro ⟨h, ⟨h1, t, ht, e⟩, rfl⟩; exact ⟨h, h1, rfl, t, ht, e⟩
 rintro ⟨h, h1, rfl, t, ht, e⟩; exact ⟨h, ⟨h1, t, ht, e⟩, rfl⟩
theorem sure_vote {p : Poll} {t : List Int} {v : Voter} {k : Nat} {a h : Int} (ht : t ∈ zY p) (hv : v ∈ p.voters) (hw : v.wrong = 0) (ha : v.votes[k]? = some a) (h0 : 0 ≤ a) (hh : t[k]? = some h) : a = h := by
 refine Classical.byContradiction fun e => ?_
 have h1 := (true_iff.1 (List.mem_filter.1 ht).2).2 v hv
 rw [hw] at h1
 have h2 : zcD v t = 0 := by omega
 rw [zcD, List.length_eq_zero_iff, List.filter_eq_nil_iff] at h2
 have := h2 k (List.mem_range.2 (List.getElem?_eq_some_iff.1 hh).1)
 rw [zfu ha hh] at this
 simp [h0, e] at this
theorem sure_open {p : Poll} {v : Voter} {k n : Nat} {a : Int} {h : Int} (hv : v ∈ p.voters) (hw : v.wrong = 0) (ha : v.votes[k]? = some a) (h0 : 0 ≤ a) (e : ¬ a = h) : h ∉ zgH (zY p) k n := by
 intro hm
 obtain ⟨_, _, _, t, ht, hh⟩ := open_mem.1 hm
 exact e (sure_vote ht hv hw ha h0 hh)
theorem set_in {p : Poll} (hn : zY p ≠ []) {k : Nat} {q : Question} (hq : p.questions[k]? = some q) {h : Int} (hs : (zcV (zY p))[k]? = some h) (h0 : 0 ≤ h) : h < (q.heads.length : Int) := by
 obtain ⟨t, ht⟩ := List.exists_mem_of_ne_nil _ hn
 obtain ⟨b, hb, _, h1⟩ := truth_at ht hq
 rw [set_pos hs h0 t ht] at hb
 cases hb; exact h1
theorem homR_len {t : Text} {x : Lexicon} (h : zaF t x = 0) : (homR t x).length ≤ 1000 := by
 rw [homR, if_pos h]
 have q := setL_len sLt_T (homsN (zbq t x) (zbq t x).length)
 have q2 := zhe (zbq t x) (zbq t x).length
 have q3 := entries_len (zdC h) x
 omega
end Go.Pk

namespace Go.Pk
open Go Go.RowKit
end Go.Pk

namespace Go.Pk
open Go Go.RowKit
theorem in_at {n k : Nat} (h : k < n) : inB (k : Int) 0 ((n : Int) - 1) = true := by
 simp only [inB, Bool.and_eq_true, decide_eq_true_eq]; omega
theorem allE_or {p : Poll} (h : zcH p = 0) : (allE p true = 0 ∧ zY p ≠ []) ∨ (allE p true = 8 ∧ zY p = []) := by
 rw [allE, if_neg (by simp [h]), if_neg (by simp)]
 by_cases e : zY p = []
 ·exact .inr ⟨by rw [if_pos e], e⟩
 exact .inl ⟨by rw [if_neg e], e⟩
theorem tally_ok {p : Poll} {k : Nat} {q : Question} (h : zcH p = 0) (hq : p.questions[k]? = some q) : zfR p (k : Int) = 0 ∧ zhj p (k : Int) = zdh p.voters k q.heads.length := by
 have hk := (List.getElem?_eq_some_iff.1 hq).1
 have e : zfR p (k : Int) = 0 := by rw [zfR, if_neg (by simp [h]), if_pos (in_at hk)]
 refine ⟨e, ?_⟩
 rw [zhj, if_pos e, Int.toNat_natCast, hq]; rfl
def openN (p : Poll) (k : Nat) : List Int := if allE p true = 0 then zgH (zY p) k (((p.questions[k]?).getD zhc).heads.length) else []
theorem open_ok {p : Poll} {k : Nat} {q : Question} (hq : p.questions[k]? = some q) : allE p (inB (k : Int) 0 ((p.questions.length : Int) - 1)) = allE p true ∧ openR p (k : Int) = openN p k := by
 have e := in_at (List.getElem?_eq_some_iff.1 hq).1
 exact ⟨by rw [e], by rw [openR, e, Int.toNat_natCast]; rfl⟩
theorem sure_openN {p : Poll} {v : Voter} {k : Nat} {a h : Int} (hv : v ∈ p.voters) (hw : v.wrong = 0) (ha : v.votes[k]? = some a) (h0 : 0 ≤ a) (e : ¬ a = h) : h ∉ openN p k := by
 rw [openN]
 split
 ·exact sure_open hv hw ha h0 e
 simp
def wrongsN (p : Poll) (k : Nat) : Span := zgv p (k : Int)
end Go.Pk
