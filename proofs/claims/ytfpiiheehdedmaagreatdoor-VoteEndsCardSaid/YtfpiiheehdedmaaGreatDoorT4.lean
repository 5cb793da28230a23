/- A PART OF THE PROOF: contracts of functions, each walked once (much of it printed by a program of the author's own). -/
import Derived.Test.YtfpiiheehdedmaaGreatDoorT3
set_option linter.unusedSimpArgs false
set_option linter.unusedVariables false
set_option maxRecDepth 4000
namespace Go.Pk
open Go Go.RowKit
def decD (x : Lexicon) (q : Question) (hd : Head) : Decision := ⟨mostN x.decisions + 1, 3, [], q.at_, hd, 0⟩
def decN (n : Int) (q : Question) (hd : Head) : Decision := ⟨n, 3, [], q.at_, hd, 0⟩
def decQ (p : Poll) (x : Lexicon) (q : Question) (h : Int) : Lexicon × Int :=
 if h < 0 then (x, 0) else if (askR p.text x q.at_).to = (q.heads[h.toNat]?).getD zdo then (x, 0)
 else (addN p.text x (decD x q ((q.heads[h.toNat]?).getD zdo)), addE p.text x (decD x q ((q.heads[h.toNat]?).getD zdo)))
def decK (p : Poll) (s : List Int) : Nat → Lexicon × Int
 | 0 => (p.lexicon, 0)
 | k + 1 => if (decK p s k).2 = 0 then (match p.questions[k]?, s[k]? with
  | some q, some h => decQ p (decK p s k).1 q h
  | _, _ => decK p s k) else decK p s k
def zfP (p : Poll) : Int := if allE p true = 0 then (decK p (zcB (zB p)) (zcB (zB p)).length).2 else allE p true
def zeU (p : Poll) : Lexicon := if allE p true = 0 then (decK p (zcB (zB p)) (zcB (zB p)).length).1 else zgj
variable {p : Poll} {s : List Int} {k : Nat} {x : Lexicon} {q : Question} {h : Int} {hd : Head}
theorem dec_skip (a : decK p s k = (x, 0)) (hq : p.questions[k]? = some q) (hs : s[k]? = some h) (h0 : h < 0) : decK p s (k + 1) = (x, 0) := by
 simp only [decK, a, if_true, hq, hs, decQ, if_pos h0]
theorem dec_same (a : decK p s k = (x, 0)) (hq : p.questions[k]? = some q) (hs : s[k]? = some h) (h0 : ¬ h < 0) (hh : q.heads[h.toNat]? = some hd) (e : (askR p.text x q.at_).to = hd) : decK p s (k + 1) = (x, 0) := by
 simp only [decK, a, if_true, hq, hs, decQ, if_neg h0, hh, Option.getD_some, if_pos e]
theorem dec_add (a : decK p s k = (x, 0)) (hq : p.questions[k]? = some q) (hs : s[k]? = some h) (h0 : ¬ h < 0) (hh : q.heads[h.toNat]? = some hd) (e : ¬ (askR p.text x q.at_).to = hd) : decK p s (k + 1) = (addN p.text x (decD x q hd), addE p.text x (decD x q hd)) := by
 simp only [decK, a, if_true, hq, hs, decQ, if_neg h0, hh, Option.getD_some, if_neg e]
theorem dec_stop (e : ¬ (decK p s k).2 = 0) : ∀ d, decK p s (k + d) = decK p s k
 | 0 => rfl
 | d + 1 => by rw [← Nat.add_assoc, decK, dec_stop e d, if_neg e]
theorem addN_bad {t : Text} {d : Decision} (e : ¬ addE t x d = 0) : addN t x d = zgj := by rw [addN, if_neg e]
theorem dec_err (a : decK p s k = (x, 0)) (hq : p.questions[k]? = some q) (hs : s[k]? = some h) (h0 : ¬ h < 0) (hh : q.heads[h.toNat]? = some hd) (e : ¬ (askR p.text x q.at_).to = hd) (e2 : ¬ addE p.text x (decD x q hd) = 0) : decK p s s.length = (zgj, addE p.text x (decD x q hd)) := by
 have h1 := dec_add a hq hs h0 hh e
 have hk := (List.getElem?_eq_some_iff.1 hs).1
 have := dec_stop (p := p) (s := s) (k := k + 1) (by rw [h1]; exact e2) (s.length - (k + 1))
 rw [show k + 1 + (s.length - (k + 1)) = s.length by omega] at this
 rw [this, h1, addN_bad e2]
theorem dec_check (hx : zaH p.text p.lexicon = 0) : ∀ k, (decK p s k).2 = 0 → zaH p.text (decK p s k).1 = 0
 | 0, _ => hx
 | k + 1, e => by
  have ih := dec_check hx k
  rw [decK] at e ⊢
  by_cases h0 : (decK p s k).2 = 0
  ·rw [if_pos h0] at e ⊢
   split at e
   ·rename_i q h hq hs
    unfold decQ at e ⊢
    split at e
    ·rename_i c; rw [if_pos c]; exact ih h0
    ·rename_i c
     rw [if_neg c]
     split at e
     ·rename_i c2; rw [if_pos c2]; exact ih h0
     ·rename_i c2; rw [if_neg c2]; exact addN_check e
   ·exact ih h0
  ·rw [if_neg h0] at e; exact absurd e h0
theorem dec_ok (hx : zaH p.text p.lexicon = 0) (a : decK p s k = (x, 0)) : zaH p.text x = 0 := by
 have := dec_check (s := s) hx k
 rw [a] at this; exact this rfl
def nextN (l : List Decision) : Int := mostN l + 1
theorem nextN_snoc {l : List Decision} {k : Nat} {d : Decision} (h : l[k]? = some d) : maxI (nextN (l.take k)) (d.number + 1) = nextN (l.take (k + 1)) := by
 rw [nextN, nextN, mostN_snoc h, maxI]; split <;> omega
theorem nextN_eq {l : List Decision} {k : Nat} (h : l.length ≤ k) : nextN (l.take k) = mostN l + 1 := by rw [List.take_of_length_le h]; rfl
theorem mostN_le' (hx : OkD x) (k : Nat) : mostN (x.decisions.take k) ≤ 999 := fold_max_le _ _ _ (by omega) fun d hd => (hx.2 d (List.mem_of_mem_take hd)).2.1
theorem nextN_le (hx : OkD x) (k : Nat) : 1 ≤ nextN (x.decisions.take k) ∧ nextN (x.decisions.take k) ≤ 1000 := by
 have := mostN_le' hx k
 have := mostN_pos (x.decisions.take k)
 rw [nextN]; omega
def mootB (p : Poll) (s : List Int) (k : Nat) (w : Str) : Bool := match p.questions[k]?, s[k]? with
 | some q, some h => decide (h < 0) && decide (zch p.text q.at_ = w)
 | _, _ => false
def mootQ (p : Poll) (s : List Int) (n : Nat) (w : Str) : Bool := (List.range n).any fun k => mootB p s k w
theorem moot_succ (p : Poll) (s : List Int) (n : Nat) (w : Str) : mootQ p s (n + 1) w = (mootQ p s n w || mootB p s n w) := by simp [mootQ, List.range_succ, List.any_append]
theorem moot_at {p : Poll} {s : List Int} {n : Nat} {w : Str} {q : Question} {h : Int} (hq : p.questions[n]? = some q) (hs : s[n]? = some h) : mootQ p s (n + 1) w = (mootQ p s n w || (decide (h < 0) && decide (zch p.text q.at_ = w))) := by
 rw [moot_succ, mootB, hq, hs]
def mootR (p : Poll) : List Str := if allE p true = 0 then (homR p.text p.lexicon).filter (mootQ p (zcB (zB p)) (zcB (zB p)).length) else []
def zgE (ws : List Str) (p : Poll) (s : List Int) (n : Nat) (w : Str) : Option Bool := if w ∈ ws ∧ mootQ p s n w = false then some true else none
theorem still_skip {ws : List Str} {p : Poll} {s : List Int} {n : Nat} {q : Question} {h : Int} (hq : p.questions[n]? = some q) (hs : s[n]? = some h) (h0 : ¬ h < 0) {m : List (Str × Bool)} (hm : ∀ w, look m w = zgE ws p s n w) : ∀ w, look m w = zgE ws p s (n + 1) w := by
 intro w
 rw [hm, zgE, zgE, moot_at hq hs, decide_eq_false h0]; simp
theorem still_del {ws : List Str} {p : Poll} {s : List Int} {n : Nat} {q : Question} {h : Int} (hq : p.questions[n]? = some q) (hs : s[n]? = some h) (h0 : h < 0) {m : List (Str × Bool)} (hm : ∀ w, look m w = zgE ws p s n w) : ∀ w, look (delM m (zch p.text q.at_)) w = zgE ws p s (n + 1) w := by
 intro w
 rw [look_delM, hm, zgE, zgE, moot_at hq hs, decide_eq_true h0, Bool.true_and]
 by_cases e : w = zch p.text q.at_
 ·subst e; simp
 rw [if_neg e, decide_eq_false (fun q => e q.symm), Bool.or_false]
theorem still_put {ws : List Str} {k : Nat} {w0 : Str} (h : ws[k]? = some w0) {m : List (Str × Bool)} (hm : ∀ w, look m w = if w ∈ ws.take k then some true else none) : ∀ w, look (putM m w0 true) w = if w ∈ ws.take (k + 1) then some true else none := by
 intro w
 rw [zit, zba h, hm]
 by_cases e : w = w0
 ·subst e; simp
 simp [e]
theorem still_zero {ws : List Str} {k : Nat} (hk : ws.length ≤ k) {p : Poll} {s : List Int} {m : List (Str × Bool)} (hm : ∀ w, look m w = if w ∈ ws.take k then some true else none) : ∀ w, look m w = zgE ws p s 0 w := by
 intro w
 rw [hm, List.take_of_length_le hk, zgE]
 simp [mootQ]
theorem still_filter {ws : List Str} {p : Poll} {s : List Int} {n : Nat} {m : List (Str × Bool)} (hm : ∀ w, look m w = zgE ws p s n w) : ws.filter (fun w => !(look m w).getD false) = ws.filter (mootQ p s n) := by
 refine List.filter_congr fun w hw => ?_
 rw [hm, zgE]
 cases e : mootQ p s n w <;> simp [hw]
end Go.Pk

namespace Go.Pk
open Go Go.RowKit
def dPE : Decision := ⟨1, 3, [], ⟨1, 0, 2⟩, ⟨wSee, 2⟩, 0⟩
def lexP (more : List Decision) : Lexicon := ⟨[], dPE :: more⟩
def seaSee : List Head := [⟨wSea, 1⟩, ⟨wSee, 2⟩]
def questsE : List Question := [⟨⟨0, 0, 1⟩, seaSee⟩, ⟨⟨0, 0, 3⟩, [⟨wAge, 3⟩, ⟨wOld, 0⟩]⟩, ⟨⟨1, 0, 0⟩, seaSee⟩]
def votersE : List Voter := [⟨5, 0, [-1, 1, -1]⟩, ⟨2, 1, [0, 0, 0]⟩, ⟨8, 1, [0, -1, 1]⟩]
def zdh : Poll := ⟨zhD, lexP [], questsE, votersE⟩
def twoE : Poll := ⟨zhD, lexP [], questsE, votersE.drop 1⟩
theorem checkLP : zaH zhD (lexP []) = 0 := by decide +kernel
theorem checkPE : zcw zdh = 0 := by decide +kernel
theorem checkP2 : zcw twoE = 0 := by decide +kernel
theorem truthsE : zB zdh = [[0, 1, 0]] := by decide +kernel
theorem ziD : zB twoE = [[0, 0, 0], [0, 0, 1], [0, 1, 0]] := by decide +kernel
theorem allEE : allE zdh true = 0 := by rw [allE, if_neg (by rw [checkPE]; decide), if_neg (by decide), truthsE]; rfl
theorem allE2 : allE twoE true = 0 := by rw [allE, if_neg (by rw [checkP2]; decide), if_neg (by decide), ziD]; rfl
theorem setE : zcB (zB zdh) = [0, 1, 0] := by rw [truthsE]; decide +kernel
theorem set2 : zcB (zB twoE) = [0, -1, -1] := by rw [ziD]; decide +kernel
def e1E : Decision := ⟨2, 3, [], ⟨0, 0, 1⟩, ⟨wSea, 1⟩, 0⟩
def e2E : Decision := ⟨3, 3, [], ⟨1, 0, 0⟩, ⟨wSea, 1⟩, 0⟩
theorem addP1 : addE zhD (lexP []) e1E = 0 := by decide +kernel
theorem addP2 : addE zhD (lexP [e1E]) e2E = 0 := by decide +kernel
theorem addXP1 : addX (lexP []) e1E = lexP [e1E] := addX_eq (ys := [dPE, e1E]) (List.Perm.refl _) (by decide +kernel) (by decide +kernel)
theorem addXP2 : addX (lexP [e1E]) e2E = lexP [e1E, e2E] := addX_eq (ys := [dPE, e1E, e2E]) (List.Perm.refl _) (by decide +kernel) (by decide +kernel)
theorem checkLP1 : zaH zhD (lexP [e1E]) = 0 := by decide +kernel
theorem dec1 : decK zdh [0, 1, 0] 1 = (lexP [e1E], 0) := by
 rw [dec_add (p := zdh) (s := [0, 1, 0]) (k := 0) (x := lexP []) (hd := ⟨wSea, 1⟩) rfl rfl rfl (by decide) rfl (by show ¬ (askR zhD (lexP []) _).to = _; rw [askR_eq checkLP (by decide +kernel)]; decide +kernel)]
 rw [show decD (lexP []) ⟨⟨0, 0, 1⟩, seaSee⟩ ⟨wSea, 1⟩ = e1E by decide +kernel]
 show (addN zhD (lexP []) e1E, addE zhD (lexP []) e1E) = _
 rw [addN, if_pos addP1, addXP1, addP1]
theorem dec2 : decK zdh [0, 1, 0] 2 = (lexP [e1E], 0) :=
 dec_same (p := zdh) (s := [0, 1, 0]) (k := 1) (hd := ⟨wOld, 0⟩) dec1 rfl rfl (by decide) rfl (by
  show (askR zhD (lexP [e1E]) _).to = _
  rw [askR_eq checkLP1 (by decide +kernel)]; decide +kernel)
theorem dec3 : decK zdh [0, 1, 0] 3 = (lexP [e1E, e2E], 0) := by
 rw [dec_add (p := zdh) (s := [0, 1, 0]) (k := 2) (hd := ⟨wSea, 1⟩) dec2 rfl rfl (by decide) rfl (by
  show ¬ (askR zhD (lexP [e1E]) _).to = _
  rw [askR_eq checkLP1 (by decide +kernel)]; decide +kernel)]
 rw [show decD (lexP [e1E]) ⟨⟨1, 0, 0⟩, seaSee⟩ ⟨wSea, 1⟩ = e2E by decide +kernel]
 show (addN zhD (lexP [e1E]) e2E, addE zhD (lexP [e1E]) e2E) = _
 rw [addN, if_pos addP2, addXP2, addP2]
theorem decideEE : zfP zdh = 0 ∧ zeU zdh = lexP [e1E, e2E] := by
 rw [zfP, zeU, if_pos allEE, if_pos allEE, setE]
 exact ⟨congrArg Prod.snd dec3, congrArg Prod.fst dec3⟩
theorem homP : homR zhD (lexP []) = [wSea] := by rw [homV_eq checkLP]; decide +kernel
theorem moot2 : mootR twoE = [wSea] := by
 rw [mootR, if_pos allE2, set2]
 show (homR zhD (lexP [])).filter _ = _
 rw [homP]; decide +kernel
theorem ex_01 : (if zcw twoE = 0 then ((zB twoE).length : Int) else 0) = 3 := by rw [if_pos checkP2, ziD]; rfl
theorem ex_02 : ((allL zdh true)[0]?).getD [] = [0, 1, 0] := by rw [allL, if_pos allEE, truthsE]; rfl
theorem in_ok {p : Poll} {n m : Int} (h : allE p true = 0) (h1 : inB n 0 m = true) : allE p (inB n 0 m) = 0 := by rw [h1]; exact h
theorem ex_03 : allE twoE (inB 1 0 ((twoE.questions.length : Int) - 1)) = 0 := in_ok allE2 (by decide +kernel)
theorem ex_04 : openR twoE 1 = [0, 1] := by rw [openR, if_pos ex_03, ziD]; decide +kernel
theorem ex_05 : zed twoE = [0, -1, -1] := by rw [zed, if_pos allE2, set2]
theorem ex_06 : allE zdh (inB 1 0 ((zdh.voters.length : Int) - 1)) = 0 := in_ok allEE (by decide +kernel)
theorem ex_07 : zfl zdh 1 = ⟨1, 1⟩ := by rw [zfl, if_pos ex_06, truthsE]; decide +kernel
theorem ex_08 : zie zdh 0 = 0 := by rw [zie, if_neg (by rw [checkPE]; decide), if_pos (by decide +kernel)]
theorem ex_09 : tallyR zdh 0 = [2, 0] := by rw [tallyR, if_pos ex_08]; decide +kernel
theorem ex_10 : askR7 twoE = [1, 2] := by rw [askR7, if_pos allE2, ziD]; decide +kernel
theorem ex_11 : nextE twoE = 0 := by rw [nextE, if_neg (by rw [allE2]; decide), ziD]; rfl
theorem ex_12 : nextR twoE = 1 := by rw [nextR, if_pos ex_11, ziD]; decide +kernel
theorem ex_13 : ((zeU zdh).decisions.length : Int) = 3 := by rw [decideEE.2]; rfl
end Go.Pk

namespace Go.Pk
open Go Go.RowKit
def zgd (l : List (List Int)) (n : Nat) : List (List Int) := l.flatMap fun x => (List.range n).map fun (h : Nat) => x ++ [(h : Int)]
theorem flat_flat {α β γ : Type} (f : α → List β) (g : β → List γ) : ∀ l : List α, (l.flatMap f).flatMap g = l.flatMap fun a => (f a).flatMap g
 | [] => rfl
 | a :: l => by rw [List.flatMap_cons, List.flatMap_cons, List.flatMap_append, flat_flat f g l]
theorem flat_map {α β γ : Type} (f : α → β) (g : β → List γ) : ∀ l : List α, (l.map f).flatMap g = l.flatMap fun a => g (f a)
 | [] => rfl
 | a :: l => by rw [List.map_cons, List.flatMap_cons, List.flatMap_cons, flat_map f g l]
theorem candL_snoc : ∀ (ns : List Nat) (n : Nat), zbM (ns ++ [n]) = zgd (zbM ns) n
 | [], n => by
  simp only [List.nil_append, zbM, zgd, List.map_cons, List.map_nil, List.flatMap_cons, List.flatMap_nil, List.append_nil]
  induction List.range n with
  | nil => rfl
  | cons a l ih => simp [List.flatMap_cons, ih]
 | m :: ns, n => by
  rw [List.cons_append, zbM, candL_snoc ns n, zbM]
  conv => rhs; rw [zgd, flat_flat]
  refine ziM fun h _ => ?_
  rw [zgd, map_flat, flat_map]
  refine ziM fun x _ => ?_
  rw [List.map_map]
  refine List.map_congr_left fun k _ => ?_
  simp
theorem cand_take {p : Poll} {k : Nat} {q : Question} (hq : p.questions[k]? = some q) : zbM ((zbj p).take (k + 1)) = zgd (zbM ((zbj p).take k)) q.heads.length := by
 rw [zba (sizes_at hq), candL_snoc]
theorem candX_snoc {l : List (List Int)} {i n : Nat} {x : List Int} (hx : l[i]? = some x) : zgd (l.take (i + 1)) n = zgd (l.take i) n ++ (List.range n).map fun (h : Nat) => x ++ [(h : Int)] := by
 rw [zgd, zba hx, List.flatMap_append]; simp [zgd]
def heads1 (x : List Int) (h : Nat) : List (List Int) := (List.range h).map fun (h : Nat) => x ++ [(h : Int)]
theorem heads1_succ (x : List Int) (h : Nat) : heads1 x (h + 1) = heads1 x h ++ [x ++ [(h : Int)]] := by simp [heads1, List.range_succ]
theorem candX_len (l : List (List Int)) (n : Nat) : (zgd l n).length = l.length * n := by
 induction l with
 | nil => simp [zgd]
 | cons a l ih =>
  have e : zgd (a :: l) n = ((List.range n).map fun (h : Nat) => a ++ [(h : Int)]) ++ zgd l n := by simp [zgd]
  rw [e, List.length_append, ih]
  simp [Nat.succ_mul]; omega
theorem true_iff {p : Poll} {hs : List Int} : zdd p hs = true ↔ (hs.length = p.questions.length ∧ (List.range hs.length).all (inAt p hs) = true) ∧ ∀ v ∈ p.voters, (zbb v hs : Int) ≤ v.wrong := by
 simp only [zdd, Bool.and_eq_true, decide_eq_true_eq]
 rw [List.all_eq_true (p := fun v => decide ((zbb v hs : Int) ≤ v.wrong))]
 simp only [decide_eq_true_eq]
theorem setL_at {ts : List (List Int)} {a0 : List Int} (h0 : ts[0]? = some a0) {k : Nat} {h : Int} (e : (zcB ts)[k]? = some h) : ∃ a, a0[k]? = some a ∧ h = if (ts.all fun t => decide (t[k]? = some a)) = true then a else -1 := by
 rw [zcB, h0] at e
 have hk : k < a0.length := by
  have := (List.getElem?_eq_some_iff.1 e).1
  rwa [zfH] at this
 rw [zio hk] at e
 refine ⟨_, List.getElem?_eq_getElem hk, ?_⟩
 have e2 := Option.some.inj e
 rw [← e2, setAt, List.getElem?_eq_getElem hk]
theorem set_pos {ts : List (List Int)} {k : Nat} {h : Int} (e : (zcB ts)[k]? = some h) (hp : 0 ≤ h) : ∀ t ∈ ts, t[k]? = some h := by
 cases h0 : ts[0]? with
 | none => rw [zcB, h0] at e; cases e
 | some a0 =>
  obtain ⟨a, ha, q⟩ := setL_at h0 e
  split at q
  ·rename_i c
   subst q
   intro t ht
   simpa using List.all_eq_true.1 c t ht
  ·omega
theorem set_all {ts : List (List Int)} (hn : ts ≠ []) {k : Nat} {h : Int} (ha : ∀ t ∈ ts, t[k]? = some h) : (zcB ts)[k]? = some h := by
 cases ts with
 | nil => exact absurd rfl hn
 | cons a0 ts =>
  have h1 := ha a0 List.mem_cons_self
  have hk := (List.getElem?_eq_some_iff.1 h1).1
  show (setK (a0 :: ts) a0)[k]? = _
  rw [zio hk, setAt, h1]
  simp only
  rw [if_pos (List.all_eq_true.2 fun t ht => by simpa using ha t ht)]
theorem set_neg {ts : List (List Int)} {k : Nat} {h : Int} (e : (zcB ts)[k]? = some h) (hb : ∀ t ∈ ts, ∀ a ∈ t, 0 ≤ a) : 0 ≤ h ∨ h = -1 := by
 cases h0 : ts[0]? with
 | none => rw [zcB, h0] at e; cases e
 | some a0 =>
  obtain ⟨a, ha, q⟩ := setL_at h0 e
  split at q
  ·left; subst q; exact hb a0 (List.mem_of_getElem? h0) _ (List.mem_of_getElem? ha)
  ·exact .inr q
theorem set_len7 {p : Poll} (hn : zB p ≠ []) : (zcB (zB p)).length = p.questions.length := by
 cases e : zB p with
 | nil => exact absurd e hn
 | cons a0 ts =>
  show (setK (a0 :: ts) a0).length = _
  rw [zfH]; exact zdl (by rw [e]; exact List.mem_cons_self)
def forN (vs : List Voter) (q : Nat) (h : Int) : Nat := (vs.filter fun v => decide (v.votes[q]? = some h)).length
theorem open_mem {ts : List (List Int)} {q n : Nat} {a : Int} : a ∈ zdK ts q n ↔ ∃ h : Nat, h < n ∧ a = (h : Int) ∧ ∃ t ∈ ts, t[q]? = some a := by
 simp only [zdK, List.mem_map, List.mem_filter, List.mem_range, zgz, List.any_eq_true, decide_eq_true_eq]
 constructor
 ·rintro ⟨h, ⟨h1, t, ht, e⟩, rfl⟩; exact ⟨h, h1, rfl, t, ht, e⟩
 rintro ⟨h, h1, rfl, t, ht, e⟩; exact ⟨h, ⟨h1, t, ht, e⟩, rfl⟩
theorem span_facts (v : Voter) : ∀ n, ∀ ts : List (List Int), ts.length = n → (∀ t ∈ ts, zbb v t ≤ 6) → (∀ t ∈ ts, (zec v ts).lo ≤ (zbb v t : Int) ∧ (zbb v t : Int) ≤ (zec v ts).hi) ∧ ((zec v ts).lo = 6 ∨ ∃ t ∈ ts, (zbb v t : Int) = (zec v ts).lo) ∧ ((zec v ts).hi = 0 ∨ ∃ t ∈ ts, (zbb v t : Int) = (zec v ts).hi)
 | 0, ts, hl, _ => by
  obtain rfl := List.eq_nil_of_length_eq_zero hl
  exact ⟨fun t ht => (by cases ht), .inl rfl, .inl rfl⟩
 | n + 1, ts, hl, h6 => by
  obtain ⟨t, ht⟩ : ∃ t, ts[n]? = some t := ⟨_, List.getElem?_eq_getElem (by omega)⟩
  have e := spanK_snoc (v := v) ht
  have e2 := zba ht
  rw [List.take_of_length_le (by omega)] at e e2
  obtain ⟨h1, h2, h3⟩ := span_facts v n (ts.take n) (by rw [List.length_take]; omega) (fun u hu => h6 u (List.mem_of_mem_take hu))
  have hlo : (zec v ts).lo = minI (zec v (ts.take n)).lo (zbb v t) := by rw [e]
  have hhi : (zec v ts).hi = maxI (zec v (ts.take n)).hi (zbb v t) := by rw [e]
  have hm : ∀ u, u ∈ ts ↔ u ∈ ts.take n ∨ u = t := by
   intro u
   conv => lhs; rw [e2]
   simp
  simp only [minI, maxI] at hlo hhi
  refine ⟨fun u hu => ?_, ?_, ?_⟩
  ·rcases (hm u).1 hu with q | rfl
   ·have := h1 u q
    rw [hlo, hhi]; constructor <;> split <;> omega
   ·rw [hlo, hhi]; constructor <;> split <;> omega
  ·by_cases c : (zec v ts).lo = (zbb v t : Int)
   ·exact .inr ⟨t, (hm t).2 (.inr rfl), c.symm⟩
   ·have c2 : (zec v ts).lo = (zec v (ts.take n)).lo := by split at hlo <;> first | exact hlo | exact absurd hlo c
    rw [c2]
    exact h2.imp id fun ⟨u, hu, q⟩ => ⟨u, (hm u).2 (.inl hu), q⟩
  ·by_cases c : (zec v ts).hi = (zbb v t : Int)
   ·exact .inr ⟨t, (hm t).2 (.inr rfl), c.symm⟩
   ·have c2 : (zec v ts).hi = (zec v (ts.take n)).hi := by split at hhi <;> first | exact hhi | exact absurd hhi c
    rw [c2]
    exact h3.imp id fun ⟨u, hu, q⟩ => ⟨u, (hm u).2 (.inl hu), q⟩
theorem span_ends {v : Voter} {ts : List (List Int)} (hn : ts ≠ []) (h6 : ∀ t ∈ ts, zbb v t ≤ 6) : (∀ t ∈ ts, (zec v ts).lo ≤ (zbb v t : Int) ∧ (zbb v t : Int) ≤ (zec v ts).hi) ∧ (∃ t ∈ ts, (zbb v t : Int) = (zec v ts).lo) ∧ ∃ t ∈ ts, (zbb v t : Int) = (zec v ts).hi := by
 obtain ⟨h1, h2, h3⟩ := span_facts v _ ts rfl h6
 obtain ⟨t, ht⟩ := List.exists_mem_of_ne_nil ts hn
 have h4 := h1 t ht
 have h5 := h6 t ht
 refine ⟨h1, ?_, ?_⟩
 ·rcases h2 with q | q
  ·exact ⟨t, ht, by omega⟩
  ·exact q
 rcases h3 with q | q
 ·exact ⟨t, ht, by omega⟩
 exact q
theorem open_in {p : Poll} {k : Nat} {q : Question} (hq : p.questions[k]? = some q) {t : List Int} (ht : t ∈ zB p) : ∃ b, t[k]? = some b ∧ b ∈ zdK (zB p) k q.heads.length := by
 obtain ⟨b, hb, h0, h1⟩ := truth_at ht hq
 exact ⟨b, hb, open_mem.2 ⟨b.toNat, by omega, by omega, t, ht, hb⟩⟩
theorem ends_set {p : Poll} (hn : zB p ≠ []) {k : Nat} {q : Question} (hq : p.questions[k]? = some q) {h : Int} (hs : (zcB (zB p))[k]? = some h) (h0 : 0 ≤ h) : zdK (zB p) k q.heads.length = [h] := by
 have ha := set_pos hs h0
 refine strict_eq intLt_T (ziH _ _ _) (by simp) fun x => ?_
 rw [List.mem_singleton]
 constructor
 ·intro hx
  obtain ⟨_, _, _, t, ht, e⟩ := open_mem.1 hx
  rw [ha t ht] at e
  exact (Option.some.inj e).symm
 rintro rfl
 obtain ⟨t, ht⟩ := List.exists_mem_of_ne_nil _ hn
 obtain ⟨b, hb, hm⟩ := open_in hq ht
 rw [ha t ht] at hb
 cases hb; exact hm
theorem ends_one {p : Poll} (hn : zB p ≠ []) {k : Nat} {q : Question} (hq : p.questions[k]? = some q) {h : Int} (hs : (zcB (zB p))[k]? = some h) : decide (0 ≤ h) = decide ((zdK (zB p) k q.heads.length).length = 1) := by
 by_cases h0 : 0 ≤ h
 ·rw [decide_eq_true h0, ends_set hn hq hs h0]; rfl
 rw [decide_eq_false h0]
 symm
 refine decide_eq_false fun hl => h0 ?_
 obtain ⟨a, e⟩ : ∃ a, zdK (zB p) k q.heads.length = [a] := by
  match hm : zdK (zB p) k q.heads.length, hl with
  | [a], _ => exact ⟨a, rfl⟩
 have hall : ∀ t ∈ zB p, t[k]? = some a := by
  intro t ht
  obtain ⟨b, hb, hm⟩ := open_in hq ht
  rw [e, List.mem_singleton] at hm
  rw [hb, hm]
 have := set_all hn hall
 rw [hs] at this
 cases this
 have hm : h ∈ zdK (zB p) k q.heads.length := by rw [e]; exact List.mem_singleton.2 rfl
 obtain ⟨_, _, e2, _⟩ := open_mem.1 hm
 omega
theorem set_in {p : Poll} (hn : zB p ≠ []) {k : Nat} {q : Question} (hq : p.questions[k]? = some q) {h : Int} (hs : (zcB (zB p))[k]? = some h) (h0 : 0 ≤ h) : h < (q.heads.length : Int) := by
 obtain ⟨t, ht⟩ := List.exists_mem_of_ne_nil _ hn
 obtain ⟨b, hb, _, h1⟩ := truth_at ht hq
 rw [set_pos hs h0 t ht] at hb
 cases hb; exact h1
theorem homR_len {t : Text} {x : Lexicon} (h : zaH t x = 0) : (homR t x).length ≤ 1000 := by
 rw [homR, if_pos h]
 have q := setL_len sLt_T (homsN (zbz t x) (zbz t x).length)
 have q2 := zhz (zbz t x) (zbz t x).length
 have q3 := entries_len (zdO h) x
 omega
end Go.Pk

namespace Go.Pk
open Go Go.RowKit
end Go.Pk

namespace Go.Pk
open Go Go.RowKit
theorem in_at {n k : Nat} (h : k < n) : inB (k : Int) 0 ((n : Int) - 1) = true := by
 simp only [inB, Bool.and_eq_true, decide_eq_true_eq]; omega
theorem allE_or {p : Poll} (h : zcw p = 0) : (allE p true = 0 ∧ zB p ≠ []) ∨ (allE p true = 8 ∧ zB p = []) := by
 rw [allE, if_neg (by simp [h]), if_neg (by simp)]
 by_cases e : zB p = []
 ·exact .inr ⟨by rw [if_pos e], e⟩
 exact .inl ⟨by rw [if_neg e], e⟩
def openN (p : Poll) (k : Nat) : List Int := if allE p true = 0 then zdK (zB p) k (((p.questions[k]?).getD zhx).heads.length) else []
theorem open_ok {p : Poll} {k : Nat} {q : Question} (hq : p.questions[k]? = some q) : allE p (inB (k : Int) 0 ((p.questions.length : Int) - 1)) = allE p true ∧ openR p (k : Int) = openN p k := by
 have e := in_at (List.getElem?_eq_some_iff.1 hq).1
 exact ⟨by rw [e], by rw [openR, e, Int.toNat_natCast]; rfl⟩
theorem openN_eq {p : Poll} {k : Nat} {q : Question} (h : allE p true = 0) (hq : p.questions[k]? = some q) : openN p k = zdK (zB p) k q.heads.length := by rw [openN, if_pos h, hq]; rfl
theorem wrongs_ok {p : Poll} {i : Nat} {v : Voter} (hv : p.voters[i]? = some v) : allE p (inB (i : Int) 0 ((p.voters.length : Int) - 1)) = allE p true ∧ (allE p true = 0 → zfl p (i : Int) = zec v (zB p)) := by
 have e := in_at (List.getElem?_eq_some_iff.1 hv).1
 refine ⟨by rw [e], fun h => ?_⟩
 rw [zfl, e, if_pos h, Int.toNat_natCast, hv]; rfl
theorem settled_ok {p : Poll} (h : allE p true = 0) : zed p = zcB (zB p) := by rw [zed, if_pos h]
theorem zcS {p : Poll} (hp : zcF p = true) (i : Nat) : (zbM ((zbj p).take i)).length ≤ 729 := by
 rw [candL_len]
 have h1 := prod_pow (ns := (zbj p).take i) (fun n hn => (sizes_ok hp n (List.mem_of_mem_take hn)).2)
 have h2 : ((zbj p).take i).length ≤ 6 := by
  rw [List.length_take, sizes_len]
  have := (zck hp).1; omega
 have h3 := Nat.pow_le_pow_right (n := 3) (by omega) h2
 have h4 : (3 : Nat) ^ 6 = 729 := by decide
 omega
theorem cand_xs {p : Poll} (hp : zcF p = true) {i k : Nat} {x : List Int} (hx : (zbM ((zbj p).take i))[k]? = some x) : x.length ≤ 6 := by
 have h1 := (candL_mem.1 (List.mem_of_getElem? hx)).1
 rw [List.length_take, sizes_len] at h1
 have := (zck hp).1; omega
theorem zeI {p : Poll} (hp : zcF p = true) {i k n : Nat} (hn : n ≤ 3) : (zgd ((zbM ((zbj p).take i)).take k) n).length ≤ 2187 := by
 rw [candX_len, List.length_take]
 have h1 := zcS hp i
 have h2 : min k (zbM ((zbj p).take i)).length * n ≤ 729 * 3 := Nat.mul_le_mul (by omega) hn
 omega
theorem zfd (x : List Int) (h : Nat) : (heads1 x h).length = h := by simp [heads1]
theorem candX_heads {l : List (List Int)} {k n : Nat} {x : List Int} (hx : l[k]? = some x) : zgd (l.take k) n ++ heads1 x n = zgd (l.take (k + 1)) n := (candX_snoc hx).symm
theorem candX_all {p : Poll} {i k : Nat} {q : Question} (hq : p.questions[i]? = some q) (hk : (zbM ((zbj p).take i)).length ≤ k) : zgd ((zbM ((zbj p).take i)).take k) q.heads.length = zbM ((zbj p).take (i + 1)) := by
 rw [cand_take hq, List.take_of_length_le hk]
theorem truths_take {p : Poll} {i k : Nat} (hi : p.questions.length ≤ i) (hk : (zbM ((zbj p).take i)).length ≤ k) : ((zbM ((zbj p).take i)).take k).filter (zdd p) = zB p := by
 rw [List.take_of_length_le hk, List.take_of_length_le (by rw [sizes_len]; exact hi)]; rfl
theorem wrongN_votes (v : Voter) (t : List Int) : zbb ⟨0, 0, v.votes⟩ t = zbb v t := rfl
theorem zgW {v : Voter} {xs : List Int} {k : Nat} (h : xs.length ≤ k) : zdU v xs k = false := by
 rw [zdU, List.getElem?_eq_none h]
 cases v.votes[k]? <;> rfl
theorem wrongAt_more {v : Voter} {xs : List Int} {k : Nat} (h : v.votes.length ≤ k) : zdU v xs k = false := by
 rw [zdU, List.getElem?_eq_none h]
theorem wrongK_top {v : Voter} {xs : List Int} {n : Nat} (hz : ∀ k, n ≤ k → zdU v xs k = false) : ∀ d, zeP v xs (n + d) = zeP v xs n
 | 0 => rfl
 | d + 1 => by rw [← Nat.add_assoc, zds, wrongK_top hz d, hz _ (by omega)]; simp
theorem wrongK_votes (v : Voter) (xs : List Int) : zeP v xs v.votes.length = zbb v xs := by
 show zeP v xs v.votes.length = zeP v xs xs.length
 rcases Nat.le_total v.votes.length xs.length with h | h
 ·have := wrongK_top (v := v) (xs := xs) (n := v.votes.length) (fun k hk => wrongAt_more hk) (xs.length - v.votes.length)
  rw [show v.votes.length + (xs.length - v.votes.length) = xs.length by omega] at this
  exact this.symm
 have := wrongK_top (v := v) (xs := xs) (n := xs.length) (fun k hk => zgW hk) (v.votes.length - xs.length)
 rw [show xs.length + (v.votes.length - xs.length) = v.votes.length by omega] at this
 exact this
def zfm (p : Poll) (k : Nat) : Span := zfl p (k : Int)
theorem wrongs_in {p : Poll} {k : Nat} {v : Voter} (hp : zcF p = true) (h : allE p true = 0) (hn : zB p ≠ []) (hv : p.voters[k]? = some v) :
  (∀ t ∈ zB p, (zfm p k).lo ≤ (zbb v t : Int) ∧ (zbb v t : Int) ≤ (zfm p k).hi) ∧ (zB p).any (fun t => decide ((zbb v t : Int) = (zfm p k).lo)) = true ∧ (zB p).any (fun t => decide ((zbb v t : Int) = (zfm p k).hi)) = true ∧ (zfm p k).hi ≤ v.wrong := by
 have e : zfm p k = zec v (zB p) := (wrongs_ok hv).2 h
 have h6 : ∀ t ∈ zB p, zbb v t ≤ 6 := fun t ht => Nat.le_trans (wrongN_le ht v) (zck hp).1
 obtain ⟨a, ⟨t, ht, b⟩, ⟨u, hu, c⟩⟩ := span_ends hn h6
 rw [e]
 refine ⟨a, List.any_eq_true.2 ⟨t, ht, decide_eq_true b⟩, List.any_eq_true.2 ⟨u, hu, decide_eq_true c⟩, ?_⟩
 rw [← c]
 exact (true_iff.1 (List.mem_filter.1 hu).2).2 v (List.mem_of_getElem? hv)
def moreP (p : Poll) (v : Voter) : Poll := ⟨p.text, p.lexicon, p.questions, p.voters ++ [v]⟩
theorem allE_some {p : Poll} (h : zcw p = 0) (hn : zB p ≠ []) : allE p true = 0 := by
 rcases allE_or h with q | q
 ·exact q.1
 exact absurd q.2 hn
theorem allE_none {p : Poll} (h : zcw p = 0) (hn : zB p = []) : allE p true = 8 := by
 rcases allE_or h with q | q
 ·exact absurd hn q.2
 exact q.1
theorem settledN_len {p : Poll} (h : allE p true = 0) : (zed p).length = p.questions.length := by
 rw [settled_ok h, set_len7 (zhl h).2.2.1]
def rotP (p : Poll) (ys : List Voter) : Poll := ⟨p.text, p.lexicon, p.questions, ys⟩
def RotN (vs ys : List Voter) (k i : Nat) : Prop := ys.length = vs.length ∧ ∀ j, j < i → ys[j]? = vs[(j + k) % vs.length]?
theorem RotN.step {vs ys : List Voter} {k i : Nat} {v : Voter} (h : RotN vs ys k i) (hi : i < vs.length) (hv : vs[(i + k) % vs.length]? = some v) : RotN vs (ys.set i v) k (i + 1) := by
 refine ⟨by rw [List.length_set]; exact h.1, fun j hj => ?_⟩
 by_cases e : j = i
 ·subst e; rw [List.getElem?_set_self (by rw [h.1]; exact hi), hv]
 rw [List.getElem?_set_ne (Ne.symm e)]; exact h.2 j (by omega)
theorem RotN.perm {vs ys : List Voter} {k i : Nat} (h : RotN vs ys k i) (hi : vs.length ≤ i) (hk : k < vs.length) : ys.Perm vs := by
 have e : ys = vs.drop k ++ vs.take k := by
  refine List.ext_getElem? fun j => ?_
  by_cases hj : j < vs.length
  ·rw [h.2 j (by omega)]
   by_cases c : j + k < vs.length
   ·rw [Nat.mod_eq_of_lt c, List.getElem?_append_left (by rw [List.length_drop]; omega), List.getElem?_drop, Nat.add_comm]
   ·have e2 : (j + k) % vs.length = j + k - vs.length := by
     rw [Nat.mod_eq_sub_mod (by omega), Nat.mod_eq_of_lt (by omega)]
    rw [e2, List.getElem?_append_right (by rw [List.length_drop]; omega), List.length_drop, List.getElem?_take, if_pos (by omega)]
    congr 1; omega
  ·rw [List.getElem?_eq_none (by rw [h.1]; omega), List.getElem?_eq_none (by rw [List.length_append, List.length_drop, List.length_take]; omega)]
 rw [e]
 have := List.perm_append_comm (l₁ := vs.drop k) (l₂ := vs.take k)
 rwa [List.take_append_drop] at this
structure RotE (p x : Poll) : Prop where
 ck : zcw x = zcw p
 ts : zB x = zB p
 al : ∀ so, allE x so = allE p so
 se : zed x = zed p
 ak : askR7 x = askR7 p
 dr : zeU x = zeU p
 de : zfP x = zfP p
def wrongsV (p : Poll) (v : Voter) : Span := if allE p true = 0 then zec v (zB p) else zSpan
theorem open_there {ts : List (List Int)} {k n h : Nat} (hh : h < n) : zgz ts k (h : Int) = decide ((h : Int) ∈ zdK ts k n) := by
 rw [Bool.eq_iff_iff, decide_eq_true_eq, open_mem, zgz, List.any_eq_true]
 simp only [decide_eq_true_eq]
 exact ⟨fun ⟨t, ht, e⟩ => ⟨h, hh, rfl, t, ht, e⟩, fun ⟨_, _, _, t, ht, e⟩ => ⟨t, ht, e⟩⟩
theorem openB_snoc {ts : List (List Int)} {j k : Nat} {t : List Int} {a h : Int} (ht : ts[j]? = some t) (ha : t[k]? = some a) : zgz (ts.take (j + 1)) k h = (zgz (ts.take j) k h || decide (a = h)) := by
 rw [zgz, zeJ ht, ha]
 simp [zgz]
theorem ends_oneI {p : Poll} (hn : zB p ≠ []) {k : Nat} {q : Question} (hq : p.questions[k]? = some q) {h : Int} (hs : (zcB (zB p))[k]? = some h) : decide (h ≥ 0) = decide (((zdK (zB p) k q.heads.length).length : Int) = 1) := by
 have e := ends_one hn hq hs
 rw [show decide (h ≥ 0) = decide (0 ≤ h) from rfl, e, Bool.eq_iff_iff, decide_eq_true_eq, decide_eq_true_eq]
 omega
theorem ends_first {p : Poll} (hn : zB p ≠ []) {k : Nat} {q : Question} (hq : p.questions[k]? = some q) {h o : Int} (hs : (zcB (zB p))[k]? = some h) (h0 : 0 ≤ h) (ho : (zdK (zB p) k q.heads.length)[0]? = some o) : h = o := by
 rw [ends_set hn hq hs h0] at ho
 exact Option.some.inj ho
theorem ends_low {p : Poll} (hp : zcF p = true) {k : Nat} {h : Int} (hs : (zcB (zB p))[k]? = some h) : ¬ h < -1 := by
 have := set_neg hs (fun t ht a ha => (truths_small hp (fun _ q => q) t ht a ha).1)
 omega
theorem truth_first {p : Poll} (h : allE p true = 0) {a : List Int} (ha : (zB p)[0]? = some a) : ((allL p true)[0]?).getD [] = a := by
 rw [(zhl h).2.2.2, ha]; rfl
end Go.Pk
