/- A PART OF THE PROOF: contracts of functions, each walked once (much of it printed by a program of the author's own). -/
import Derived.Test.YtjhjphgkhdnniaaGreatDoorT1
import Derived.RangeFuncRecord
import Derived.RangeFuncIn
import Derived.RangeFuncLeaves
import Derived.Test.YtjhjphgkhdnniaaGreatDoorT3
import Derived.Test.YtjhjphgkhdnniaaGreatDoorT2
import Derived.Test.YtjhjphgkhdnniaaGreatDoorT0
set_option linter.unusedSimpArgs false
set_option linter.unusedVariables false
set_option maxRecDepth 4000
namespace Go.Pk
open Go Go.RowKit
theorem St.setAt {h0 h : Heap} {w0 w : World} {A C : Own} {b : Nat} {o : Obj} (st : St h0 w0 h w (A ++ [(b, o)] :: C)) (o' : Obj) : St h0 w0 h (w.putObj b o') (A ++ [(b, o')] :: C) := by
 have := st.set (k := A.length) (b := b) (o := o) o' (by simp);have e : (A ++ [(b, o)] :: C).set A.length [(b, o')] = A ++ [(b, o')] :: C := by
  rw [List.set_append_right _ _ (Nat.le_refl _), Nat.sub_self, List.set_cons_zero]
 rw [e] at this; exact this
theorem St.at {h0 h : Heap} {w0 w : World} {A C : Own} {b : Nat} {o : Obj} (st : St h0 w0 h w (A ++ [(b, o)] :: C)) : w.heap[b]? = some o := st.get (k := A.length) (by simp)
def Yields (P : Program) (l : Nat) (args : Array Value) (w : World) (R : Value → World → Prop) : Prop :=
 ∃ fn tmps assign body, (Instr.yield l args).run P w = .ok (.round l fn tmps assign body) w ∧ RoundIn Fence.wide 0 P l fn tmps assign body w fun e w' => ∃ v, e = .returned v ∧ R v w'
theorem OpsL.yields {P : Program} {n : Nat} {ops : Array Oper} {rest : List Oper} {K : Env → World → Prop} {σ : Env} {w : World} {o : Oper} {x : Operand} {args : Array Operand} {ats : Array TypeId} {l : Nat} {vs : List Value}
  (ho : o.op = .call ⟨.value x, args, ats⟩) (hg : o.guard = none) (hd : zfO n o.dst = true) (hx : ev σ x = .func (.yield l) #[] #[]) (hv : args.toList.map (ev σ) = vs)
  (h : Yields P l vs.toArray w fun v w' => OpsL P n ops rest K (updO σ o.dst v) w') : OpsL P n ops (o :: rest) K σ w := by
 obtain ⟨fn, tmps, assign, body, hr, hR⟩ := h;refine OpsL.round (l := l) (f := fn) (tmps := tmps) (assign := assign) (body := body) (w' := w) hg hd ?_ hR;subst hv;have e : args.map (ev σ) = (args.toList.map (ev σ)).toArray := amap (ev σ) args;rw [← e] at hr;unfold execOp;simp [ho, resolve, hx, invoke, callFunc, hr, go_sem]
theorem St.tl {h0 h : Heap} {w0 w : World} {o : List (Nat × Obj)} {own : Own} (st : St h0 w0 h w (o :: own)) : St h0 w0 h w own := by
 have s := st.drop 0;rw [List.set_cons_zero] at s;exact ⟨s.le, s.new, s.sub, s.below, fun p hp => s.mine p (by simpa using hp), by simpa using s.nodup⟩
theorem Yields.mono {P : Program} {l : Nat} {args : Array Value} {w : World} {R R' : Value → World → Prop} (h : Yields P l args w R) (hr : ∀ v w', R v w' → R' v w') : Yields P l args w R' := by
 obtain ⟨fn, tmps, assign, body, hrun, hR⟩ := h;exact ⟨fn, tmps, assign, body, hrun, RoundIn.mono hR fun e w' ⟨v, he, h⟩ => ⟨v, he, hr v w' h⟩⟩
theorem zfL {P : Program} {n : Nat} {ops : Array Oper} {rest : List Oper} {K : Env → World → Prop} {σ : Env} {w : World} {o : Oper} {x : Operand} {args : Array Operand} {ats : Array TypeId} {l : Nat} {vs : List Value} {h0 h1 : Heap} {w0 : World} {B : Own} {J1 J2 : Heap → Own → Prop}
  (ho : o.op = .call ⟨.value x, args, ats⟩) (hg : o.guard = none) (hd : zfO n o.dst = true) (hx : ev σ x = .func (.yield l) #[] #[]) (hv : args.toList.map (ev σ) = vs)
  (h : Yields P l vs.toArray w fun v w2 => ∃ h2 rest2, Le h1 h2 ∧ St h0 w0 h2 w2 (B ++ rest2) ∧ ((v = .bool true ∧ J1 h2 rest2) ∨ (v = .bool false ∧ J2 h2 rest2)))
  (hk : ∀ b w2 h2 rest2, Le h1 h2 → St h0 w0 h2 w2 (B ++ rest2) → (b = true → J1 h2 rest2) → (b = false → J2 h2 rest2) → OpsL P n ops rest K (updO σ o.dst (.bool b)) w2) : OpsL P n ops (o :: rest) K σ w := by
 refine OpsL.yields ho hg hd hx hv (h.mono ?_);rintro v w2 ⟨h2, rest2, le, st, ⟨rfl, hj⟩ | ⟨rfl, hj⟩⟩
 ·exact hk true w2 h2 rest2 le st (fun _ => hj) (fun e => by cases e)
 ·exact hk false w2 h2 rest2 le st (fun e => by cases e) (fun _ => hj)
theorem zdf {P : Program} {n : Nat} {ops : Array Oper} {rest : List Oper} {K : Env → World → Prop} {σ : Env} {w w0 : World} {h0 h : Heap} {own : Own} {o : Oper} {f : FuncId} {x : Operand} {fs cs : List Value} {args : Array Operand} {ats : Array TypeId} {vs : List Value} {Φ : Heap → World → Value → Prop} (st : St h0 w0 h w own) (ho : o.op = .call ⟨.value x, args, ats⟩) (hx : ev σ x = .func (.func f) fs.toArray cs.toArray) (hg : o.guard = none) (hd : zfO n o.dst = true) (hf : ∀ a w, (callFunc f a).run P w = .ok (.enter f a) w)
  (hv : fs ++ args.toList.map (ev σ) ++ cs = vs) (hc : Calls P f vs.toArray w (Rets h w Φ))
  (hk : ∀ v w' h', Le h h' → St h0 w0 h' w' own → Φ h' w' v → OpsL P n ops rest K (updO σ o.dst v) w') : OpsL P n ops (o :: rest) K σ w := by
 refine zaA hg hd (zbW ho hx hf hv) (hc.mono ?_);rintro e w' ⟨h', v, rfl, s, hΦ⟩;exact ⟨v, rfl, hk v w' h' s.le (st.call0 s) hΦ⟩
def Gives {α : Type} (P : Program) (gf : FuncId) (caps : List Value) (A : Heap → Value → α → Prop) (S : List α → Prop) (h0 : Heap) (w0 : World) (h : Heap) : Prop :=
 ∀ (l : Nat) (J Jx : List α → Heap → Own → Prop),
  (∀ xs h1 h2 o, J xs h1 o → Le h1 h2 → J xs h2 o) → (∀ xs h1 h2 o, Jx xs h1 o → Le h1 h2 → Jx xs h2 o) →
  (∀ pre x h1 w1 B rest u, Le h h1 → J pre h1 rest → St h0 w0 h1 w1 (B ++ rest) → A h1 u x → Yields P l #[u] w1 fun v w2 => ∃ h2 rest2, Le h1 h2 ∧ St h0 w0 h2 w2 (B ++ rest2) ∧ ((v = .bool true ∧ J (pre ++ [x]) h2 rest2) ∨ (v = .bool false ∧ Jx (pre ++ [x]) h2 rest2))) →
  ∀ h1 w rest, Le h h1 → J [] h1 rest → St h0 w0 h1 w rest →
   Calls P gf (.func (.yield l) #[] #[] :: caps).toArray w fun e w' => ∃ h' rest' v, e = .returned v ∧ Le h1 h' ∧ St h0 w0 h' w' rest' ∧ ((∃ xs, S xs ∧ J xs h' rest') ∨ (∃ pre, Jx pre h' rest'))

structure FitsD (ds : List Deferred) (n : Nat) (a : Act) (σ : Env) : Prop where
 size : a.tmps.size = n
 defers : a.defers = ds
 at_ : ∀ i, a.tmps.getD i undef = σ i
abbrev VS := List Deferred × Env
theorem FitsD.bare {ds : List Deferred} {n : Nat} {a : Act} {σ : Env} (h : FitsD ds n a σ) : Fits n { a with defers := [] } σ := ⟨h.size, rfl, h.at_⟩
theorem FitsD.eval {ds : List Deferred} {n : Nat} {a : Act} {σ : Env} (h : FitsD ds n a σ) : a.eval = ev σ := by
 funext x; cases x <;> simp only [Act.eval, ev]; exact h.at_ _
def V (F : Fence) (P : Program) (n : Nat) (c : Code) (Q : Exit → VS → World → Prop) (s : VS) (w : World) : Prop :=
 ∀ k a, FitsD s.1 n a s.2 → c.wpIn F k P (fun e a' w' => ∃ s' : VS, FitsD s'.1 n a' s'.2 ∧ Q e s' w') a w
def ThenV (K : VS → World → Prop) (Q : Exit → VS → World → Prop) : Exit → VS → World → Prop
 | .normal, σ, w => K σ w
 | e, σ, w => Q e σ w
def BlkV (id : Nat) (Q : Exit → VS → World → Prop) : Exit → VS → World → Prop
 | .exit id', σ, w => if id' = id then Q .normal σ w else Q (.exit id') σ w
 | e, σ, w => Q e σ w
theorem zbq {K : VS → World → Prop} {Q : Exit → VS → World → Prop} {s : VS} {w : World} (h : K s w) : ThenV K Q .normal s w := h
theorem ThenV.exit {K : VS → World → Prop} {Q : Exit → VS → World → Prop} {s : VS} {w : World} {id : Nat} (h : Q (.exit id) s w) : ThenV K Q (.exit id) s w := h
theorem ThenV.ret {K : VS → World → Prop} {Q : Exit → VS → World → Prop} {s : VS} {w : World} (h : Q .ret s w) : ThenV K Q .ret s w := h
theorem zfh {id : Nat} {Q : Exit → VS → World → Prop} {s : VS} {w : World} (h : Q .normal s w) : BlkV id Q .normal s w := h
theorem BlkV.hit {id : Nat} {Q : Exit → VS → World → Prop} {s : VS} {w : World} (h : Q .normal s w) : BlkV id Q (.exit id) s w := by simp only [BlkV, if_true]; exact h
theorem BlkV.ret {id : Nat} {Q : Exit → VS → World → Prop} {s : VS} {w : World} (h : Q .ret s w) : BlkV id Q .ret s w := h
section
variable {F : Fence} {P : Program} {n : Nat} {Q : Exit → VS → World → Prop} {s : VS} {w : World}
theorem V.skip (h : Q .normal s w) : V F P n .skip Q s w := fun _ _ ha => wpIn_skip ⟨s, ha, h⟩
theorem V.label {l : Nat} (h : Q .normal s w) : V F P n (.label l) Q s w := fun _ _ ha => wpIn_label ⟨s, ha, h⟩
theorem V.exit {id : Nat} (h : Q (.exit id) s w) : V F P n (.exit id) Q s w := fun _ _ ha => wpIn_exit ⟨s, ha, h⟩
theorem V.ret (h : Q .ret s w) : V F P n .ret Q s w := fun _ _ ha => wpIn_ret ⟨s, ha, h⟩
theorem zeL {x y : Code} (h : V F P n x (ThenV (V F P n y Q) Q) s w) : V F P n (.seq x y) Q s w := by
 intro k a ha;refine wpIn_seq (wpIn_mono (h k a ha) ?_);rintro e a' w' ⟨s', hf, q⟩;cases e <;> first | exact q k a' hf | exact ⟨s', hf, q⟩
theorem ziF {id : Nat} {c : Code} (h : V F P n c (BlkV id Q) s w) : V F P n (.block id c) Q s w := by
 intro k a ha;refine wpIn_block (wpIn_mono (h k a ha) ?_);rintro e a' w' ⟨s', hf, q⟩;cases e with
 | exit id' =>
  simp only [BlkV] at q;simp only [Exit.inBlock];split
  ·rename_i h; rw [if_pos h] at q; exact ⟨s', hf, q⟩
  ·rename_i h; rw [if_neg h] at q; exact ⟨s', hf, q⟩
 | _ => exact ⟨s', hf, q⟩
theorem V.cond {c : Operand} {x y : Code} {t : Bool} (hc : ev s.2 c = .bool t) (ht : t = true → V F P n x Q s w) (hf : t = false → V F P n y Q s w) : V F P n (.cond c x y) Q s w := by
 intro k a ha;exact wpIn_cond_split (t := t) (by rw [ha.eval]; exact hc) (fun e => ht e k a ha) (fun e => hf e k a ha)
def zhK : List Oper → Bool
 | [] => true
 | o :: l => (match o.op with | .defer _ => false | _ => true) && zhK l
theorem noDefer_one {o : Oper} (h : (match o.op with | .defer _ => false | _ => true) = true) : ∀ c, o.op ≠ .defer c := by
 intro c e; rw [e] at h; cases h
theorem listIn_of {ops : Array Oper} {ds : List Deferred} {q : Exit → Act → World → Prop} {q' : Exit → Act → World → Prop} {r : Option Nat} (hq : ∀ e a1 a2 w, a2.tmps = a1.tmps → a2.defers = a1.defers ++ ds → q e a1 w → q' e a2 w) (hn : ∀ e a w, q e a w → e = .normal) {k : Nat} :
  ∀ (l : List Oper) (a1 a2 : Act) (w : World), zhK l = true → a2.tmps = a1.tmps → a2.defers = a1.defers ++ ds → wpListIn Fence.wide 0 P ops q l a1 w → wpListIn { Fence.wide with round := r } k P ops q' l a2 w
 | [], a1, a2, w, _, h1, h2, h => hq _ _ _ _ h1 h2 h
 | o :: l, a1, a2, w, hd, h1, h2, h => by
  simp only [zhK, Bool.and_eq_true] at hd;have ih := fun a1 a2 w => listIn_of (r := r) (ops := ops) hq hn (k := k) l a1 a2 w hd.2;have hev : a2.eval = a1.eval := by funext x; cases x <;> simp only [Act.eval, h1]
  unfold wpListIn at h ⊢;rw [h1];have hp1 : ∀ (d : Option Tmp) (v : Value), (a2.put d v).tmps = (a1.put d v).tmps := by
   intro d v; cases d <;> simp [Act.put, h1]
  have hp2 : ∀ (d : Option Tmp) (v : Value), (a2.put d v).defers = (a1.put d v).defers ++ ds := by
   intro d v; cases d <;> simp [Act.put, h2]
  split
  ·rename_i hw;rw [if_pos hw] at h;obtain ⟨_, h⟩ := h;refine ⟨fun _ _ => trivial, ?_⟩;rw [Oper.semAt_eq _ _ _ (noDefer_one hd.1), hev];have h : o.uponIn Fence.wide 0 P a1 _ _ ((execOp a1.eval o).run P w) := h;cases hr : (execOp a1.eval o).run P w with
   | ok nx w' =>
    rw [hr] at h;cases nx with
    | value v => exact ih _ _ _ (hp1 _ _) (hp2 _ _) h
    | skip => exact ih _ _ _ (hp1 _ _) (hp2 _ _) h
    | defer d =>
     refine ih _ _ _ ?_ ?_ h
     ·cases o.dst <;> simp [Act.put, h1]
     ·cases o.dst <;> simp [Act.put, h2]
    | enter f args =>
     refine ⟨fun hh => absurd hh (by simp [Fence.wide]), ?_⟩;have h2' := (callsIn_wide (n := k - 1)).2 (callsIn_wide.1 h.2);have h3 : CallsIn { Fence.wide with round := r } (k - 1) P f args w' _ := h2';refine CallsIn.mono h3 ?_;intro e w'' he;cases e with
     | returned v => exact ih _ _ _ (hp1 _ _) (hp2 _ _) he
     | panicked c => exact absurd (hn _ _ _ he) (by simp)
     | outgrown => obtain ⟨_, _, he⟩ := he; exact absurd (hn _ _ _ he) (by simp)
    | round l f tmps assign body =>
     refine ⟨fun hh => absurd hh (by simp [Fence.wide]), ?_⟩;have h3 : RoundIn { Fence.wide with round := r } (k - 1) P l f tmps assign body w' _ := ⟨trivial, fun c cs _ => h.2.2 c cs (room_wide _)⟩;refine RoundIn.mono h3 ?_;intro e w'' he;cases e with
     | returned v => exact ih _ _ _ (hp1 _ _) (hp2 _ _) he
     | panicked c => exact absurd (hn _ _ _ he) (by simp)
     | outgrown => obtain ⟨_, _, he⟩ := he; exact absurd (hn _ _ _ he) (by simp)
    | row rw_ args =>
     refine ⟨fun hh => absurd hh (by simp [Fence.wide]), ?_⟩;have h3 : RowsIn { Fence.wide with round := r } (k - 1) P rw_ args w' _ := fun c cs _ => h.2 c cs (room_wide _);refine RowsIn.mono h3 ?_;intro v w'' he;exact ih _ _ _ (hp1 _ _) (hp2 _ _) he
    | _ => exact h.elim
   | halt x w' =>
    rw [hr] at h;cases x with
    | panic v => exact absurd (hn _ _ _ h) (by simp)
    | _ => exact h.elim
  ·rename_i hw;rw [if_neg hw] at h;obtain ⟨_, h⟩ := h;exact ⟨fun _ _ => trivial, ih _ _ _ (hp1 _ _) (hp2 _ _) h⟩
theorem zch {r : Option Nat} {ds : List Deferred} {σ : Env} {id : Nat} {l : List Oper} (hnd : zhK l = true) (h : OpsL P n l.toArray l (fun σ w => Q .normal (ds, σ) w) σ w) : V { Fence.wide with round := r } P n (.region id l.toArray false) Q (ds, σ) w := by
 intro k a ha;refine wpIn_region_lit (listIn_of (ds := ds) ?_ ?_ l { a with defers := [] } a w hnd rfl (by simpa using ha.defers) (h _ ha.bare))
 ·rintro e a1 a2 w h1 h2 ⟨rfl, σ', hf, q⟩;refine ⟨(ds, σ'), ⟨by rw [h1]; exact hf.size, by rw [h2, hf.defers]; rfl, by rw [h1]; exact hf.at_⟩, q⟩
 rintro e a w ⟨rfl, _⟩; rfl
end
theorem V.mono {F : Fence} {P : Program} {n : Nat} {Q Q' : Exit → VS → World → Prop} {s : VS} {w : World} {c : Code} (h : V F P n c Q s w) (hq : ∀ e s w, Q e s w → Q' e s w) : V F P n c Q' s w :=
 fun k a ha => wpIn_mono (h k a ha) fun _ _ _ ⟨s', hf, q⟩ => ⟨s', hf, hq _ _ _ q⟩
theorem V.ofW {P : Program} {n : Nat} {c : Code} {Q : Exit → VS → World → Prop} {σ : Env} {w : World} (h : W P n c (fun e σ' w' => Q e ([], σ') w') σ w) : V Fence.wide P n c Q ([], σ) w := by
 intro k a ha;have hf : Fits n a σ := ⟨ha.size, ha.defers, ha.at_⟩;refine (wpIn_wide (n := k)).2 (Code.wp_mono ?_ (h a hf));rintro e a' w' ⟨σ', hf', q⟩;exact ⟨([], σ'), ⟨hf'.size, hf'.defers, hf'.at_⟩, q⟩
def RPost {α : Type} (I : List α → Heap → Own → Prop) (Ix : Code → List α → Heap → Own → Prop) (h0 : Heap) (w0 : World) (h2 : Heap) (xs : List α) (tail : Own) : Exit → VS → World → Prop := fun e _ w4 =>
 ∃ h3 own3, Le h2 h3 ∧ St h0 w0 h3 w4 (own3 ++ tail) ∧ (match e with
  | .normal => I xs h3 own3
  | .ret => Ix .ret xs h3 own3
  | .exit id => Ix (.exit id) xs h3 own3
  | .goto t => Ix (.goto t) xs h3 own3
  | _ => False)
def APost {α : Type} (F : Fence) (P : Program) (n : Nat) (body : Code) (I : List α → Heap → Own → Prop) (Ix : Code → List α → Heap → Own → Prop) (h0 : Heap) (w0 : World) (h1 : Heap) (xs : List α) (tail : Own) : Exit → VS → World → Prop := fun e s w2 =>
 e = .normal ∧ ∃ h2 own2, Le h1 h2 ∧ St h0 w0 h2 w2 (own2 ++ tail) ∧ ∀ tail' w3, St h0 w0 h2 w3 (own2 ++ tail') → V F P n body (RPost I Ix h0 w0 h2 xs tail') s w3
theorem APost.mk {α : Type} {F : Fence} {P : Program} {n : Nat} {body : Code} {I : List α → Heap → Own → Prop} {Ix : Code → List α → Heap → Own → Prop} {h0 h1 h2 : Heap} {w0 : World} {xs : List α} {own2 tail : Own} {s : VS} {w2 : World} (le : Le h1 h2) (st : St h0 w0 h2 w2 (own2 ++ tail))
  (hb : ∀ tail' w3, St h0 w0 h2 w3 (own2 ++ tail') → V F P n body (RPost I Ix h0 w0 h2 xs tail') s w3) : APost F P n body I Ix h0 w0 h1 xs tail .normal s w2 := ⟨rfl, h2, own2, le, st, hb⟩
theorem zgg {α : Type} {I : List α → Heap → Own → Prop} {Ix : Code → List α → Heap → Own → Prop} {h0 h2 h3 : Heap} {w0 : World} {xs : List α} {own3 tail : Own} {s : VS} {w4 : World} (le : Le h2 h3) (st : St h0 w0 h3 w4 (own3 ++ tail)) (hI : I xs h3 own3) : RPost I Ix h0 w0 h2 xs tail .normal s w4 := ⟨h3, own3, le, st, hI⟩
theorem RPost.exit {α : Type} {I : List α → Heap → Own → Prop} {Ix : Code → List α → Heap → Own → Prop} {h0 h2 h3 : Heap} {w0 : World} {xs : List α} {own3 tail : Own} {s : VS} {w4 : World} {id : Nat} (le : Le h2 h3) (st : St h0 w0 h3 w4 (own3 ++ tail)) (hI : Ix (.exit id) xs h3 own3) : RPost I Ix h0 w0 h2 xs tail (.exit id) s w4 := ⟨h3, own3, le, st, hI⟩
theorem perm_end {α : Type} (A B C : List α) : (B ++ (A ++ C)).Perm (A ++ (C ++ B)) := by
 rw [← List.append_assoc A C B]; exact List.perm_append_comm
def GivesX {α : Type} (P : Program) (gf : FuncId) (caps : List Value) (A : List α → Heap → List Value → α → Prop) (S : List α → Prop) (X : Own) (h0 : Heap) (w0 : World) (h : Heap) : Prop :=
 ∀ (l : Nat) (J Jx : List α → Heap → Own → Prop),
  (∀ xs h1 h2 o, J xs h1 o → Le h1 h2 → J xs h2 o) → (∀ xs h1 h2 o, Jx xs h1 o → Le h1 h2 → Jx xs h2 o) →
  (∀ pre x h1 w1 B rest us, Le h h1 → J pre h1 rest → St h0 w0 h1 w1 (B ++ rest) → A pre h1 us x → Yields P l us.toArray w1 fun v w2 => ∃ h2 rest2, Le h1 h2 ∧ St h0 w0 h2 w2 (B ++ rest2) ∧ ((v = .bool true ∧ J (pre ++ [x]) h2 rest2) ∨ (v = .bool false ∧ Jx (pre ++ [x]) h2 rest2))) →
  ∀ h1 w rest, Le h h1 → J [] h1 rest → St h0 w0 h1 w (X ++ rest) →
   Calls P gf (.func (.yield l) #[] #[] :: caps).toArray w fun e w' => ∃ h' rest' v, e = .returned v ∧ Le h1 h' ∧ St h0 w0 h' w' rest' ∧ ((∃ xs, S xs ∧ J xs h' rest') ∨ (∃ pre, Jx pre h' rest'))
def GivesG {α : Type} (P : Program) (gf : FuncId) (caps : List Value) (A : List α → Heap → List Value → α → Prop) (S : List α → Prop) (h0 : Heap) (w0 : World) (h : Heap) : Prop := GivesX P gf caps A S [] h0 w0 h
theorem V.rangeFuncX {α : Type} {P : Program} {n : Nat} {Q : Exit → VS → World → Prop} {A : List α → Heap → List Value → α → Prop} {g : Operand} {ps : Array Tmp} {up : List Value → Env} {assign body : Code} {σ : Env} {w : World} {gf : FuncId} {caps : List Value} {S : List α → Prop} {h0 h : Heap} {w0 : World} {X own : Own}
  (st : St h0 w0 h w (X ++ own)) (hg : ev σ g = .func (.func gf) #[] caps.toArray) (eg : ∀ a w, (callFunc gf a).run P w = .ok (.enter gf a) w) (hput : ∀ (a : Act) pre us h x, FitsD [] n a σ → A pre h us x → FitsD [] n ({ tmps := (ps.zip us.toArray).foldl (fun tmps (x : Nat × Value) => tmps.setIfInBounds x.1 x.2) a.tmps, defers := [] } : Act) (up us)) (hsz : ∀ pre us h x, A pre h us x → us.toArray.size = ps.size)
  (seq : GivesX P gf caps A S X h0 w0 h) (I : List α → Heap → Own → Prop) (Ix : Code → List α → Heap → Own → Prop)
  (hI : ∀ xs h1 h2 o, I xs h1 o → Le h1 h2 → I xs h2 o) (hIx : ∀ c xs h1 h2 o, Ix c xs h1 o → Le h1 h2 → Ix c xs h2 o) (h00 : I [] h own)
  (hround : ∀ (l : Nat) pre x h1 w1 own1 tail us, Le h h1 → I pre h1 own1 → St h0 w0 h1 w1 (own1 ++ tail) → A pre h1 us x →
   V { Fence.wide with round := some l } P n assign (APost { Fence.wide with round := some l } P n body I Ix h0 w0 h1 (pre ++ [x]) tail) ([], up us) w1)
  (hdone : ∀ D xs h' w' own', Le h h' → S xs → I xs h' own' → St h0 w0 h' w' (own' ++ [[(D, .deferred (some []))]]) → Q .normal ([{ target := .collected D, args := #[] }], σ) w')
  (hstop : ∀ D c pre h' w' own', Le h h' → Ix c pre h' own' → St h0 w0 h' w' (own' ++ [[(D, .deferred (some []))]]) → V Fence.wide P n c Q ([{ target := .collected D, args := #[] }], σ) w') :
  V Fence.wide P n (.rangeFunc g ps assign body) Q ([], σ) w := by
 intro k a ha;refine wpIn_rangeFunc ?_;intro fn _;obtain ⟨D, hD⟩ : ∃ D, D = w.heap.size := ⟨_, rfl⟩;obtain ⟨l, hl⟩ : ∃ l, l = w.heap.size + 1 := ⟨_, rfl⟩;obtain ⟨rec, hrec⟩ : ∃ rec : LoopState → Option Code → Loop, rec = fun st pe => { state := st, pending := pe, fn, tmps := a.tmps, params := ps, assign, body, defers := D } := ⟨_, rfl⟩;have st1 := (st.alloc (.deferred (some []))).alloc (.loop (rec .ready none));have hsz' : (w.alloc (.deferred (some []))).heap.size = l := by rw [hl]; simp
 rw [hsz', ← hD] at st1;have hxa : a.eval = ev σ := ha.eval;obtain ⟨w1, ew1⟩ : ∃ w1, w1 = (w.alloc (.deferred (some []))).alloc (.loop (rec .ready none)) := ⟨_, rfl⟩;rw [← ew1] at st1;have e1 : (Instr.enterLoop fn a.tmps ps assign body none).run P w = .ok (l, [({ target := .collected D, args := #[] } : Deferred)]) w1 := by
  rw [ew1, hrec, hl, hD]; exact run_enterLoop_outer _ _ _ _ _
 refine ⟨l, [({ target := .collected D, args := #[] } : Deferred)], w1, ({ target := .fn (.func gf) caps.toArray, args := #[.func (.yield l) #[] #[]] } : Deferred), w1, gf, #[.func (.yield l) #[] #[]] ++ caps.toArray, w1, ?_, ?_, fun _ _ => trivial, ?_, fun hh => absurd hh (by simp [Fence.wide]), ?_⟩
 ·exact e1
 ·simp only [resolve, hxa, hg];simp [go_sem, rangeCall, ev]
 ·simp [invoke, go_sem, eg]
 ·have con := seq l (fun pre h1 rest => ∃ own1, I pre h1 own1 ∧ rest = own1 ++ [[(D, .deferred (some []))], [(l, .loop (rec .ready none))]])
   (fun pre h1 rest => ∃ own1 c, Ix c pre h1 own1 ∧ rest = own1 ++ [[(D, .deferred (some []))], [(l, .loop (rec .done (some c)))]])
   (by rintro xs h1 h2 o ⟨own1, hi, rfl⟩ le; exact ⟨own1, hI _ _ _ _ hi le, rfl⟩) (by rintro xs h1 h2 o ⟨own1, c, hi, rfl⟩ le; exact ⟨own1, c, hIx _ _ _ _ _ hi le, rfl⟩) ?_ h _ _ (Le.refl h) ⟨own, h00, rfl⟩ (by simpa using st1)
  ·refine (callsIn_wide.2 ?_);have e0 : (.func (.yield l) #[] #[] :: caps : List Value).toArray = #[.func (.yield l) #[] #[]] ++ caps.toArray := by simp
   rw [e0] at con;refine con.mono ?_;rintro e w2 ⟨h', rest', v, rfl, le, st2, hout⟩;have tk : ∀ {own1 : Own} {r : Loop}, St h0 w0 h' w2 (own1 ++ [[(D, .deferred (some []))], [(l, .loop r)]]) → ∀ o', St h0 w0 h' (w2.putObj l o') (own1 ++ [[(D, .deferred (some []))]]) := by
    intro own1 r s o';have s2 : St h0 w0 h' w2 ((own1 ++ [[(D, .deferred (some []))]]) ++ [(l, .loop r)] :: []) := by simpa using s
    have s3 := (s2.setAt o').take (own1 ++ [[(D, Obj.deferred (some []))]]).length;rwa [List.take_left'] at s3;rfl
   rcases hout with ⟨xs, hS, own1, hi, rfl⟩ | ⟨pre, own1, c, hi, rfl⟩
   ·have hlr : w2.heap[l]? = some (.loop (rec .ready none)) := St.at (A := own1 ++ [[(D, .deferred (some []))]]) (C := []) (by simpa using st2);have hend := run_endLoop (P := P) hlr (by rw [hrec]; simp);rw [hrec] at hend;refine ⟨none, _, hend, ⟨([{ target := .collected D, args := #[] }], σ), ⟨ha.size, by simp [ha.defers], ha.at_⟩, hdone D xs h' _ own1 le hS hi (tk st2 _)⟩⟩
   ·have hlr : w2.heap[l]? = some (.loop (rec .done (some c))) := St.at (A := own1 ++ [[(D, .deferred (some []))]]) (C := []) (by simpa using st2);have hend := run_endLoop (P := P) hlr (by rw [hrec]; simp);rw [hrec] at hend;refine ⟨some c, _, hend, ?_⟩;exact hstop D c pre h' _ own1 le hi (tk st2 _) k _ ⟨ha.size, by simp [ha.defers], ha.at_⟩
  ·rintro pre x h1 w1 B rest us le ⟨own1, hi, rfl⟩ s1 hA;have hlr : w1.heap[l]? = some (.loop (rec .ready none)) := St.at (A := B ++ (own1 ++ [[(D, .deferred (some []))]])) (C := []) (by simpa using s1);have hy := run_yield (P := P) (args := us.toArray) hlr (by rw [hrec]; exact hsz pre us h1 x hA);rw [hrec] at hy;refine ⟨fn, _, assign, body, hy, roundIn_of_wpIn trivial ?_⟩
   -- the caller's entries first
   have s2 : St h0 w0 h1 w1 (own1 ++ ([[(D, .deferred (some []))], [(l, .loop (rec .ready none))]] ++ B)) := s1.perm (perm_end own1 B _);have hfit := hput { tmps := a.tmps, defers := [] } pre us h1 x ⟨ha.size, rfl, ha.at_⟩ hA;have hr := hround l pre x h1 w1 own1 _ us le hi s2 hA 0 _ hfit;refine wpIn_mono hr ?_;rintro e a2 w2 ⟨s', hf2, rfl, h2, own2, le2, s3, hbody⟩;have s3' : St h0 w0 h2 w2 ((own2 ++ [[(D, .deferred (some []))]]) ++ [(l, .loop (rec .ready none))] :: B) := by simpa using s3
   have hl2 := s3'.at;have hbr := run_beginRound (P := P) hl2 (by rw [hrec]);refine ⟨_, hbr, ?_⟩;have s4 := s3'.setAt (.loop { rec .ready none with state := .busy });have s4' := s4;rw [show (own2 ++ [[(D, .deferred (some []))]]) ++ [(l, .loop { rec .ready none with state := .busy })] :: B = own2 ++ ([[(D, .deferred (some []))], [(l, .loop { rec .ready none with state := .busy })]] ++ B) by simp] at s4';refine wpIn_mono (hbody _ _ s4' 0 a2 hf2) ?_;have fin : ∀ (jump : Option Code) (h3 : Heap) (own3 : Own) (w4 : World), St h0 w0 h3 w4 (own3 ++ ([[(D, .deferred (some []))], [(l, .loop { rec .ready none with state := .busy })]] ++ B)) →
     ∃ w5, (Instr.endRound l jump).run P w4 = .ok (.bool jump.isNone) w5 ∧ St h0 w0 h3 w5 (B ++ (own3 ++ [[(D, .deferred (some []))], [(l, .loop (rec (if jump.isNone then .ready else .done) jump))]])) := by
    intro jump h3 own3 w4 s5;have s5' : St h0 w0 h3 w4 ((own3 ++ [[(D, .deferred (some []))]]) ++ [(l, .loop { rec .ready none with state := .busy })] :: B) := by simpa using s5
    refine ⟨_, run_endRound (P := P) jump s5'.at, ?_⟩;have s6 := s5'.setAt (.loop (rec (if jump.isNone then .ready else .done) jump));rw [show (own3 ++ [[(D, .deferred (some []))]]) ++ [(l, .loop (rec (if jump.isNone then .ready else .done) jump))] :: B = own3 ++ ([[(D, .deferred (some []))], [(l, .loop (rec (if jump.isNone then .ready else .done) jump))]] ++ B) by simp] at s6;have s7 := s6.perm (perm_end own3 B _).symm;rw [hrec] at s7 ⊢;exact s7
   rintro e a4 w4 ⟨s'', hf4, h3, own3, le3, s5, hm⟩;cases e with
   | normal =>
    obtain ⟨w5, hr5, s6⟩ := fin none h3 own3 w4 s5;exact ⟨_, w5, hr5, _, rfl, h3, _, le2.trans le3, s6, .inl ⟨rfl, own3, hm, rfl⟩⟩
   | ret =>
    obtain ⟨w5, hr5, s6⟩ := fin (some .ret) h3 own3 w4 s5;exact ⟨_, w5, hr5, _, rfl, h3, _, le2.trans le3, s6, .inr ⟨rfl, own3, .ret, hm, rfl⟩⟩
   | exit id =>
    obtain ⟨w5, hr5, s6⟩ := fin (some (.exit id)) h3 own3 w4 s5;exact ⟨_, w5, hr5, _, rfl, h3, _, le2.trans le3, s6, .inr ⟨rfl, own3, .exit id, hm, rfl⟩⟩
   | goto t =>
    obtain ⟨w5, hr5, s6⟩ := fin (some (.goto t)) h3 own3 w4 s5;exact ⟨_, w5, hr5, _, rfl, h3, _, le2.trans le3, s6, .inr ⟨rfl, own3, .goto t, hm, rfl⟩⟩
   | panic ch => exact hm.elim
   | outgrown => exact hm.elim
theorem V.rangeFuncG {α : Type} {P : Program} {n : Nat} {Q : Exit → VS → World → Prop} {A : List α → Heap → List Value → α → Prop} {g : Operand} {ps : Array Tmp} {up : List Value → Env} {assign body : Code} {σ : Env} {w : World} {gf : FuncId} {caps : List Value} {S : List α → Prop} {h0 h : Heap} {w0 : World} {own : Own}
  (st : St h0 w0 h w own) (hg : ev σ g = .func (.func gf) #[] caps.toArray) (eg : ∀ a w, (callFunc gf a).run P w = .ok (.enter gf a) w) (hput : ∀ (a : Act) pre us h x, FitsD [] n a σ → A pre h us x → FitsD [] n ({ tmps := (ps.zip us.toArray).foldl (fun tmps (x : Nat × Value) => tmps.setIfInBounds x.1 x.2) a.tmps, defers := [] } : Act) (up us)) (hsz : ∀ pre us h x, A pre h us x → us.toArray.size = ps.size)
  (seq : GivesG P gf caps A S h0 w0 h) (I : List α → Heap → Own → Prop) (Ix : Code → List α → Heap → Own → Prop)
  (hI : ∀ xs h1 h2 o, I xs h1 o → Le h1 h2 → I xs h2 o) (hIx : ∀ c xs h1 h2 o, Ix c xs h1 o → Le h1 h2 → Ix c xs h2 o) (h00 : I [] h own)
  (hround : ∀ (l : Nat) pre x h1 w1 own1 tail us, Le h h1 → I pre h1 own1 → St h0 w0 h1 w1 (own1 ++ tail) → A pre h1 us x →
   V { Fence.wide with round := some l } P n assign (APost { Fence.wide with round := some l } P n body I Ix h0 w0 h1 (pre ++ [x]) tail) ([], up us) w1)
  (hdone : ∀ D xs h' w' own', Le h h' → S xs → I xs h' own' → St h0 w0 h' w' (own' ++ [[(D, .deferred (some []))]]) → Q .normal ([{ target := .collected D, args := #[] }], σ) w')
  (hstop : ∀ D c pre h' w' own', Le h h' → Ix c pre h' own' → St h0 w0 h' w' (own' ++ [[(D, .deferred (some []))]]) → V Fence.wide P n c Q ([{ target := .collected D, args := #[] }], σ) w') :
  V Fence.wide P n (.rangeFunc g ps assign body) Q ([], σ) w :=
 V.rangeFuncX (X := []) st hg eg hput hsz seq I Ix hI hIx h00 hround hdone hstop
theorem V.rangeFunc {α : Type} {P : Program} {n : Nat} {Q : Exit → VS → World → Prop} {A : Heap → Value → α → Prop} {g : Operand} {p : Tmp} {assign body : Code} {σ : Env} {w : World} {gf : FuncId} {caps : List Value} {S : List α → Prop} {h0 h : Heap} {w0 : World} {own : Own}
  (st : St h0 w0 h w own) (hg : ev σ g = .func (.func gf) #[] caps.toArray) (eg : ∀ a w, (callFunc gf a).run P w = .ok (.enter gf a) w) (hp : Nat.blt p n = true)
  (seq : Gives P gf caps A S h0 w0 h) (I : List α → Heap → Own → Prop) (Ix : Code → List α → Heap → Own → Prop)
  (hI : ∀ xs h1 h2 o, I xs h1 o → Le h1 h2 → I xs h2 o) (hIx : ∀ c xs h1 h2 o, Ix c xs h1 o → Le h1 h2 → Ix c xs h2 o) (h00 : I [] h own)
  (hround : ∀ (l : Nat) pre x h1 w1 own1 tail u, Le h h1 → I pre h1 own1 → St h0 w0 h1 w1 (own1 ++ tail) → A h1 u x →
   V { Fence.wide with round := some l } P n assign (APost { Fence.wide with round := some l } P n body I Ix h0 w0 h1 (pre ++ [x]) tail) ([], upd σ p u) w1)
  (hdone : ∀ D xs h' w' own', Le h h' → S xs → I xs h' own' → St h0 w0 h' w' (own' ++ [[(D, .deferred (some []))]]) → Q .normal ([{ target := .collected D, args := #[] }], σ) w')
  (hstop : ∀ D c pre h' w' own', Le h h' → Ix c pre h' own' → St h0 w0 h' w' (own' ++ [[(D, .deferred (some []))]]) → V Fence.wide P n c Q ([{ target := .collected D, args := #[] }], σ) w') :
  V Fence.wide P n (.rangeFunc g #[p] assign body) Q ([], σ) w := by
 refine V.rangeFuncG (A := fun _ h us x => ∃ u, us = [u] ∧ A h u x) (up := fun us => upd σ p (us.headD undef)) st hg eg ?_ (by rintro _ _ _ _ ⟨u, rfl, _⟩; rfl) ?_ I Ix hI hIx h00 ?_ hdone hstop
 ·rintro a pre us h x hf ⟨u, rfl, _⟩;have h2 := hf.bare.put (d := some p) (by exact hp) u;have e1 : (#[p].zip [u].toArray).foldl (fun tmps (x : Nat × Value) => tmps.setIfInBounds x.1 x.2) a.tmps = a.tmps.setIfInBounds p u := by simp
  show FitsD [] n ({ tmps := (#[p].zip [u].toArray).foldl (fun tmps (x : Nat × Value) => tmps.setIfInBounds x.1 x.2) a.tmps, defers := [] } : Act) (upd σ p u);rw [e1]; exact ⟨h2.size, rfl, h2.at_⟩
 ·intro l J Jx hm hxm hY;exact seq l J Jx hm hxm fun pre x h1 w1 B rest u a b c d => hY pre x h1 w1 B rest [u] a b c ⟨u, rfl, d⟩
 ·rintro l pre x h1 w1 own1 tail us a b c ⟨u, rfl, d⟩;exact hround l pre x h1 w1 own1 tail u a b c d
theorem V.rangeFunc2 {α : Type} {P : Program} {n : Nat} {Q : Exit → VS → World → Prop} {A : List α → Heap → Value → Value → α → Prop} {g : Operand} {p p2 : Tmp} {assign body : Code} {σ : Env} {w : World} {gf : FuncId} {caps : List Value} {S : List α → Prop} {h0 h : Heap} {w0 : World} {own : Own}
  (st : St h0 w0 h w own) (hg : ev σ g = .func (.func gf) #[] caps.toArray) (eg : ∀ a w, (callFunc gf a).run P w = .ok (.enter gf a) w) (hp : Nat.blt p n = true) (hp2 : Nat.blt p2 n = true)
  (seq : GivesG P gf caps (fun pre h us x => ∃ u v, us = [u, v] ∧ A pre h u v x) S h0 w0 h) (I : List α → Heap → Own → Prop) (Ix : Code → List α → Heap → Own → Prop)
  (hI : ∀ xs h1 h2 o, I xs h1 o → Le h1 h2 → I xs h2 o) (hIx : ∀ c xs h1 h2 o, Ix c xs h1 o → Le h1 h2 → Ix c xs h2 o) (h00 : I [] h own)
  (hround : ∀ (l : Nat) pre x h1 w1 own1 tail u v, Le h h1 → I pre h1 own1 → St h0 w0 h1 w1 (own1 ++ tail) → A pre h1 u v x →
   V { Fence.wide with round := some l } P n assign (APost { Fence.wide with round := some l } P n body I Ix h0 w0 h1 (pre ++ [x]) tail) ([], upd (upd σ p u) p2 v) w1)
  (hdone : ∀ D xs h' w' own', Le h h' → S xs → I xs h' own' → St h0 w0 h' w' (own' ++ [[(D, .deferred (some []))]]) → Q .normal ([{ target := .collected D, args := #[] }], σ) w')
  (hstop : ∀ D c pre h' w' own', Le h h' → Ix c pre h' own' → St h0 w0 h' w' (own' ++ [[(D, .deferred (some []))]]) → V Fence.wide P n c Q ([{ target := .collected D, args := #[] }], σ) w') :
  V Fence.wide P n (.rangeFunc g #[p, p2] assign body) Q ([], σ) w := by
 refine V.rangeFuncG (up := fun us => upd (upd σ p (us.headD undef)) p2 ((us.drop 1).headD undef)) st hg eg ?_ (by rintro _ _ _ _ ⟨u, v, rfl, _⟩; rfl) seq I Ix hI hIx h00 ?_ hdone hstop
 ·rintro a pre us h x hf ⟨u, v, rfl, _⟩;have h2 := (hf.bare.put (d := some p) (by exact hp) u).put (d := some p2) (by exact hp2) v;have e1 : (#[p, p2].zip [u, v].toArray).foldl (fun tmps (x : Nat × Value) => tmps.setIfInBounds x.1 x.2) a.tmps = (a.tmps.setIfInBounds p u).setIfInBounds p2 v := by simp
  show FitsD [] n ({ tmps := (#[p, p2].zip [u, v].toArray).foldl (fun tmps (x : Nat × Value) => tmps.setIfInBounds x.1 x.2) a.tmps, defers := [] } : Act) (upd (upd σ p u) p2 v);rw [e1]; exact ⟨h2.size, rfl, h2.at_⟩
 ·rintro l pre x h1 w1 own1 tail us a b c ⟨u, v, rfl, d⟩;exact hround l pre x h1 w1 own1 tail u v a b c d
def Taken (P : Program) : List Deferred → World → (World → Prop) → Prop
 | [], w, K => K w
 | d :: ds, w, K => ∃ D, d.target = .collected D ∧ w.heap[D]? = some (.deferred (some [])) ∧ Taken P ds (w.putObj D (.deferred none)) K
def PostV (fn : Func) (P : Program) (R : Ending → World → Prop) : Exit → VS → World → Prop
 | .normal, s, w | .ret, s, w => Taken P s.1 w fun w' => Post fn P R .ret s.2 w'
 | _, _, _ => False
theorem V.calls {P : Program} {f : FuncId} {fn : Func} {c : Code} {n : Nat} {args : List Value} {w : World} {R : Ending → World → Prop}
  (hf : P.funcs[f]? = some fn) (hb : fn.body = some c) (hn : fn.ntmps = n) (hl : Nat.ble args.length n = true)
  (h : V Fence.wide P n c (PostV fn P R) ([], start args) w) : Calls P f args.toArray w R := by
 have hl' : args.length ≤ n := by simpa using hl
 refine (callsIn_wide (n := 0)).1 (callsIn_of_wp_marks hf hb trivial ?_);have hfit : FitsD [] n { tmps := args.toArray ++ Array.replicate (fn.ntmps - args.toArray.size) undef, defers := [] } (start args) := by
  refine ⟨by simp [hn]; omega, rfl, fun i => ?_⟩;rw [← start_eq];simp only [Array.getD_eq_getD_getElem?, List.getD_eq_getElem?_getD]
  by_cases hi : i < args.length
  ·rw [Array.getElem?_append_left (by simpa using hi)]; simp
  ·rw [Array.getElem?_append_right (by simpa using hi), List.getElem?_eq_none zD]
   by_cases hj : i - args.toArray.size < fn.ntmps - args.toArray.size
   ·rw [Array.getElem?_replicate, if_pos hj]; rfl
   ·rw [Array.getElem?_replicate, if_neg hj]
 have key : ∀ (ds : List Deferred) (w : World) (tmps : Array Value) (σ : Env), (∀ i, tmps.getD i undef = σ i) → Taken P ds w (fun w' => Post fn P R .ret σ w') → LeavesInM Fence.wide 0 P fn tmps R ds .returning w := by
  intro ds
  induction ds with
  | nil =>
   intro w tmps σ ht h;exact h tmps ht
  | cons d ds ih =>
   intro w tmps σ ht h;obtain ⟨D, hd, hD, h⟩ := h;exact ⟨by simp, .inl ⟨D, _, hd, run_takeDeferred hD, ih _ _ _ ht h⟩⟩
 refine wpIn_mono (h 0 _ hfit) ?_;rintro e a' w' ⟨s', hf', hq⟩;cases e with
 | normal => show LeavesInM _ _ _ _ _ _ a'.defers _ _; rw [hf'.defers]; exact key _ _ _ _ hf'.at_ hq
 | ret => show LeavesInM _ _ _ _ _ _ a'.defers _ _; rw [hf'.defers]; exact key _ _ _ _ hf'.at_ hq
 | exit id => exact hq.elim
 | goto l => exact hq.elim
 | panic ch => exact hq.elim
 | outgrown => exact hq.elim
theorem PostV.zero {fn : Func} {P : Program} {R : Ending → World → Prop} {σ : Env} {w : World} (h : Post fn P R .ret σ w) : PostV fn P R .ret ([], σ) w := h
theorem zhT {fn : Func} {P : Program} {R : Ending → World → Prop} {σ : Env} {w w0 : World} {h0 h : Heap} {own : Own} {D : Nat} (st : St h0 w0 h w (own ++ [[(D, .deferred (some []))]])) (hk : ∀ w', St h0 w0 h w' own → Post fn P R .ret σ w') : PostV fn P R .ret ([{ target := .collected D, args := #[] }], σ) w := by
 have s2 : St h0 w0 h w (own ++ [(D, .deferred (some []))] :: []) := st;refine ⟨D, rfl, s2.at, hk _ ?_⟩;have s3 := (s2.setAt (.deferred none)).take own.length;rwa [List.take_left'] at s3;rfl
theorem PostV.oneN {fn : Func} {P : Program} {R : Ending → World → Prop} {σ : Env} {w w0 : World} {h0 h : Heap} {own : Own} {D : Nat} (st : St h0 w0 h w (own ++ [[(D, .deferred (some []))]])) (hk : ∀ w', St h0 w0 h w' own → Post fn P R .ret σ w') : PostV fn P R .normal ([{ target := .collected D, args := #[] }], σ) w := zhT st hk
end Go.Pk

namespace Go.Pk
open Go Go.RowKit
section
variable {P : Program} {n : Nat} {l : List Oper} {h0 : Heap} {w0 : World} {own0 : Own} {hr : Heap} {er : Er} {dsts : List Nat} {σ : Env} {Q : Exit → Env → World → Prop} {ks : List (Nat × Kd)} {cx : List (Nat × Oper)}
theorem W.anyD {own : Own} {h : Heap} {w : World} (st : St h0 w0 h w own) (sh : Shape n l ks cx er dsts)
  (hops : Hops P n l h0 w0 own h er dsts σ [] l ks) (hstart : StartOK P n l h0 w0 h dsts σ Q ks (cx.drop er.2.2.2.2) (cx.take er.2.2.2.2) (zge er ks) (zjJ er ks) own []) (a : Act) (ha : Fits n a σ) :
  wpAnyIn Fence.wide 0 P .any l.toArray (fun e a' w' => ∃ σ', Fits n a' σ' ∧ Q e σ' w') l.toArray.size (Array.replicate l.toArray.size false) a { w with drawn := w.drawn + 1 } := by
 refine drawn sh hops hstart _ _ a σ _ (by simp) ?_ ha ⟨⟨zbG _ _, fun _ _ _ _ _ _ => rfl, fun j o _ hl => by simp [Array.getElem?_replicate] at hl⟩, h, Le.refl h, ?_, .inl ⟨?_, ?_, ?_⟩⟩
 ·unfold unl;refine Nat.le_trans List.countP_le_length ?_;simp
 ·intro i d p hi _;simp [Array.getElem?_replicate] at hi
 ·intro q _ hi;simp [Array.getElem?_replicate] at hi
 ·have e : ∀ az, zfq (Array.replicate l.toArray.size false) σ az = az.map fun _ => [] := by
   intro az;unfold zfq;refine List.map_congr_left fun q _ => ?_;rw [if_neg];intro hi;simp [Array.getElem?_replicate] at hi
  rw [e, e];have : ∀ m m2 : List (Nat × Nat × Obj), St h0 w0 h w.drew (own ++ (m.map fun _ => []) ++ (m2.map fun _ => [])) := by
   intro m m2;have e2 : (own ++ (m.map fun _ => ([] : List (Nat × Obj))) ++ (m2.map fun _ => ([] : List (Nat × Obj)))).flatten = own.flatten := by
    rw [List.flatten_append, List.flatten_append]; simp
   refine ⟨st.drew.le, st.drew.new, st.drew.sub, st.drew.below, ?_, ?_⟩
   ·rw [e2]; exact st.drew.mine
   ·rw [e2]; exact st.drew.nodup
  exact this _ _
 ·intro q _ hi;simp [Array.getElem?_replicate] at hi
end
theorem opIn_of {P : Program} {ops : Array Oper} {ds : List Deferred} {q q' : Exit → Act → World → Prop} {r : Option Nat} (hn : ∀ e a w, q e a w → e = .normal) {k i : Nat} {K K' : Act → World → Prop}
  (ih : ∀ (a1 a2 : Act) (w : World), a2.tmps = a1.tmps → a2.defers = a1.defers ++ ds → K a1 w → K' a2 w) (hd : ∀ o, ops[i]? = some o → (match o.op with | .defer _ => false | _ => true) = true) (a1 a2 : Act) (w : World) (h1 : a2.tmps = a1.tmps) (h2 : a2.defers = a1.defers ++ ds)
  (h : wpOpIn Fence.wide 0 P ops q i K a1 w) : wpOpIn { Fence.wide with round := r } k P ops q' i K' a2 w := by
 have hev : a2.eval = a1.eval := by funext x; cases x <;> simp only [Act.eval, h1]
 unfold wpOpIn at h ⊢;cases ho : ops[i]? with
 | none => rw [ho] at h; exact ih _ _ _ h1 h2 h
 | some o =>
  rw [ho] at h;simp only at h ⊢;have hd := hd o ho;rw [h1];have hp1 : ∀ (d : Option Tmp) (v : Value), (a2.put d v).tmps = (a1.put d v).tmps := by
   intro d v; cases d <;> simp [Act.put, h1]
  have hp2 : ∀ (d : Option Tmp) (v : Value), (a2.put d v).defers = (a1.put d v).defers ++ ds := by
   intro d v; cases d <;> simp [Act.put, h2]
  split
  ·rename_i hw;rw [if_pos hw] at h;unfold Oper.wpIn at h ⊢;obtain ⟨_, h⟩ := h;refine ⟨fun _ _ => trivial, ?_⟩;rw [Oper.semAt_eq _ _ _ (noDefer_one hd), hev];have h : o.uponIn Fence.wide 0 P a1 _ _ ((execOp a1.eval o).run P w) := h;cases hr : (execOp a1.eval o).run P w with
   | ok nx w' =>
    rw [hr] at h;cases nx with
    | value v => exact ih _ _ _ (hp1 _ _) (hp2 _ _) h
    | skip => exact ih _ _ _ (hp1 _ _) (hp2 _ _) h
    | defer d =>
     refine ih _ _ _ ?_ ?_ h
     ·cases o.dst <;> simp [Act.put, h1]
     ·cases o.dst <;> simp [Act.put, h2]
    | enter f args =>
     refine ⟨fun hh => absurd hh (by simp [Fence.wide]), ?_⟩;have h2' := (callsIn_wide (n := k - 1)).2 (callsIn_wide.1 h.2);have h3 : CallsIn { Fence.wide with round := r } (k - 1) P f args w' _ := h2';refine CallsIn.mono h3 ?_;intro e w'' he;cases e with
     | returned v => exact ih _ _ _ (hp1 _ _) (hp2 _ _) he
     | panicked c => exact absurd (hn _ _ _ he) (by simp)
     | outgrown => obtain ⟨_, _, he⟩ := he; exact absurd (hn _ _ _ he) (by simp)
    | round l f tmps assign body =>
     refine ⟨fun hh => absurd hh (by simp [Fence.wide]), ?_⟩;have h3 : RoundIn { Fence.wide with round := r } (k - 1) P l f tmps assign body w' _ := ⟨trivial, fun c cs _ => h.2.2 c cs (room_wide _)⟩;refine RoundIn.mono h3 ?_;intro e w'' he;cases e with
     | returned v => exact ih _ _ _ (hp1 _ _) (hp2 _ _) he
     | panicked c => exact absurd (hn _ _ _ he) (by simp)
     | outgrown => obtain ⟨_, _, he⟩ := he; exact absurd (hn _ _ _ he) (by simp)
    | row rw_ args =>
     refine ⟨fun hh => absurd hh (by simp [Fence.wide]), ?_⟩;have h3 : RowsIn { Fence.wide with round := r } (k - 1) P rw_ args w' _ := fun c cs _ => h.2 c cs (room_wide _);refine RowsIn.mono h3 ?_;intro v w'' he;exact ih _ _ _ (hp1 _ _) (hp2 _ _) he
    | _ => exact h.elim
   | halt x w' =>
    rw [hr] at h;cases x with
    | panic v => exact absurd (hn _ _ _ h) (by simp)
    | _ => exact h.elim
  ·rename_i hw;rw [if_neg hw] at h;obtain ⟨_, h⟩ := h;exact ⟨fun _ _ => trivial, ih _ _ _ (hp1 _ _) (hp2 _ _) h⟩
theorem anyIn_of {P : Program} {md : Region.Mode} {ops : Array Oper} {ds : List Deferred} {q q' : Exit → Act → World → Prop} {r : Option Nat} (hq : ∀ e a1 a2 w, a2.tmps = a1.tmps → a2.defers = a1.defers ++ ds → q e a1 w → q' e a2 w) (hn : ∀ e a w, q e a w → e = .normal) (hd : ∀ (i : Nat) o, ops[i]? = some o → (match o.op with | .defer _ => false | _ => true) = true) {k : Nat} :
  ∀ (fuel : Nat) (listed : Array Bool) (a1 a2 : Act) (w : World), a2.tmps = a1.tmps → a2.defers = a1.defers ++ ds → wpAnyIn Fence.wide 0 P md ops q fuel listed a1 w → wpAnyIn { Fence.wide with round := r } k P md ops q' fuel listed a2 w
 | 0, _, _, _, _, h1, h2, h => ⟨h.1, hq _ _ _ _ h1 h2 h.2⟩
 | fuel + 1, listed, a1, a2, w, h1, h2, h => ⟨fun e => hq _ _ _ _ h1 h2 (h.1 e), fun i hi => opIn_of (k := k) hn (fun b1 b2 w2 g1 g2 g => anyIn_of hq hn hd fuel _ b1 b2 w2 g1 g2 g) (hd i) a1 a2 w h1 h2 (h.2 i hi)⟩
theorem noDefer_get : ∀ {l : List Oper}, zhK l = true → ∀ (i : Nat) o, l[i]? = some o → (match o.op with | .defer _ => false | _ => true) = true
 | o :: l, h, 0, o', e => by simp only [zhK, Bool.and_eq_true] at h; simp at e; subst e; exact h.1
 | o :: l, h, i + 1, o', e => by simp only [zhK, Bool.and_eq_true] at h; exact noDefer_get h.2 i o' (by simpa using e)
 | [], _, _, _, e => by simp at e
theorem V.regionR {P : Program} {n : Nat} {l : List Oper} {h0 : Heap} {w0 : World} {own0 : Own} {er : Er} {dsts : List Nat} {σ : Env} {Q : Exit → VS → World → Prop} {r : Option Nat} {ds : List Deferred} {h : Heap} {w : World} {id : Nat} (hnd : zhK l = true) (st : St h0 w0 h w own0) (hm : P.follows .mixedOrders = true)
  (hd : Drw P n l h0 w0 own0 h er dsts σ (fun e σ' w' => e = .normal ∧ Q .normal (ds, σ') w') [] [] l) : V { Fence.wide with round := r } P n (.region id l.toArray true) Q (ds, σ) w := by
 obtain ⟨ks, cx, h1, h2, h3⟩ := hd (by simp);simp only [List.reverse_nil, List.nil_append] at h1 h2 h3;intro k a ha;refine wpIn_region_any hm ?_;refine anyIn_of (ds := ds) ?_ ?_ (fun i o e => noDefer_get hnd i o (by simpa using e)) _ _ { a with defers := [] } a _ rfl (by simpa using ha.defers) (W.anyD st h2 h1 h3 _ ha.bare)
 ·rintro e a1 a2 w h1 h2 ⟨σ', hf, rfl, q⟩;exact ⟨(ds, σ'), ⟨by rw [h1]; exact hf.size, by rw [h2, hf.defers]; rfl, by rw [h1]; exact hf.at_⟩, q⟩
 ·rintro e a w ⟨_, _, rfl, _⟩; rfl
end Go.Pk

namespace Go.Pk
open Go Go.RowKit
def lowOk : Nat → List Oper → Bool
 | _, [] => true
 | i, o :: l => (bnd o).all (fun j => Nat.blt j i) && (match o.guard with | some (g, _) => Nat.blt g i | none => true) && lowOk (i + 1) l
theorem zjb : ∀ {l : List Oper} {i j : Nat} {o : Oper}, lowOk i l = true → l[j]? = some o → (∀ k ∈ bnd o, k < i + j) ∧ ∀ g b, o.guard = some (g, b) → g < i + j
 | o :: l, i, 0, o', h, e => by
  simp at e; subst e;simp only [lowOk, Bool.and_eq_true, List.all_eq_true] at h;refine ⟨fun k hk => by simpa using h.1.1 k hk, fun g b hg => ?_⟩;have := h.1.2;rw [hg] at this;simpa using this
 | o :: l, i, j + 1, o', h, e => by
  simp only [lowOk, Bool.and_eq_true] at h;have := zjb h.2 (show l[j]? = some o' by simpa using e);rw [show i + (j + 1) = i + 1 + j by omega]; exact this
 | [], _, _, _, _, e => by simp at e
theorem ready_of {l : List Oper} {listed : Array Bool} {i : Nat} {o : Oper} (hi : l[i]? = some o) (hs : listed[i]? = some false) (hb : ∀ j ∈ bnd o, listed[j]? = some true) : i ∈ Region.ready .any l.toArray listed := by
 unfold Region.ready;have hil := (List.getElem?_eq_some_iff.1 hi).1;rw [List.mem_filter];refine ⟨by simpa using hil, ?_⟩;rw [Bool.and_eq_true];refine ⟨by simp [Array.getD_eq_getD_getElem?, hs], ?_⟩;rw [List.getElem?_toArray, hi];simp only [Option.map_some, Option.getD_some];rw [← Array.all_toList, List.all_eq_true];intro e he;cases hbi : Region.binds .any e with
 | false => simp
 | true =>
  have := hb e.on (mem_bnd.2 ⟨e, he, hbi, rfl⟩);simp [Array.getD_eq_getD_getElem?, this]
theorem low_listed {l : List Oper} {listed : Array Bool} (hlow : lowOk 0 l = true) (hsz : listed.size = l.length) (h : Region.ready .any l.toArray listed = []) : ∀ i, i < l.length → listed[i]? = some true := by
 intro i
 induction i using Nat.strongRecOn with
 | _ i ih =>
  intro hi;cases e : listed[i]? with
  | none => rw [Array.getElem?_eq_none_iff] at e; omega
  | some b =>
   cases b with
   | true => rfl
   | false =>
    have ho := List.getElem?_eq_getElem hi;have := ready_of ho e fun j hj => by
     have := (zjb hlow ho).1 j hj;exact ih j zD zD
    rw [h] at this; cases this
theorem yielded_app {l1 : List Oper} {o : Oper} {t : Array Value} {g : Nat} (hg : g < l1.length) : yielded (l1 ++ [o]).toArray t g = yielded l1.toArray t g := by
 unfold yielded;simp only [List.getElem?_toArray];rw [List.getElem?_append_left hg]
theorem opIn_app {P : Program} {l1 : List Oper} {o : Oper} {Q : Exit → Act → World → Prop} {i : Nat} {K : Act → World → Prop} {a : Act} {w : World} (hlow : lowOk 0 l1 = true) (hi : i < l1.length) (h : wpOpIn Fence.wide 0 P l1.toArray Q i K a w) : wpOpIn Fence.wide 0 P (l1 ++ [o]).toArray Q i K a w := by
 have ho := List.getElem?_eq_getElem hi;unfold wpOpIn at h ⊢;rw [List.getElem?_toArray, ho] at h;rw [List.getElem?_toArray, List.getElem?_append_left hi, ho];simp only at h ⊢;have e : Region.wanted l1[i] (yielded (l1 ++ [o]).toArray a.tmps) = Region.wanted l1[i] (yielded l1.toArray a.tmps) := by
  unfold Region.wanted;cases hg : l1[i].guard with
  | none => rfl
  | some q =>
   obtain ⟨g, b⟩ := q;have := (zjb hlow ho).2 g b hg;simp only;rw [yielded_app zD]
 rw [e]; exact h
theorem anyTail {P : Program} {l1 : List Oper} {o : Oper} {Q : Exit → Act → World → Prop} (hlow : lowOk 0 l1 = true) (hlast : (List.range l1.length).all (inL (bnd o)) = true) (hbo : ∀ j ∈ bnd o, j < l1.length) (hd : ∀ (i : Nat) p, (l1 ++ [o]).toArray[i]? = some p → (match p.op with | .defer _ => false | _ => true) = true) :
  ∀ (fuel : Nat) (s1 s : Array Bool) (a : Act) (w : World), s1.size = l1.length → s.size = l1.length + 1 → (∀ i, i < l1.length → s[i]? = s1[i]?) → s[l1.length]? = some false →
   wpAnyIn Fence.wide 0 P .any l1.toArray (fun e a w => e = .normal ∧ wpOpIn Fence.wide 0 P (l1 ++ [o]).toArray Q l1.length (fun a w => Q .normal a w) a w) fuel s1 a w → wpAnyIn Fence.wide 0 P .any (l1 ++ [o]).toArray Q (fuel + 1) s a w := by
 have hlen : (l1 ++ [o]).length = l1.length + 1 := by simp
 have hol : (l1 ++ [o])[l1.length]? = some o := by rw [List.getElem?_append_right (Nat.le_refl _)]; simp
 have hall : ∀ j, j < l1.length → j ∈ bnd o := fun j hj => zfo.1 (List.all_eq_true.1 hlast j (List.mem_range.2 hj))
 -- the last one, when all are listed
 have last : ∀ (fuel : Nat) (s : Array Bool) (a : Act) (w : World), s.size = l1.length + 1 → (∀ i, i < l1.length → s[i]? = some true) → s[l1.length]? = some false → wpOpIn Fence.wide 0 P (l1 ++ [o]).toArray Q l1.length (fun a w => Q .normal a w) a w → wpAnyIn Fence.wide 0 P .any (l1 ++ [o]).toArray Q (fuel + 1) s a w := by
  intro fuel s a w hs h1 h2 h3;have hr : l1.length ∈ Region.ready .any (l1 ++ [o]).toArray s := ready_of hol h2 fun j hj => h1 j (hbo j hj);refine ⟨fun e => (by rw [e] at hr; cases hr), fun i hi => ?_⟩;obtain ⟨p, hp, hnl, _⟩ := zhR hi;have hil := (List.getElem?_eq_some_iff.1 hp).1;have hie : i = l1.length := by
   rcases Nat.lt_or_ge i l1.length with q | q
   ·exact absurd (h1 i q) hnl
   ·omega
  subst hie;refine wpOpIn_mono (fun a w q => ?_) h3;have hnone : ∀ s', (∀ i, i < l1.length + 1 → s'[i]? = some true) → Region.ready .any (l1 ++ [o]).toArray s' = [] := by
   intro s' hs';rw [List.eq_nil_iff_forall_not_mem];intro i hi;obtain ⟨p, hp, hnl, _⟩ := zhR hi;have := (List.getElem?_eq_some_iff.1 hp).1;exact hnl (hs' i zD)
  have hn : Region.ready .any (l1 ++ [o]).toArray (s.setIfInBounds l1.length true) = [] := by
   refine hnone _ fun i hi => ?_
   by_cases e : i = l1.length
   ·subst e; simp [hs]
   ·rw [Array.getElem?_setIfInBounds_ne (fun z => e z.symm)]; exact h1 i zD
  cases fuel with
  | zero => exact ⟨hn, q⟩
  | succ fuel => exact ⟨fun _ => q, fun i hi => by rw [hn] at hi; cases hi⟩
 intro fuel
 induction fuel with
 | zero =>
  intro s1 s a w z1 z2 hr hf h;have ha := low_listed hlow z1 h.1;exact last 0 s a w z2 (fun i hi => by rw [hr i hi]; exact ha i hi) hf h.2.2
 | succ fuel ih =>
  intro s1 s a w z1 z2 hr hf h
  by_cases hn : Region.ready .any l1.toArray s1 = []
  ·have ha := low_listed hlow z1 hn;exact last _ s a w z2 (fun i hi => by rw [hr i hi]; exact ha i hi) hf (h.1 hn).2
  ·obtain ⟨k, hk⟩ := List.exists_mem_of_ne_nil _ hn;have up : ∀ i, i ∈ Region.ready .any l1.toArray s1 → i ∈ Region.ready .any (l1 ++ [o]).toArray s := by
    intro i hi;obtain ⟨p, hp, hnl, hb⟩ := zhR hi;have hil := (List.getElem?_eq_some_iff.1 hp).1;have e1 : s1[i]? = some false := by
     cases e : s1[i]? with
     | none => rw [Array.getElem?_eq_none_iff] at e; omega
     | some b => cases b with
      | false => rfl
      | true => exact absurd e hnl
    refine ready_of (o := p) (by rw [List.getElem?_append_left hil]; exact hp) (by rw [hr i hil]; exact e1) fun j hj => ?_;have := (zjb hlow hp).1 j hj;rw [hr j zD]; exact hb j hj
   refine ⟨fun e => (by have := up k hk; rw [e] at this; cases this), fun i hi => ?_⟩;obtain ⟨p, hp, hnl, hb⟩ := zhR hi;have hil := (List.getElem?_eq_some_iff.1 hp).1
   rcases Nat.lt_or_ge i l1.length with q | q
   ·have hp1 : l1[i]? = some p := by rw [List.getElem?_append_left q] at hp; exact hp
    have hi1 : i ∈ Region.ready .any l1.toArray s1 := by
     have e1 : s1[i]? = some false := by
      cases e : s1[i]? with
      | none => rw [Array.getElem?_eq_none_iff] at e; omega
      | some b => cases b with
       | false => rfl
       | true => exact absurd ((hr i q).trans e) hnl
     refine ready_of hp1 e1 fun j hj => ?_;have := (zjb hlow hp1).1 j hj;rw [← hr j zD]; exact hb j hj
    have h2 := opIn_app (o := o) hlow q (h.2 i hi1);have h3 := opIn_of (r := none) (ds := []) (k := 0) (q' := Q) (K' := wpAnyIn Fence.wide 0 P .any (l1 ++ [o]).toArray Q (fuel + 1) (s.setIfInBounds i true)) (fun e a w z => z.1) (fun a1 a2 w g1 g2 g => by
     have e : a2 = a1 := by cases a1; cases a2; simp at g1 g2; subst g1; subst g2; rfl
     subst e;refine ih _ _ _ _ (by simpa using z1) (by simpa using z2) (fun j hj => ?_) ?_ g
     ·by_cases e : j = i
      ·subst e; rw [Array.getElem?_setIfInBounds_self_of_lt zD, Array.getElem?_setIfInBounds_self_of_lt zD]
      ·rw [Array.getElem?_setIfInBounds_ne (fun z => e z.symm), Array.getElem?_setIfInBounds_ne (fun z => e z.symm)]; exact hr j hj
     ·rw [Array.getElem?_setIfInBounds_ne zD]; exact hf) (hd i) a a w rfl (by simp) h2
    exact h3
   ·have hie : i = l1.length := by omega
    subst hie;have : p = o := by rw [hol] at hp; exact (Option.some.inj hp).symm
    subst this;exfalso;obtain ⟨p2, hp2, hnl2, _⟩ := zhR hk;have hkl := (List.getElem?_eq_some_iff.1 hp2).1;exact hnl2 (by rw [← hr k hkl]; exact hb k (hall k hkl))
theorem W.regionTail {P : Program} {n : Nat} {l : List Oper} {h0 : Heap} {w0 : World} {own0 : Own} {er : Er} {dsts : List Nat} {σ : Env} {Q : Exit → Env → World → Prop} {h : Heap} {w : World} {id : Nat} (m : Nat) (o : Oper) (hl : l = l.take m ++ [o]) (hnd : zhK l = true) (hlow : lowOk 0 (l.take m) = true) (hlast : (List.range (l.take m).length).all (inL (bnd o)) = true) (hbo : (bnd o).all (fun j => Nat.blt j (l.take m).length) = true)
  (st : St h0 w0 h w own0) (hm : P.follows .mixedOrders = true) (hd : Drw P n (l.take m) h0 w0 own0 h er dsts σ (fun e σ' w' => e = .normal ∧ OpsL P n l.toArray [o] (fun σ w => Q .normal σ w) σ' w') [] [] (l.take m)) : W P n (.region id l.toArray true) Q σ w := by
 obtain ⟨ks, cx, h1, h2, h3⟩ := hd (by simp);simp only [List.reverse_nil, List.nil_append] at h1 h2 h3;have hget := noDefer_get hnd;generalize hl1 : l.take m = l1 at *;subst hl;intro a ha;refine (wpIn_wide (n := 0)).1 (wpIn_region_any hm ?_);have hol : (l1 ++ [o])[l1.length]? = some o := by rw [List.getElem?_append_right (Nat.le_refl _)]; simp
 have e1 : (l1 ++ [o]).toArray.size = l1.length + 1 := by simp
 rw [e1];refine anyTail hlow hlast (fun j hj => by simpa using List.all_eq_true.1 hbo j hj) (fun i p hp => hget i p (by simpa using hp)) l1.length (Array.replicate l1.length false) (Array.replicate (l1.length + 1) false) a _ (by simp) (by simp) (fun i hi => ?_) (by simp) ?_
 ·simp [Array.getElem?_replicate, hi, show i < l1.length + 1 by omega]
 have h4 := W.anyD st h2 h1 h3 a ha;have e2 : l1.toArray.size = l1.length := by simp
 rw [e2] at h4;refine anyIn_of (r := none) (ds := []) (k := 0) ?_ ?_ (fun i p hp => hget i p (by
  have hp' : l1[i]? = some p := by simpa using hp
  rw [List.getElem?_append_left (List.getElem?_eq_some_iff.1 hp').1]; exact hp')) _ _ a a _ rfl (by simp) h4
 ·rintro e b1 b2 u g1 g2 ⟨σ', hf, rfl, q⟩;have eb : b2 = b1 := by cases b1; cases b2; simp at g1 g2; subst g1; subst g2; rfl
  subst eb;refine ⟨rfl, ?_⟩;have q2 := q b2 hf;have q3 : wpOpIn Fence.wide 0 P (l1 ++ [o]).toArray (fun e a' w' => e = .normal ∧ ∃ σ', Fits n a' σ' ∧ Q .normal σ' w') l1.length (fun a' w' => (.normal : Exit) = .normal ∧ ∃ σ', Fits n a' σ' ∧ Q .normal σ' w') b2 u := by
   unfold wpOpIn;rw [List.getElem?_toArray, hol];exact q2
  exact opIn_of (r := none) (ds := []) (k := 0) (fun e a w z => z.1) (fun a1 a2 w g1 g2 g => by
   have e : a2 = a1 := by cases a1; cases a2; simp at g1 g2; subst g1; subst g2; rfl
   subst e; exact g.2) (fun p hp => hget l1.length p (by simpa using hp)) b2 b2 u rfl (by simp) q3
 ·rintro e b u ⟨_, _, rfl, _⟩; rfl
end Go.Pk

namespace Go.Pk
open Go Go.RowKit
section
variable {P : Program} {σ : Env} {w : World} {ty : TypeId} {pos : String} {aft : Array Edge} {g : Option (Nat × Bool)} {dst : Option Tmp}
theorem r_field1 {s : TypeId} {x : Operand} {k : Nat} {fs : Array Field} {f : Field} {vs : List Value} {v : Value} (hx : ev σ x = .agg vs.toArray) (hu : P.underlying s = some (.struct fs)) (hf : fs[k]? = some f) (ha : ∀ w, (isAgg f.type).run P w = .ok false w) (hv : vs[f.offset]? = some v) :
  Run P σ w ⟨dst, .field s x k, ty, pos, aft, g⟩ v w := by
 simp [Run, execOp, hx, Instr.field, run_underlying hu, hf, asAgg, part, ha, hv]
end
end Go.Pk

namespace Go.Pk
open Go Go.RowKit
theorem Y {α : Sort _} {a : α} : a = a := rfl
theorem zh {p : Prop} (h : p := by kernel_rfl) : p := h
theorem zbd {p : Prop} (h : p := by first | assumption | (simp [big]; done) | (simp [big]; omega) | omega) : p := h
theorem zdt {p : Prop} (h : p := by first | assumption | decide | omega | (dsimp only; omega) | (simp; omega)) : p := h
theorem zbQ {p : Prop} (h : p := by first | omega | (simp; omega)) : p := h
theorem zbs {p : Prop} (h : p := by repeat (first | exact zcq _ _ _ | exact zbG _ _ | refine zbX rfl ?_ | refine zcc rfl ?_ | refine zbx rfl ?_ | refine zcp rfl ?_)) : p := h
theorem zbP {p : Prop} (h : p := by first | omega | simp | trivial) : p := h
theorem t_of {p : Prop} [Decidable p] (h : decide p = false) : ¬ p := of_decide_eq_false h
theorem ziH {p : Prop} [Decidable p] (h : decide p = true) : p := of_decide_eq_true h
theorem zdl {α : Type} {l : List α} {k : Nat} (h : k < l.length) : ∃ y, l[k]? = some y := ⟨_, List.getElem?_eq_getElem h⟩
def zdA (a n : Nat) : List Nat := List.range' a n
theorem zcf {h : Heap} {w : World} (hs : Sub h w) : St h w h w [] := St.start hs
theorem zV {P : Program} {n : Nat} {Q : Exit → Env → World → Prop} {σ : Env} {w : World} {c : Operand} {x y : Code} {p : Prop} [Decidable p] (hc : ev σ c = .bool (decide p)) (ht : p → W P n x Q σ w) (hf : ¬ p → W P n y Q σ w) : W P n (.cond c x y) Q σ w := zQ hc (fun h => ht (of_decide_eq_true h)) (fun h => hf (of_decide_eq_false h))
theorem zaT {P : Program} {n : Nat} {ops : Array Oper} {K : Env → World → Prop} {σ : Env} {w : World} {l : List Oper} {d : Nat} {p : Prop} [Decidable p] (hv : σ d = .bool (decide p)) (h1 : p → OpsL P n ops l K (upd σ d (.bool true)) w) (h2 : ¬ p → OpsL P n ops l K (upd σ d (.bool false)) w) : OpsL P n ops l K σ w := zaL hv (fun h => h1 (of_decide_eq_true h)) (fun h => h2 (of_decide_eq_false h))
theorem OpsQ.splitD {P : Program} {n : Nat} {ops : Array Oper} {C : World → Prop} {K : Env → Prop} {σ : Env} {l : List Oper} {d : Nat} {p : Prop} [Decidable p] (hv : σ d = .bool (decide p)) (h1 : p → OpsQ P n ops C l K (upd σ d (.bool true))) (h2 : ¬ p → OpsQ P n ops C l K (upd σ d (.bool false))) : OpsQ P n ops C l K σ := OpsQ.split hv (fun h => h1 (of_decide_eq_true h)) (fun h => h2 (of_decide_eq_false h))
section
variable {P : Program} {n : Nat} {ops : Array Oper} {rest : List Oper} {K : Env → World → Prop} {C : World → Prop} {σ : Env} {w : World} {ty : TypeId} {pos : String} {aft : Array Edge} {d : Nat}
theorem zm {Q : Exit → Env → World → Prop} {id : Nat} {l : List Oper} {y : Code} (h : OpsL P n l.toArray l (fun σ w => Then (W P n y Q) Q .normal σ w) σ w) : W P n (.seq (.region id l.toArray false) y) Q σ w := zl (zf h)
theorem M {Q : Exit → Env → World → Prop} {K' : Env → World → Prop} (h : K' σ w) : OpsL P n ops [] (fun σ w => Then K' Q .normal σ w) σ w := zb (E h)
end
section
variable {P : Program} {nT : Nat} {opT : Array Oper} {rsT : List Oper} {KT : Env → World → Prop} {CT : World → Prop} {σ : Env} {w : World} {ty : TypeId} {pos : String} {aft : Array Edge} {dT : Nat}

theorem zbK {t t' : TypeId} {x y : Operand} {a b : Int} (hx : ev σ x = .int .i64 a) (hy : ev σ y = .int .i64 b) (hb : -9223372036854775808 ≤ a + b ∧ a + b ≤ 9223372036854775807) (hdT : Nat.blt dT nT = true) (hKT : OpsL P nT opT rsT KT (upd σ dT (.int .i64 (a + b))) w) : OpsL P nT opT (⟨some dT, .binOp .add t x y t', ty, pos, aft, none⟩ :: rsT) KT σ w := Z rfl hdT (zdK hx hy hb) hKT
theorem zJ {x : Operand} {a : Bool} (hv : ev σ x = .bool a) (hdT : Nat.blt dT nT = true) (hKT : OpsL P nT opT rsT KT (upd σ dT (.bool a)) w) : OpsL P nT opT (⟨some dT, .assign x, ty, pos, aft, none⟩ :: rsT) KT σ w := Z rfl hdT (zdi hv) hKT
theorem u_asB {KT : Env → Prop} {x : Operand} {a : Bool} (hv : ev σ x = .bool a) (hdT : Nat.blt dT nT = true) (hKT : OpsQ P nT opT CT rsT KT (upd σ dT (.bool a))) : OpsQ P nT opT CT (⟨some dT, .assign x, ty, pos, aft, none⟩ :: rsT) KT σ := zab rfl hdT (fun _ _ => zdi hv) hKT
theorem zH {x : Operand} {k : IntKind} {a : Int} (hv : ev σ x = .int k a) (hdT : Nat.blt dT nT = true) (hKT : OpsL P nT opT rsT KT (upd σ dT (.int k a)) w) : OpsL P nT opT (⟨some dT, .assign x, ty, pos, aft, none⟩ :: rsT) KT σ w := Z rfl hdT (zct hv) hKT
theorem u_asI {KT : Env → Prop} {x : Operand} {k : IntKind} {a : Int} (hv : ev σ x = .int k a) (hdT : Nat.blt dT nT = true) (hKT : OpsQ P nT opT CT rsT KT (upd σ dT (.int k a))) : OpsQ P nT opT CT (⟨some dT, .assign x, ty, pos, aft, none⟩ :: rsT) KT σ := zab rfl hdT (fun _ _ => zct hv) hKT
theorem zcO {x : Operand} {a : Option Addr} {m c : Nat} (hv : ev σ x = .slice a m c) (hdT : Nat.blt dT nT = true) (hKT : OpsL P nT opT rsT KT (upd σ dT (.slice a m c)) w) : OpsL P nT opT (⟨some dT, .assign x, ty, pos, aft, none⟩ :: rsT) KT σ w := Z rfl hdT (zix hv) hKT
theorem ziU {x : Operand} {a : Option Addr} (hv : ev σ x = .pointer a) (hdT : Nat.blt dT nT = true) (hKT : OpsL P nT opT rsT KT (upd σ dT (.pointer a)) w) : OpsL P nT opT (⟨some dT, .assign x, ty, pos, aft, none⟩ :: rsT) KT σ w := Z rfl hdT (r_asP hv) hKT
theorem zft {x : Operand} {a : Str} (hv : ev σ x = zx a) (hdT : Nat.blt dT nT = true) (hKT : OpsL P nT opT rsT KT (upd σ dT (zx a)) w) : OpsL P nT opT (⟨some dT, .assign x, ty, pos, aft, none⟩ :: rsT) KT σ w := Z rfl hdT (r_asS hv) hKT
theorem u_asS {KT : Env → Prop} {x : Operand} {a : Str} (hv : ev σ x = zx a) (hdT : Nat.blt dT nT = true) (hKT : OpsQ P nT opT CT rsT KT (upd σ dT (zx a))) : OpsQ P nT opT CT (⟨some dT, .assign x, ty, pos, aft, none⟩ :: rsT) KT σ := zab rfl hdT (fun _ _ => r_asS hv) hKT
theorem zaj {x : Operand} {v : Value} (hv : ev σ x = v) (hdT : Nat.blt dT nT = true) (hKT : OpsL P nT opT rsT KT (upd σ dT v) w) : OpsL P nT opT (⟨some dT, .assign x, ty, pos, aft, none⟩ :: rsT) KT σ w := Z rfl hdT (zbz hv) hKT
theorem u_assign {KT : Env → Prop} {x : Operand} {v : Value} (hv : ev σ x = v) (hdT : Nat.blt dT nT = true) (hKT : OpsQ P nT opT CT rsT KT (upd σ dT v)) : OpsQ P nT opT CT (⟨some dT, .assign x, ty, pos, aft, none⟩ :: rsT) KT σ := zab rfl hdT (fun _ _ => zbz hv) hKT
theorem zez {t t' : TypeId} {x y : Operand} {k : IntKind} {a b : Int} (hx : ev σ x = .int k a) (hy : ev σ y = .int k b) (hdT : Nat.blt dT nT = true) (hKT : OpsL P nT opT rsT KT (upd σ dT (.bool (decide (a = b)))) w) : OpsL P nT opT (⟨some dT, .binOp .eql t x y t', ty, pos, aft, none⟩ :: rsT) KT σ w := Z rfl hdT (zgO hx hy) hKT
theorem u_eql {KT : Env → Prop} {t t' : TypeId} {x y : Operand} {k : IntKind} {a b : Int} (hx : ev σ x = .int k a) (hy : ev σ y = .int k b) (hdT : Nat.blt dT nT = true) (hKT : OpsQ P nT opT CT rsT KT (upd σ dT (.bool (decide (a = b))))) : OpsQ P nT opT CT (⟨some dT, .binOp .eql t x y t', ty, pos, aft, none⟩ :: rsT) KT σ := zab rfl hdT (fun _ _ => zgO hx hy) hKT
theorem zG {x : Operand} {k : Nat} {vs : List Value} {v : Value} (hx : ev σ x = .tuple vs.toArray) (hv : vs[k]? = some v) (hdT : Nat.blt dT nT = true) (hKT : OpsL P nT opT rsT KT (upd σ dT v) w) : OpsL P nT opT (⟨some dT, .extract x k, ty, pos, aft, none⟩ :: rsT) KT σ w := Z rfl hdT (zcg hx hv) hKT
theorem zc {s : TypeId} {x : Operand} {k b off m : Nat} {fs : Array Field} {f : Field} (hx : ev σ x = .pointer (some ⟨b, off, none⟩)) (hu : P.underlying s = some (.struct fs)) (hf : fs[k]? = some f) (hz : ∀ w, (sizeOf f.type).run P w = .ok (m + 1) w) {off' : Nat} (ho : off + f.offset = off') (hdT : Nat.blt dT nT = true) (hKT : OpsL P nT opT rsT KT (upd σ dT (.pointer (some ⟨b, off', none⟩))) w) : OpsL P nT opT (⟨some dT, .fieldAddr s x k, ty, pos, aft, none⟩ :: rsT) KT σ w := Z rfl hdT (zn hx hu hf hz ho) hKT
theorem zaY {KT : Env → Prop} {s : TypeId} {x : Operand} {k b off m : Nat} {fs : Array Field} {f : Field} (hx : ev σ x = .pointer (some ⟨b, off, none⟩)) (hu : P.underlying s = some (.struct fs)) (hf : fs[k]? = some f) (hz : ∀ w, (sizeOf f.type).run P w = .ok (m + 1) w) {off' : Nat} (ho : off + f.offset = off') (hdT : Nat.blt dT nT = true) (hKT : OpsQ P nT opT CT rsT KT (upd σ dT (.pointer (some ⟨b, off', none⟩)))) : OpsQ P nT opT CT (⟨some dT, .fieldAddr s x k, ty, pos, aft, none⟩ :: rsT) KT σ := zab rfl hdT (fun _ _ => zn hx hu hf hz ho) hKT
theorem v_geq {t t' : TypeId} {x y : Operand} {k : IntKind} {a b : Int} (hx : ev σ x = .int k a) (hy : ev σ y = .int k b) (hdT : Nat.blt dT nT = true) (hKT : OpsL P nT opT rsT KT (upd σ dT (.bool (decide (b ≤ a)))) w) : OpsL P nT opT (⟨some dT, .binOp .geq t x y t', ty, pos, aft, none⟩ :: rsT) KT σ w := Z rfl hdT (r_geq hx hy) hKT
theorem zeQ {t t' : TypeId} {x y : Operand} {k : IntKind} {a b : Int} (hx : ev σ x = .int k a) (hy : ev σ y = .int k b) (hdT : Nat.blt dT nT = true) (hKT : OpsL P nT opT rsT KT (upd σ dT (.bool (decide (b < a)))) w) : OpsL P nT opT (⟨some dT, .binOp .gtr t x y t', ty, pos, aft, none⟩ :: rsT) KT σ w := Z rfl hdT (r_gtr hx hy) hKT
theorem u_gtr {KT : Env → Prop} {t t' : TypeId} {x y : Operand} {k : IntKind} {a b : Int} (hx : ev σ x = .int k a) (hy : ev σ y = .int k b) (hdT : Nat.blt dT nT = true) (hKT : OpsQ P nT opT CT rsT KT (upd σ dT (.bool (decide (b < a))))) : OpsQ P nT opT CT (⟨some dT, .binOp .gtr t x y t', ty, pos, aft, none⟩ :: rsT) KT σ := zab rfl hdT (fun _ _ => r_gtr hx hy) hKT
theorem zaH {v : Value} {t e : TypeId} {x ix : Operand} {i : Int} {k s b o : Nat} (he : Elem v k s b o) (hx : ev σ x = v) (hi : ev σ ix = .int .i64 i) (hk : i = (k : Int)) (hu : P.underlying t = some (.slice e)) (hz : ∀ w, (sizeOf e).run P w = .ok s w) (hdT : Nat.blt dT nT = true) (hKT : OpsL P nT opT rsT KT (upd σ dT (.pointer (some ⟨b, o, none⟩))) w) : OpsL P nT opT (⟨some dT, .indexAddr t x ix, ty, pos, aft, none⟩ :: rsT) KT σ w := Z rfl hdT (zaO he hx hi hk hu hz) hKT
theorem zdy {KT : Env → Prop} {v : Value} {t e : TypeId} {x ix : Operand} {i : Int} {k s b o : Nat} (he : Elem v k s b o) (hx : ev σ x = v) (hi : ev σ ix = .int .i64 i) (hk : i = (k : Int)) (hu : P.underlying t = some (.slice e)) (hz : ∀ w, (sizeOf e).run P w = .ok s w) (hdT : Nat.blt dT nT = true) (hKT : OpsQ P nT opT CT rsT KT (upd σ dT (.pointer (some ⟨b, o, none⟩)))) : OpsQ P nT opT CT (⟨some dT, .indexAddr t x ix, ty, pos, aft, none⟩ :: rsT) KT σ := zab rfl hdT (fun _ _ => zaO he hx hi hk hu hz) hKT
theorem zbr {α : Type} {L : Lay α} {h : Heap} {xs : List α} {v : Value} {t e : TypeId} {x : Operand} (hs : Sl L h v xs) (hx : ev σ x = v) (hu : P.underlying t = some (.slice e)) (hdT : Nat.blt dT nT = true) (hKT : OpsL P nT opT rsT KT (upd σ dT (.int .i64 xs.length)) w) : OpsL P nT opT (⟨some dT, .call ⟨.builtin .len, #[x], #[t]⟩, ty, pos, aft, none⟩ :: rsT) KT σ w := Z rfl hdT (zeu hs hx hu) hKT
theorem u_len {KT : Env → Prop} {α : Type} {L : Lay α} {h : Heap} {xs : List α} {v : Value} {t e : TypeId} {x : Operand} (hs : Sl L h v xs) (hx : ev σ x = v) (hu : P.underlying t = some (.slice e)) (hdT : Nat.blt dT nT = true) (hKT : OpsQ P nT opT CT rsT KT (upd σ dT (.int .i64 xs.length))) : OpsQ P nT opT CT (⟨some dT, .call ⟨.builtin .len, #[x], #[t]⟩, ty, pos, aft, none⟩ :: rsT) KT σ := zab rfl hdT (fun _ _ => zeu hs hx hu) hKT
theorem zgh {h : Heap} {α : Type} {L : Lay α} {T : TypeId} {xs : List α} {v : Value} {o : List (Nat × Obj)} {t e : TypeId} {x : Operand} (hs : OSl L T h v xs o) (hx : ev σ x = v) (hu : P.underlying t = some (.slice e)) (hdT : Nat.blt dT nT = true) (hKT : OpsL P nT opT rsT KT (upd σ dT (.int .i64 xs.length)) w) : OpsL P nT opT (⟨some dT, .call ⟨.builtin .len, #[x], #[t]⟩, ty, pos, aft, none⟩ :: rsT) KT σ w := Z rfl hdT (r_len_own hs hx hu) hKT
theorem zcN {t : TypeId} {x : Operand} {s : Str} (hx : ev σ x = zx s) (hu : P.underlying t = some .string) (hdT : Nat.blt dT nT = true) (hKT : OpsL P nT opT rsT KT (upd σ dT (.int .i64 s.length)) w) : OpsL P nT opT (⟨some dT, .call ⟨.builtin .len, #[x], #[t]⟩, ty, pos, aft, none⟩ :: rsT) KT σ w := Z rfl hdT (r_len_str hx hu) hKT
theorem zfE {b off : Nat} {cs : List Value} {T : TypeId} {fr : Nat × Nat} {v : Value} {t : TypeId} {x : Operand} (hb : w.heap[b]? = some (.cells cs.toArray T fr)) (hx : ev σ x = .pointer (some ⟨b, off, none⟩)) (hv : cs[off]? = some v) (ha : ∀ w, (isAgg t).run P w = .ok false w) (hdT : Nat.blt dT nT = true) (hKT : OpsL P nT opT rsT KT (upd σ dT v) w) : OpsL P nT opT (⟨some dT, .load t x, ty, pos, aft, none⟩ :: rsT) KT σ w := Z rfl hdT (r_load_b1 hb hx hv ha) hKT
theorem zds {b m : Nat} {cs : List Value} {T : TypeId} {fr : Nat × Nat} {t : TypeId} {x : Operand} (hb : w.heap[b]? = some (.cells cs.toArray T fr)) (hx : ev σ x = .pointer (some ⟨b, 0, none⟩)) (ha : ∀ w, (isAgg t).run P w = .ok true w) (hz : ∀ w, (sizeOf t).run P w = .ok m w) (hn : cs.length = m) (hdT : Nat.blt dT nT = true) (hKT : OpsL P nT opT rsT KT (upd σ dT (.agg cs.toArray)) w) : OpsL P nT opT (⟨some dT, .load t x, ty, pos, aft, none⟩ :: rsT) KT σ w := Z rfl hdT (r_load_ball hb hx ha hz hn) hKT
theorem zp {h : Heap} (hs : Sub h w) {t : TypeId} {x : Operand} {b o m : Nat} {vs : List Value} (hc : Cells h b o vs) (hx : ev σ x = .pointer (some ⟨b, o, none⟩)) (ha : ∀ w, (isAgg t).run P w = .ok true w) (hz : ∀ w, (sizeOf t).run P w = .ok m w) (hn : vs.length = m) (hdT : Nat.blt dT nT = true) (hKT : OpsL P nT opT rsT KT (upd σ dT (.agg vs.toArray)) w) : OpsL P nT opT (⟨some dT, .load t x, ty, pos, aft, none⟩ :: rsT) KT σ w := Z rfl hdT (zW hs hc hx ha hz hn) hKT
theorem zd {h : Heap} (hs : Sub h w) {t : TypeId} {x : Operand} {b off j : Nat} {vs : List Value} {v : Value} (hc : Cells h b off vs) {off' : Nat} (hx : ev σ x = .pointer (some ⟨b, off', none⟩)) (ho : off' = off + j) (hv : vs[j]? = some v) (ha : ∀ w, (isAgg t).run P w = .ok false w) (hdT : Nat.blt dT nT = true) (hKT : OpsL P nT opT rsT KT (upd σ dT v) w) : OpsL P nT opT (⟨some dT, .load t x, ty, pos, aft, none⟩ :: rsT) KT σ w := Z rfl hdT (zj hs hc hx ho hv ha) hKT
theorem zaF {h : Heap} (hs : Sub h w) {t : TypeId} {x : Operand} {b off j n : Nat} {vs us : List Value} (hc : Cells h b off vs) {off' : Nat} (hx : ev σ x = .pointer (some ⟨b, off', none⟩)) (ho : off' = off + j) (ha : ∀ w, (isAgg t).run P w = .ok true w) (hz : ∀ w, (sizeOf t).run P w = .ok n w) (hu : (vs.drop j).take n = us) (hn : us.length = n) (hdT : Nat.blt dT nT = true) (hKT : OpsL P nT opT rsT KT (upd σ dT (.agg us.toArray)) w) : OpsL P nT opT (⟨some dT, .load t x, ty, pos, aft, none⟩ :: rsT) KT σ w := Z rfl hdT (zcW hs hc hx ho ha hz hu hn) hKT
theorem zbV {t t' : TypeId} {x y : Operand} {k : IntKind} {a b : Int} (hx : ev σ x = .int k a) (hy : ev σ y = .int k b) (hdT : Nat.blt dT nT = true) (hKT : OpsL P nT opT rsT KT (upd σ dT (.bool (decide (a < b)))) w) : OpsL P nT opT (⟨some dT, .binOp .lss t x y t', ty, pos, aft, none⟩ :: rsT) KT σ w := Z rfl hdT (ziZ hx hy) hKT
theorem zeP {fn : Fn} {first captured : Array Operand} {fs cs : List Value} (hf : first.toList.map (ev σ) = fs) (hc : captured.toList.map (ev σ) = cs) (hdT : Nat.blt dT nT = true) (hKT : OpsL P nT opT rsT KT (upd σ dT (.func fn fs.toArray cs.toArray)) w) : OpsL P nT opT (⟨some dT, .makeFunc fn first captured, ty, pos, aft, none⟩ :: rsT) KT σ w := Z rfl hdT (r_make_func hf hc) hKT
theorem zZ {x : Operand} {v : Value} (hv : ev σ x = v) (hdT : Nat.blt dT nT = true) (hKT : OpsL P nT opT rsT KT (upd σ dT v) w) : OpsL P nT opT (⟨some dT, .move x, ty, pos, aft, none⟩ :: rsT) KT σ w := Z rfl hdT (zbk hv) hKT
theorem zfj {KT : Env → Prop} {x : Operand} {v : Value} (hv : ev σ x = v) (hdT : Nat.blt dT nT = true) (hKT : OpsQ P nT opT CT rsT KT (upd σ dT v)) : OpsQ P nT opT CT (⟨some dT, .move x, ty, pos, aft, none⟩ :: rsT) KT σ := zab rfl hdT (fun _ _ => zbk hv) hKT
theorem zag {x : Operand} {a : Bool} (hv : ev σ x = .bool a) (hdT : Nat.blt dT nT = true) (hKT : OpsL P nT opT rsT KT (upd σ dT (.bool a)) w) : OpsL P nT opT (⟨some dT, .move x, ty, pos, aft, none⟩ :: rsT) KT σ w := Z rfl hdT (zcZ hv) hKT
theorem u_mvB {KT : Env → Prop} {x : Operand} {a : Bool} (hv : ev σ x = .bool a) (hdT : Nat.blt dT nT = true) (hKT : OpsQ P nT opT CT rsT KT (upd σ dT (.bool a))) : OpsQ P nT opT CT (⟨some dT, .move x, ty, pos, aft, none⟩ :: rsT) KT σ := zab rfl hdT (fun _ _ => zcZ hv) hKT
theorem zhA {x : Operand} {f : Fn} {a c : Array Value} (hv : ev σ x = .func f a c) (hdT : Nat.blt dT nT = true) (hKT : OpsL P nT opT rsT KT (upd σ dT (.func f a c)) w) : OpsL P nT opT (⟨some dT, .move x, ty, pos, aft, none⟩ :: rsT) KT σ w := Z rfl hdT (r_mvF hv) hKT
theorem zy {x : Operand} {k : IntKind} {a : Int} (hv : ev σ x = .int k a) (hdT : Nat.blt dT nT = true) (hKT : OpsL P nT opT rsT KT (upd σ dT (.int k a)) w) : OpsL P nT opT (⟨some dT, .move x, ty, pos, aft, none⟩ :: rsT) KT σ w := Z rfl hdT (zba hv) hKT
theorem zfM {KT : Env → Prop} {x : Operand} {k : IntKind} {a : Int} (hv : ev σ x = .int k a) (hdT : Nat.blt dT nT = true) (hKT : OpsQ P nT opT CT rsT KT (upd σ dT (.int k a))) : OpsQ P nT opT CT (⟨some dT, .move x, ty, pos, aft, none⟩ :: rsT) KT σ := zab rfl hdT (fun _ _ => zba hv) hKT
theorem ziq {x : Operand} {a : Option Addr} (hv : ev σ x = .pointer a) (hdT : Nat.blt dT nT = true) (hKT : OpsL P nT opT rsT KT (upd σ dT (.pointer a)) w) : OpsL P nT opT (⟨some dT, .move x, ty, pos, aft, none⟩ :: rsT) KT σ w := Z rfl hdT (zgk hv) hKT
theorem u_mvP {KT : Env → Prop} {x : Operand} {a : Option Addr} (hv : ev σ x = .pointer a) (hdT : Nat.blt dT nT = true) (hKT : OpsQ P nT opT CT rsT KT (upd σ dT (.pointer a))) : OpsQ P nT opT CT (⟨some dT, .move x, ty, pos, aft, none⟩ :: rsT) KT σ := zab rfl hdT (fun _ _ => zgk hv) hKT
theorem zcE {x : Operand} {a : Str} (hv : ev σ x = zx a) (hdT : Nat.blt dT nT = true) (hKT : OpsL P nT opT rsT KT (upd σ dT (zx a)) w) : OpsL P nT opT (⟨some dT, .move x, ty, pos, aft, none⟩ :: rsT) KT σ w := Z rfl hdT (zeC hv) hKT
theorem zcD {x : Operand} {a : List Value} (hv : ev σ x = .tuple a.toArray) (hdT : Nat.blt dT nT = true) (hKT : OpsL P nT opT rsT KT (upd σ dT (.tuple a.toArray)) w) : OpsL P nT opT (⟨some dT, .move x, ty, pos, aft, none⟩ :: rsT) KT σ w := Z rfl hdT (r_mvT hv) hKT
theorem zdo {t t' : TypeId} {x y : Operand} {k : IntKind} {a b : Int} (hx : ev σ x = .int k a) (hy : ev σ y = .int k b) (hdT : Nat.blt dT nT = true) (hKT : OpsL P nT opT rsT KT (upd σ dT (.bool (decide (a ≠ b)))) w) : OpsL P nT opT (⟨some dT, .binOp .neq t x y t', ty, pos, aft, none⟩ :: rsT) KT σ w := Z rfl hdT (ziv hx hy) hKT
theorem u_neq {KT : Env → Prop} {t t' : TypeId} {x y : Operand} {k : IntKind} {a b : Int} (hx : ev σ x = .int k a) (hy : ev σ y = .int k b) (hdT : Nat.blt dT nT = true) (hKT : OpsQ P nT opT CT rsT KT (upd σ dT (.bool (decide (a ≠ b))))) : OpsQ P nT opT CT (⟨some dT, .binOp .neq t x y t', ty, pos, aft, none⟩ :: rsT) KT σ := zab rfl hdT (fun _ _ => ziv hx hy) hKT
theorem zce {t : TypeId} {x : Operand} {b : Bool} (hx : ev σ x = .bool b) (hdT : Nat.blt dT nT = true) (hKT : OpsL P nT opT rsT KT (upd σ dT (.bool (!b))) w) : OpsL P nT opT (⟨some dT, .unOp .not t x, ty, pos, aft, none⟩ :: rsT) KT σ w := Z rfl hdT (zfR hx) hKT
theorem u_not {KT : Env → Prop} {t : TypeId} {x : Operand} {b : Bool} (hx : ev σ x = .bool b) (hdT : Nat.blt dT nT = true) (hKT : OpsQ P nT opT CT rsT KT (upd σ dT (.bool (!b)))) : OpsQ P nT opT CT (⟨some dT, .unOp .not t x, ty, pos, aft, none⟩ :: rsT) KT σ := zab rfl hdT (fun _ _ => zfR hx) hKT
theorem zT {c a b : Operand} {v : Value} (hc : ev σ c = .bool false) (hv : ev σ b = v) (hdT : Nat.blt dT nT = true) (hKT : OpsL P nT opT rsT KT (upd σ dT v) w) : OpsL P nT opT (⟨some dT, .pick c a b, ty, pos, aft, none⟩ :: rsT) KT σ w := Z rfl hdT (zdI hc hv) hKT
theorem u_pickF {KT : Env → Prop} {c a b : Operand} {v : Value} (hc : ev σ c = .bool false) (hv : ev σ b = v) (hdT : Nat.blt dT nT = true) (hKT : OpsQ P nT opT CT rsT KT (upd σ dT v)) : OpsQ P nT opT CT (⟨some dT, .pick c a b, ty, pos, aft, none⟩ :: rsT) KT σ := zab rfl hdT (fun _ _ => zdI hc hv) hKT
theorem zak {c a b : Operand} {v : Value} (hc : ev σ c = .bool true) (hv : ev σ a = v) (hdT : Nat.blt dT nT = true) (hKT : OpsL P nT opT rsT KT (upd σ dT v) w) : OpsL P nT opT (⟨some dT, .pick c a b, ty, pos, aft, none⟩ :: rsT) KT σ w := Z rfl hdT (zcw hc hv) hKT
theorem zhH {KT : Env → Prop} {c a b : Operand} {v : Value} (hc : ev σ c = .bool true) (hv : ev σ a = v) (hdT : Nat.blt dT nT = true) (hKT : OpsQ P nT opT CT rsT KT (upd σ dT v)) : OpsQ P nT opT CT (⟨some dT, .pick c a b, ty, pos, aft, none⟩ :: rsT) KT σ := zab rfl hdT (fun _ _ => zcw hc hv) hKT
theorem v_seql {t t' : TypeId} {x y : Operand} {a b : Str} (hx : ev σ x = zx a) (hy : ev σ y = zx b) (hdT : Nat.blt dT nT = true) (hKT : OpsL P nT opT rsT KT (upd σ dT (.bool (decide (a = b)))) w) : OpsL P nT opT (⟨some dT, .binOp .eql t x y t', ty, pos, aft, none⟩ :: rsT) KT σ w := Z rfl hdT (r_seql hx hy) hKT
theorem u_seql {KT : Env → Prop} {t t' : TypeId} {x y : Operand} {a b : Str} (hx : ev σ x = zx a) (hy : ev σ y = zx b) (hdT : Nat.blt dT nT = true) (hKT : OpsQ P nT opT CT rsT KT (upd σ dT (.bool (decide (a = b))))) : OpsQ P nT opT CT (⟨some dT, .binOp .eql t x y t', ty, pos, aft, none⟩ :: rsT) KT σ := zab rfl hdT (fun _ _ => r_seql hx hy) hKT
theorem v_sub {t t' : TypeId} {x y : Operand} {a b : Int} (hx : ev σ x = .int .i64 a) (hy : ev σ y = .int .i64 b) (hb : -9223372036854775808 ≤ a - b ∧ a - b ≤ 9223372036854775807) (hdT : Nat.blt dT nT = true) (hKT : OpsL P nT opT rsT KT (upd σ dT (.int .i64 (a - b))) w) : OpsL P nT opT (⟨some dT, .binOp .sub t x y t', ty, pos, aft, none⟩ :: rsT) KT σ w := Z rfl hdT (zhm hx hy hb) hKT
theorem u_sub {KT : Env → Prop} {t t' : TypeId} {x y : Operand} {a b : Int} (hx : ev σ x = .int .i64 a) (hy : ev σ y = .int .i64 b) (hb : -9223372036854775808 ≤ a - b ∧ a - b ≤ 9223372036854775807) (hdT : Nat.blt dT nT = true) (hKT : OpsQ P nT opT CT rsT KT (upd σ dT (.int .i64 (a - b)))) : OpsQ P nT opT CT (⟨some dT, .binOp .sub t x y t', ty, pos, aft, none⟩ :: rsT) KT σ := zab rfl hdT (fun _ _ => zhm hx hy hb) hKT
end
end Go.Pk

namespace Go.Pk
open Go Go.RowKit
theorem Le.t {h1 h2 h3 : Heap} (a : Le h1 h2) (b : Le h2 h3) : Le h1 h3 := a.trans b
def skE (n : Nat) (ops : Array Oper) : Nat → List Oper → Env → Option (List Oper × Env)
 | 0, l, σ => some (l, σ)
 | k + 1, ⟨d, _, _, _, _, some (g, b)⟩ :: l, σ => match (ops[g]?).bind (·.dst) with
  | some q => match Nat.blt q n, zfO n d, σ q with
   | true, true, .bool c => bif c == b then none else skE n ops k l (updO σ d undef)
   | true, true, .tuple ⟨[]⟩ => skE n ops k l (updO σ d undef)
   | _, _, _ => none
  | none => none
 | _ + 1, _, _ => none
theorem skE_ind {n : Nat} {ops : Array Oper} {G : List Oper → Env → Prop}
  (h1 : ∀ d op t p a g b l σ q c, (ops[g]?).bind (·.dst) = some q → Nat.blt q n = true → zfO n d = true → σ q = .bool c → (c == b) = false → G l (updO σ d undef) → G (⟨d, op, t, p, a, some (g, b)⟩ :: l) σ)
  (h2 : ∀ d op t p a g b l σ q, (ops[g]?).bind (·.dst) = some q → Nat.blt q n = true → zfO n d = true → σ q = undef → G l (updO σ d undef) → G (⟨d, op, t, p, a, some (g, b)⟩ :: l) σ) :
  ∀ (k : Nat) (l l' : List Oper) (σ σ' : Env), skE n ops k l σ = some (l', σ') → G l' σ' → G l σ
 | 0, l, l', σ, σ', e, h => by cases e; exact h
 | k + 1, [], _, _, _, e, _ => by cases e
 | k + 1, ⟨d, op, t, p, a, none⟩ :: l, _, _, _, e, _ => by cases e
 | k + 1, ⟨d, op, t, p, a, some (g, b)⟩ :: l, l', σ, σ', e, h => by
  simp only [skE] at e;split at e
  ·rename_i q hq;split at e
   ·rename_i c e1 e2 e3;cases e4 : c == b with
    | true => rw [e4] at e; cases e
    | false => rw [e4] at e; exact h1 _ _ _ _ _ _ _ _ _ _ _ hq e1 e2 e3 e4 (skE_ind h1 h2 k _ _ _ _ e h)
   ·rename_i e1 e2 e3;exact h2 _ _ _ _ _ _ _ _ _ _ hq e1 e2 e3 (skE_ind h1 h2 k _ _ _ _ e h)
   ·cases e
  ·cases e
theorem zP {P : Program} {n : Nat} {ops : Array Oper} {l l' : List Oper} {K : Env → World → Prop} {σ σ' : Env} {w : World} (k : Nat) (e : skE n ops k l σ = some (l', σ')) (h : OpsL P n ops l' K σ' w) : OpsL P n ops l K σ w :=
 skE_ind (G := fun l σ => OpsL P n ops l K σ w) (fun _ _ _ _ _ _ _ _ _ _ _ a b c d e f => zaN a b d e c f) (fun _ _ _ _ _ _ _ _ _ _ a b c d f => zdx a b d c f) k l l' σ σ' e h
theorem OpsQ.sk {P : Program} {n : Nat} {ops : Array Oper} {C : World → Prop} {l l' : List Oper} {K : Env → Prop} {σ σ' : Env} (k : Nat) (e : skE n ops k l σ = some (l', σ')) (h : OpsQ P n ops C l' K σ') : OpsQ P n ops C l K σ :=
 skE_ind (G := fun l σ => OpsQ P n ops C l K σ) (fun _ _ _ _ _ _ _ _ _ _ _ a b c d e f => OpsQ.skipped a b d e c f) (fun _ _ _ _ _ _ _ _ _ _ a b c d f => OpsQ.skippedU a b d c f) k l l' σ σ' e h
end Go.Pk

namespace Go.Pk
open Go Go.RowKit Go.Proofs Go.Shelf Go.Lib Go.Sort
theorem sortFunc1 {α : Type} {L : Lay α} {T : TypeId} {P : Program} {ρ : Ren} (LL : SlLaysF.n6 P ρ) (hL : L.size = 1)
  (enc : α → Value) (ho : OneCell enc) (hE : ∀ {h vs x}, L.R h vs x → vs = [enc x]) (cf : α → α → Int) (hS : SWO (ltOf cf)) {g : Nat} {caps : List Value} {h0 h : Heap} {w0 w : World} {own : Own} {i : Nat} {v : Value} {xs : List α} {o : List (Nat × Obj)}
  (st : St h0 w0 h w own) (hO : OSl L T h v xs o) (hi : own[i]? = some o) (hlen : xs.length < 4611686018427387904) (hx : xs ≠ []) (eg : ∀ a w, (callFunc g a).run P w = .ok (.enter g a) w)
  (hcmp : ∀ x ∈ xs, ∀ y ∈ xs, ∀ w', Sub h w' → Calls P g (enc x :: enc y :: caps).toArray w' (Rets h w' fun _ _ r => r = .int .i64 (cf x y))) :
  Calls P (ρ.f 6) #[v, .func (.func g) #[] caps.toArray] w fun e w' => e = .returned (.tuple #[]) ∧ ∃ ys o' own', own' = own.set i o' ∧ ys.Perm xs ∧ ys.Pairwise (fun a b => ¬ cf b a < 0) ∧ OSl L T h v ys o' ∧ St h0 w0 h w' own' := by
 obtain ⟨cs, e1, ⟨⟨p, rfl⟩, rfl, rfl⟩ | ⟨b, cap, cur, rfl, rfl, hnc, hcm, hsz, htk⟩⟩ := hO
 ·exact absurd rfl hx
 let β := { x : α // x ∈ xs }
 haveI : Inhabited β := ⟨⟨xs.head hx, List.head_mem hx⟩⟩
 let enc' : β → Value := fun x => enc x.1
 let cf' : β → β → Int := fun x y => cf x.1 y.1
 let d : Array β := xs.attach.toArray
 have hdl : d.size = xs.length := by show xs.attach.toArray.size = xs.length; rw [List.size_toArray]; exact List.length_attach
 have hmap : d.toList.map (·.1) = xs := by show xs.attach.map (·.1) = xs; exact List.attach_map_subtype_val xs
 have hRx : ∀ x : β, L.R h [enc x.1] x.1 := by
  intro x;obtain ⟨j, hj⟩ := List.mem_iff_getElem?.1 x.2;have := e1.2 j x.1 hj;rwa [hE this] at this
 have hb := st.get hi;have hcsl : cs.length = xs.length := by rw [e1.1, hL, Nat.mul_one]
 have hcs : ∀ j, j < d.size → cs[j]? = some (enc' d[j]!) := by
  intro j hj;have hj2 : j < xs.length := by omega
  have hr := hE (e1.2 j xs[j] (List.getElem?_eq_getElem hj2));rw [hL, Nat.mul_one] at hr;have h3 : cs[j]? = some (enc xs[j]) := by
   have h5 : ((cs.drop j).take 1)[0]? = some (enc xs[j]) := by rw [hr]; rfl
   rw [List.getElem?_take, if_pos zD, List.getElem?_drop, Nat.add_zero] at h5;exact h5
  rw [h3, getElem!_pos d j hj];have h4 : d[j].1 = xs[j] := by
   have q : (d.toList.map (·.1))[j]? = xs[j]? := by rw [hmap]
   rw [List.getElem?_map, Array.getElem?_toList, Array.getElem?_eq_getElem hj, List.getElem?_eq_getElem hj2] at q;exact Option.some.inj q
  show some (enc xs[j]) = some (enc d[j].1);rw [h4]
 have hH : Holds enc' w b 0 d := by
  intro j hj;have hcur : cur[j]? = some (enc' d[j]!) := by
   have hcj := hcs j hj;rw [← htk, List.getElem?_take] at hcj;split at hcj
   ·simpa using hcj
   ·cases hcj
  refine ⟨?_, ?_⟩
  ·simp only [World.cell?, hb, Option.isSome_none, Bool.false_eq_true, if_false, Nat.zero_add];exact hcur
  ·simp [World.frozen?, hb]
 have hlt := zcn hb;have hsubs : ∀ m (os : Array Obj) (dk : Array β), Sub h (sortWorld enc' w b 0 m dk os) := by
  intro m os dk;unfold sortWorld;rw [putRow_own1 hb];have := (((st.set (.cells (putCells enc' 0 dk cur) T) hi).same (w' := { w with drawn := w.drawn + m, heap := w.heap.setIfInBounds b (.cells (putCells enc' 0 dk cur) T) }) rfl rfl rfl rfl (Nat.le_add_right _ _)).grow os).sub;exact this
 have hC : CmpLays1 P g caps.toArray enc' cf' b 0 d.size w := by
  intro m os dk hdk x y;have c : Calls P g (#[enc' x, enc' y] ++ caps.toArray) (sortWorld enc' w b 0 m dk os) (Rets h (sortWorld enc' w b 0 m dk os) fun _ _ r => r = .int .i64 (cf x.1 y.1)) := by
   simpa using hcmp x.1 x.2 y.1 y.2 _ (hsubs m os dk)
  refine c.mono ?_;rintro e w' ⟨h', r, rfl, s, rfl⟩;exact ⟨rfl, bel_grow s.below⟩
 have hS' : SWO (ltOf cf') := ⟨fun x => hS.irrefl x.1, fun x y z => hS.trans x.1 y.1 z.1, fun x y z => hS.ntrans x.1 y.1 z.1⟩;have con := Any.slices_SortFunc LL enc' (fun x => ho x.1) cf' hS' g caps.toArray b 0 cap d w eg hC hH hlt (by rw [hdl]; exact hlen);rw [hdl] at con;refine con.mono ?_;rintro e w' ⟨he, d', n, os, ⟨p1, p2, p3⟩, hsort, rfl⟩;have hd' : d'.size = xs.length := by rw [p1, hdl]
 refine ⟨he, d'.toList.map (·.1), [(b, .cells (putCells enc' 0 d' cur) T)], _, rfl, ?_, ?_, ?_, ?_⟩
 ·have e3 : d'.extract 0 xs.length = d' := by rw [← hd']; simp
  have e4 : d.extract 0 xs.length = d := by rw [← hdl]; simp
  rw [e3, e4] at p3;have := p3.map (fun x : β => x.1);rwa [hmap] at this
 ·rw [List.pairwise_map, List.pairwise_iff_getElem];intro q r hq hr hqr;have := hsort q r (Nat.zero_le _) hqr (by simpa [hd'] using hr);rw [getElem!_pos d' r (by simpa using hr), getElem!_pos d' q (by simpa using hq)] at this;simp only [ltOf, decide_eq_false_iff_not, cf'] at this;simpa using this
 ·have hfc : d'.size ≤ cur.size := by rw [hd', hsz, hL, Nat.mul_one]; exact hnc
  refine ⟨d'.toList.map enc', ⟨by simp [hL], fun j x hj => ?_⟩, .inr ⟨b, cap, _, by simp [hd'], rfl, by simpa [hd'] using hnc, hcm, by simpa [putCells] using hsz, ?_⟩⟩
  ·rw [List.getElem?_map] at hj;obtain ⟨y, hy, rfl⟩ := Option.map_eq_some_iff.1 hj;rw [hL, Nat.mul_one];have hyl := (List.getElem?_eq_some_iff.1 hy).1;have e5 : ((d'.toList.map enc').drop j).take 1 = [enc y.1] := by
    rw [zgY (y := enc y.1) (by rw [List.getElem?_map, hy]; rfl)]; rfl
   rw [e5]; exact hRx y
  ·have := putCells_take1 (enc := enc') hfc;rw [hd'] at this;simpa [hd', hL] using this
 ·unfold sortWorld;rw [putRow_own1 hb];exact ((st.set (.cells (putCells enc' 0 d' cur) T) hi).same (w' := { w with drawn := w.drawn + n, heap := w.heap.setIfInBounds b (.cells (putCells enc' 0 d' cur) T) }) rfl rfl rfl rfl (Nat.le_add_right _ _)).grow os
end Go.Pk

namespace Go.Pk
open Go Go.RowKit Go.Proofs Go.Sort
theorem cmpT_lt (a b : Str) : decide (cmpT a b < 0) = sLt a b := by
 unfold cmpT
 by_cases h : sLt a b = true
 ·simp [h]
 rw [if_neg h];have h' : sLt a b = false := by simpa using h
 rw [h'];split <;> simp
theorem swo_cmpT : SWO (ltOf cmpT) := by
 have e : ltOf cmpT = sLt := by funext a b; exact cmpT_lt a b
 rw [e];refine ⟨zdJ.irrefl, zdJ.trans, fun a b c h1 h2 => ?_⟩
 by_cases hab : a = b
 ·subst hab; exact h2
 by_cases hbc : b = c
 ·subst hbc; exact h1
 have q1 := (zdJ.total a b hab).resolve_left (by rw [h1]; simp);have q2 := (zdJ.total b c hbc).resolve_left (by rw [h2]; simp);exact zdJ.asymm (zdJ.trans _ _ _ q2 q1)
def ziu (l : List Str) : List Str := l.mergeSort fun a b => !sLt b a
theorem sortedT_eq {ys xs : List Str} (hp : ys.Perm xs) (hw : ys.Pairwise fun a b => ¬ cmpT b a < 0) : ys = ziu xs := by
 have hw2 : ys.Pairwise fun a b => (!sLt b a) = true := hw.imp fun {a b} h => by rw [← cmpT_lt]; simpa using h
 have hs : (ziu xs).Pairwise fun a b => (!sLt b a) = true := by
  refine List.pairwise_mergeSort (fun a b c h1 h2 => ?_) (fun a b => ?_) xs
  ·by_cases hab : a = b
   ·subst hab; exact h2
   by_cases hbc : b = c
   ·subst hbc; exact h1
   have q1 := (zdJ.total a b hab).resolve_right (by simpa using h1);have q2 := (zdJ.total b c hbc).resolve_right (by simpa using h2);rw [zdJ.asymm (zdJ.trans _ _ _ q1 q2)]; rfl
  ·by_cases hab : a = b
   ·subst hab; simp [zdJ.irrefl]
   ·rcases zdJ.total a b hab with h | h
    ·rw [zdJ.asymm h]; simp
    ·rw [zdJ.asymm h]; simp
 refine List.Perm.eq_of_pairwise (le := fun a b => (!sLt b a) = true) (fun a b _ _ h1 h2 => ?_) hw2 hs (hp.trans (List.mergeSort_perm _ _).symm)
 by_cases hab : a = b
 ·exact hab
 rcases zdJ.total a b hab with h | h
 ·rw [h] at h2; cases h2
 rw [h] at h1; cases h1
theorem sortedT_vocab (t : Text) : ziu (zim ((zam t).map (zax t))) = zem t := by
 have hp : (ziu (zim ((zam t).map (zax t)))).Perm (zim ((zam t).map (zax t))) := List.mergeSort_perm _ _;refine sorted_vocab hp ?_;have hs : (ziu (zim ((zam t).map (zax t)))).Pairwise fun a b => (!sLt b a) = true := by
  refine List.pairwise_mergeSort (fun a b c h1 h2 => ?_) (fun a b => ?_) _
  ·by_cases hab : a = b
   ·subst hab; exact h2
   by_cases hbc : b = c
   ·subst hbc; exact h1
   have q1 := (zdJ.total a b hab).resolve_right (by simpa using h1);have q2 := (zdJ.total b c hbc).resolve_right (by simpa using h2);rw [zdJ.asymm (zdJ.trans _ _ _ q1 q2)]; rfl
  ·by_cases hab : a = b
   ·subst hab; simp [zdJ.irrefl]
   ·rcases zdJ.total a b hab with h | h
    ·rw [zdJ.asymm h]; simp
    ·rw [zdJ.asymm h]; simp
 refine hs.imp fun {a b} h => ?_
 by_cases hab : a = b
 ·exact .inr hab
 exact .inl ((zdJ.total a b hab).resolve_right (by simpa using h))
end Go.Pk

namespace Go.Pk
open Go Go.RowKit
variable {P : Program} {n : Nat} {σ : Env} {w : World}
end Go.Pk

namespace Go.Pk
open Go Go.RowKit
section
variable {κ υ : Type} {ek : κ → Value} {eu : υ → Value}
variable {P : Program} {n : Nat} {ops : Array Oper} {rest : List Oper} {K : Env → World → Prop} {σ : Env} {w w0 : World} {h0 h : Heap} {own : Own} {ty : TypeId} {pos : String} {aft : Array Edge} {d : Nat} {dst : Option Tmp} {g : Option (Nat × Bool)}
theorem OpsL.mapUpdateG [DecidableEq κ] {t kt et : TypeId} {x y z : Operand} {m : List (κ × υ)} {o : List (Nat × Obj)} {v : Value} {k : κ} {u : υ} {i : Nat} (st : St h0 w0 h w own) (hM : OM ek eu m o v) (hi : own[i]? = some o) (hn : (m.map (·.1)).Nodup) (hK : KeyG P kt ek) (ht : P.underlying t = some (.map kt et))
  (hx : ev σ x = v) (hy : ev σ y = ek k) (hz : ev σ z = eu u)
  (hk : ∀ o' w' own', own' = own.set i o' → OM ek eu (zdQ m k u) o' v → ((zdQ m k u).map (·.1)).Nodup → St h0 w0 h w' own' → OpsL P n ops rest K σ w') :
  OpsL P n ops (⟨none, .mapUpdate t x y z, ty, pos, aft, none⟩ :: rest) K σ w := by
 cases hl : zaV m k with
 | none => exact OpsL.mapInsertF st hM hi hn hK.toKeyF ht hl hx hy hz hk
 | some q =>
  obtain ⟨b, es, clock, rfl, rfl, hE, hB, hD⟩ := hM;have hb := st.get hi;have hg : (getObj b).run P w = .ok (.map es clock) w := by simp [getObj, Sem.run, hb]
  have hset : ∀ es' c', (setObj b (.map es' c')).run P w = .ok () { w with heap := w.heap.setIfInBounds b (.map es' c') } := by
   intro es' c';simp [setObj, Sem.run, hb]
  have hc := hK.check false k w;obtain ⟨j, hf, h2⟩ := findG hK.toKeyF (k := k) w hE hl;have hp : zdQ m k u = m.map fun p => if p.1 = k then (k, u) else p := by simp [zdQ, hl]
  have hkey : ((es[j]?).map (·.key)).getD (ek k) = ek k := by
   obtain ⟨e, h6, h7, _⟩ := Ent.getP hE h2;rw [← Array.getElem?_toList, h6]; simpa using h7
  refine zij rfl rfl (w' := { w with heap := w.heap.setIfInBounds b (.map (es.modify j fun e => { e with key := ek k, val := eu u }) clock) }) ?_ (hk _ _ _ rfl ⟨b, es.modify j fun e => { e with key := ek k, val := eu u }, clock, rfl, rfl, ?_, ?_, ?_⟩ ?_ (st.set _ hi))
  ·simp only [execOp, hx, hy, hz, Instr.mapUpdate, Sem.run_bind, run_underlying ht, Result.andThen_ok, hg, hc, hf, hkey, Instr.keyThatStays, hK.stays, if_true, hset, Sem.run_pure]
  ·rw [hp, Array.toList_modify]; exact hE.modify hn h2
  ·intro e he;rw [Array.toList_modify] at he;obtain ⟨i', hi'⟩ := List.mem_iff_getElem?.1 he;rw [List.getElem?_modify] at hi';cases h8 : es.toList[i']? with
   | none => simp [h8] at hi'
   | some e' =>
    simp only [h8, Option.map_some] at hi';have := hB e' (List.mem_of_getElem? h8);split at hi' <;> (cases hi'; exact this)
  ·have h9 : ((es.modify j fun e => { e with key := ek k, val := eu u }).toList.map (·.born)) = es.toList.map (·.born) := by
    rw [Array.toList_modify];apply List.ext_getElem?;intro i';rw [List.getElem?_map, List.getElem?_map, List.getElem?_modify];cases es.toList[i']? with
    | none => simp
    | some e => simp only [Option.map_some]; split <;> rfl
   rw [h9]; exact hD
  ·rw [hp];have : (m.map fun p => if p.1 = k then (k, u) else p).map (·.1) = m.map (·.1) := by
    rw [List.map_map];apply List.map_congr_left;intro p _;simp only [Function.comp];split
    ·rename_i e; exact e.symm
    ·rfl
   rw [this]; exact hn
end
end Go.Pk

namespace Go.Pk
open Go Go.RowKit
def LRaw : Lay Value := { size := 1, R := fun _ vs x => vs = [x] ∧ x.oneCell' = true, up := (fun h _ => h), len := (by rintro _ _ _ ⟨rfl, _⟩; rfl), one := (by rintro _ _ _ ⟨rfl, h⟩ u hu; simp only [List.mem_singleton] at hu; rw [hu]; exact h) }
theorem St.none {h0 h : Heap} {w0 w : World} {own : Own} {k b : Nat} {o : Obj} (st : St h0 w0 h w own) (hk : own[k]? = some [(b, o)]) : h b = none :=
 (st.mine (b, o) (List.mem_flatten.2 ⟨_, List.mem_of_getElem? hk, by simp⟩)).2.1
section
variable {α : Type} {L : Lay α} {T : TypeId} {h : Heap} {v : Value} {xs : List (List α)} {o : List (Nat × Obj)}
theorem OSl.raw (e : OSl (LSl L) T h v xs o) : ∃ hds, OSl LRaw T h v hds o ∧ hds.length = xs.length ∧ ∀ (i : Nat) (hd : Value) (x : List α), hds[i]? = some hd → xs[i]? = some x → Sl L h hd x := by
 obtain ⟨cs, e1, e2⟩ := e;have hsz : (LSl L).size = 1 := rfl;have hl : cs.length = xs.length := by rw [e1.1, hsz, Nat.mul_one]
 have hc : ∀ (i : Nat) (x : List α), xs[i]? = some x → ∃ hd, cs[i]? = some hd ∧ Sl L h hd x := by
  intro i x hx;have hr := e1.2 i x hx;have hi := (List.getElem?_eq_some_iff.1 hx).1;have e3 : List.take 1 (List.drop (i * 1) cs) = [cs[i]'zD] := by
   rw [Nat.mul_one, List.drop_eq_getElem_cons zD]; rfl
  rw [hsz, e3] at hr;refine ⟨_, List.getElem?_eq_getElem zD, ?_⟩;simpa [LSl] using hr
 refine ⟨cs, ⟨cs, ⟨by simp [LRaw], fun i x hx => ?_⟩, ?_⟩, hl, fun i hd x h1 h2 => ?_⟩
 ·obtain ⟨hi, rfl⟩ := List.getElem?_eq_some_iff.1 hx;obtain ⟨hd, q1, q2⟩ := hc i _ (List.getElem?_eq_getElem zD);have q3 : cs[i] = hd := by rw [List.getElem?_eq_getElem hi] at q1; exact Option.some.inj q1
  refine ⟨?_, by rw [q3]; exact q2.one⟩;show List.take 1 (List.drop (i * 1) cs) = [cs[i]];rw [Nat.mul_one, List.drop_eq_getElem_cons hi]; rfl
 ·rcases e2 with ⟨p, q, z⟩ | ⟨g, cap, cur, q1, q2, q3, q4, q5, q6⟩
  ·subst q;exact .inl ⟨p, List.eq_nil_of_length_eq_zero (by simpa using hl), z⟩
  ·exact .inr ⟨g, cap, cur, by rw [q1, hl], q2, by rw [hl]; exact q3, q4, by rw [q5]; rfl, by rw [hl]; exact q6⟩
 obtain ⟨hd', q1, q2⟩ := hc i x h2;rw [h1] at q1; cases q1; exact q2
theorem OSl.unraw {hds : List Value} (e : OSl LRaw T h v hds o) (hl : hds.length = xs.length) (hh : ∀ (i : Nat) (hd : Value) (x : List α), hds[i]? = some hd → xs[i]? = some x → Sl L h hd x) : OSl (LSl L) T h v xs o := by
 obtain ⟨cs, e1, e2⟩ := e;refine ⟨cs, ⟨by rw [e1.1, hl]; rfl, fun i x hx => ?_⟩, ?_⟩
 ·have hi := (List.getElem?_eq_some_iff.1 hx).1;obtain ⟨hd, q⟩ : ∃ hd, hds[i]? = some hd := ⟨_, List.getElem?_eq_getElem zD⟩;obtain ⟨r1, _⟩ := e1.2 i hd q;have := hh i hd x q hx;show (LSl L).R h (List.take 1 (List.drop (i * 1) cs)) x;rw [show List.take 1 (List.drop (i * 1) cs) = [hd] from r1];simpa [LSl] using this
 rcases e2 with ⟨p, q, z⟩ | ⟨g, cap, cur, q1, q2, q3, q4, q5, q6⟩
 ·subst q;exact .inl ⟨p, List.eq_nil_of_length_eq_zero (by simpa using hl.symm), z⟩
 exact .inr ⟨g, cap, cur, by rw [q1, hl], q2, by rw [← hl]; exact q3, q4, by rw [q5]; rfl, by rw [← hl]; exact q6⟩
theorem raw_snoc {h' : Heap} {hds : List Value} {hd : Value} {x : List α} (l : Le h h') (hl : hds.length = xs.length) (hh : ∀ (i : Nat) (hd : Value) (x : List α), hds[i]? = some hd → xs[i]? = some x → Sl L h hd x) (hx : Sl L h' hd x) :
  (hds ++ [hd]).length = (xs ++ [x]).length ∧ ∀ (i : Nat) (hd' : Value) (x' : List α), (hds ++ [hd])[i]? = some hd' → (xs ++ [x])[i]? = some x' → Sl L h' hd' x' := by
 refine ⟨by simp [hl], fun i hd' x' e1 e2 => ?_⟩
 rcases get_snoc e1 with e1 | ⟨e1, rfl⟩
 ·have := (List.getElem?_eq_some_iff.1 e1).1;rw [List.getElem?_append_left zD] at e2;exact (hh i hd' x' e1 e2).up l
 ·rcases get_snoc e2 with e2 | ⟨_, rfl⟩
  ·have := (List.getElem?_eq_some_iff.1 e2).1; omega
  ·exact hx
end
end Go.Pk

namespace Go.Pk
open Go Go.RowKit
theorem reads_Place {P : Program} {W : World} {t : TypeId} {fs : Array Field} (hu : P.underlying t = some (.struct fs)) (hc : P.cellsOf t = 3) {f0 : Field} (h0 : fs[0]? = some f0) (o0 : f0.offset = 0) (n0 : P.cellsOf f0.type = 1) (r0 : Reads P W f0.type LInt) {f1 : Field} (h1 : fs[1]? = some f1) (o1 : f1.offset = 1) (n1 : P.cellsOf f1.type = 1) (r1 : Reads P W f1.type LInt) {f2 : Field} (h2 : fs[2]? = some f2) (o2 : f2.offset = 2) (n2 : P.cellsOf f2.type = 1) (r2 : Reads P W f2.type LInt) : Reads P W t LPlace := by
 intro H enc sp held fuel cs d ps h hw;obtain ⟨hl, hf⟩ := zec hu hc h hw
 match cs, hl with
 | [c0, c1, c2], _ =>
 obtain ⟨x0, e0⟩ := hf 0 f0 h0 r0;rw [o0, n0] at e0;simp only [List.drop_succ_cons, List.drop_zero, List.take_succ_cons, List.take_zero] at e0;cases (show [c0] = [_] from e0);obtain ⟨x1, e1⟩ := hf 1 f1 h1 r1;rw [o1, n1] at e1;simp only [List.drop_succ_cons, List.drop_zero, List.take_succ_cons, List.take_zero] at e1;cases (show [c1] = [_] from e1);obtain ⟨x2, e2⟩ := hf 2 f2 h2 r2;rw [o2, n2] at e2;simp only [List.drop_succ_cons, List.drop_zero, List.take_succ_cons, List.take_zero] at e2;cases (show [c2] = [_] from e2);exact ⟨⟨x0, x1, x2⟩, rfl⟩
theorem reads_Chapter {P : Program} {W : World} {t : TypeId} {fs : Array Field} (hu : P.underlying t = some (.struct fs)) (hc : P.cellsOf t = 2) {f0 : Field} (h0 : fs[0]? = some f0) (o0 : f0.offset = 0) (n0 : P.cellsOf f0.type = 1) (r0 : Reads P W f0.type LInt) {f1 : Field} (h1 : fs[1]? = some f1) (o1 : f1.offset = 1) (n1 : P.cellsOf f1.type = 1) (r1 : Reads P W f1.type (LSl (LSl LStr))) : Reads P W t LChapter := by
 intro H enc sp held fuel cs d ps h hw;obtain ⟨hl, hf⟩ := zec hu hc h hw
 match cs, hl with
 | [c0, c1], _ =>
 obtain ⟨x0, e0⟩ := hf 0 f0 h0 r0;rw [o0, n0] at e0;simp only [List.drop_succ_cons, List.drop_zero, List.take_succ_cons, List.take_zero] at e0;cases (show [c0] = [_] from e0);obtain ⟨x1, e1⟩ := hf 1 f1 h1 r1;rw [o1, n1] at e1;simp only [List.drop_succ_cons, List.drop_zero, List.take_succ_cons, List.take_zero] at e1;obtain ⟨v1, q1, g1⟩ := e1;cases q1;exact ⟨⟨x0, x1⟩, ⟨_, rfl, g1⟩⟩
theorem reads_Text {P : Program} {W : World} {t : TypeId} {fs : Array Field} (hu : P.underlying t = some (.struct fs)) (hc : P.cellsOf t = 1) {f0 : Field} (h0 : fs[0]? = some f0) (o0 : f0.offset = 0) (n0 : P.cellsOf f0.type = 1) (r0 : Reads P W f0.type (LSl LChapter)) : Reads P W t LText := by
 intro H enc sp held fuel cs d ps h hw;obtain ⟨hl, hf⟩ := zec hu hc h hw
 match cs, hl with
 | [c0], _ =>
 obtain ⟨x0, e0⟩ := hf 0 f0 h0 r0;rw [o0, n0] at e0;simp only [List.drop_succ_cons, List.drop_zero, List.take_succ_cons, List.take_zero] at e0;obtain ⟨v0, q0, g0⟩ := e0;cases q0;exact ⟨⟨x0⟩, ⟨_, rfl, g0⟩⟩
theorem reads_Head {P : Program} {W : World} {t : TypeId} {fs : Array Field} (hu : P.underlying t = some (.struct fs)) (hc : P.cellsOf t = 2) {f0 : Field} (h0 : fs[0]? = some f0) (o0 : f0.offset = 0) (n0 : P.cellsOf f0.type = 1) (r0 : Reads P W f0.type LStr) {f1 : Field} (h1 : fs[1]? = some f1) (o1 : f1.offset = 1) (n1 : P.cellsOf f1.type = 1) (r1 : Reads P W f1.type LU8) : Reads P W t LHead := by
 intro H enc sp held fuel cs d ps h hw;obtain ⟨hl, hf⟩ := zec hu hc h hw
 match cs, hl with
 | [c0, c1], _ =>
 obtain ⟨x0, e0⟩ := hf 0 f0 h0 r0;rw [o0, n0] at e0;simp only [List.drop_succ_cons, List.drop_zero, List.take_succ_cons, List.take_zero] at e0;obtain ⟨q0, g0⟩ := e0;cases q0;obtain ⟨x1, e1⟩ := hf 1 f1 h1 r1;rw [o1, n1] at e1;simp only [List.drop_succ_cons, List.drop_zero, List.take_succ_cons, List.take_zero] at e1;obtain ⟨q1, g1⟩ := e1;cases q1;exact ⟨⟨x0, x1⟩, ⟨rfl, g0, g1⟩⟩
theorem reads_Rule {P : Program} {W : World} {t : TypeId} {fs : Array Field} (hu : P.underlying t = some (.struct fs)) (hc : P.cellsOf t = 3) {f0 : Field} (h0 : fs[0]? = some f0) (o0 : f0.offset = 0) (n0 : P.cellsOf f0.type = 1) (r0 : Reads P W f0.type LStr) {f1 : Field} (h1 : fs[1]? = some f1) (o1 : f1.offset = 1) (n1 : P.cellsOf f1.type = 1) (r1 : Reads P W f1.type LStr) {f2 : Field} (h2 : fs[2]? = some f2) (o2 : f2.offset = 2) (n2 : P.cellsOf f2.type = 1) (r2 : Reads P W f2.type LInt) : Reads P W t LRule := by
 intro H enc sp held fuel cs d ps h hw;obtain ⟨hl, hf⟩ := zec hu hc h hw
 match cs, hl with
 | [c0, c1, c2], _ =>
 obtain ⟨x0, e0⟩ := hf 0 f0 h0 r0;rw [o0, n0] at e0;simp only [List.drop_succ_cons, List.drop_zero, List.take_succ_cons, List.take_zero] at e0;obtain ⟨q0, g0⟩ := e0;cases q0;obtain ⟨x1, e1⟩ := hf 1 f1 h1 r1;rw [o1, n1] at e1;simp only [List.drop_succ_cons, List.drop_zero, List.take_succ_cons, List.take_zero] at e1;obtain ⟨q1, g1⟩ := e1;cases q1;obtain ⟨x2, e2⟩ := hf 2 f2 h2 r2;rw [o2, n2] at e2;simp only [List.drop_succ_cons, List.drop_zero, List.take_succ_cons, List.take_zero] at e2;cases (show [c2] = [_] from e2);exact ⟨⟨x0, x1, x2⟩, ⟨rfl, g0, g1⟩⟩
theorem reads_Decision {P : Program} {W : World} {t : TypeId} {fs : Array Field} (hu : P.underlying t = some (.struct fs)) (hc : P.cellsOf t = 9) {f0 : Field} (h0 : fs[0]? = some f0) (o0 : f0.offset = 0) (n0 : P.cellsOf f0.type = 1) (r0 : Reads P W f0.type LInt) {f1 : Field} (h1 : fs[1]? = some f1) (o1 : f1.offset = 1) (n1 : P.cellsOf f1.type = 1) (r1 : Reads P W f1.type LU8) {f2 : Field} (h2 : fs[2]? = some f2) (o2 : f2.offset = 2) (n2 : P.cellsOf f2.type = 1) (r2 : Reads P W f2.type LStr) {f3 : Field} (h3 : fs[3]? = some f3) (o3 : f3.offset = 3) (n3 : P.cellsOf f3.type = 3) (r3 : Reads P W f3.type LPlace) {f4 : Field} (h4 : fs[4]? = some f4) (o4 : f4.offset = 6) (n4 : P.cellsOf f4.type = 2) (r4 : Reads P W f4.type LHead) {f5 : Field} (h5 : fs[5]? = some f5) (o5 : f5.offset = 8) (n5 : P.cellsOf f5.type = 1) (r5 : Reads P W f5.type LInt) : Reads P W t LDecision := by
 intro H enc sp held fuel cs d ps h hw;obtain ⟨hl, hf⟩ := zec hu hc h hw
 match cs, hl with
 | [c0, c1, c2, c3, c4, c5, c6, c7, c8], _ =>
 obtain ⟨x0, e0⟩ := hf 0 f0 h0 r0;rw [o0, n0] at e0;simp only [List.drop_succ_cons, List.drop_zero, List.take_succ_cons, List.take_zero] at e0;cases (show [c0] = [_] from e0);obtain ⟨x1, e1⟩ := hf 1 f1 h1 r1;rw [o1, n1] at e1;simp only [List.drop_succ_cons, List.drop_zero, List.take_succ_cons, List.take_zero] at e1;obtain ⟨q1, g1⟩ := e1;cases q1;obtain ⟨x2, e2⟩ := hf 2 f2 h2 r2;rw [o2, n2] at e2;simp only [List.drop_succ_cons, List.drop_zero, List.take_succ_cons, List.take_zero] at e2;obtain ⟨q2, g2⟩ := e2;cases q2;obtain ⟨x3, e3⟩ := hf 3 f3 h3 r3;rw [o3, n3] at e3;simp only [List.drop_succ_cons, List.drop_zero, List.take_succ_cons, List.take_zero] at e3;have q3 := e3;cases (show [c3, c4, c5] = _ from q3);obtain ⟨x4, e4⟩ := hf 4 f4 h4 r4;rw [o4, n4] at e4;simp only [List.drop_succ_cons, List.drop_zero, List.take_succ_cons, List.take_zero] at e4;obtain ⟨q4, g4_0, g4_1⟩ := e4;cases (show [c6, c7] = _ from q4);obtain ⟨x5, e5⟩ := hf 5 f5 h5 r5;rw [o5, n5] at e5;simp only [List.drop_succ_cons, List.drop_zero, List.take_succ_cons, List.take_zero] at e5;cases (show [c8] = [_] from e5);exact ⟨⟨x0, x1, x2, x3, x4, x5⟩, ⟨rfl, g1, g2, g4_0, g4_1⟩⟩
theorem reads_Lexicon {P : Program} {W : World} {t : TypeId} {fs : Array Field} (hu : P.underlying t = some (.struct fs)) (hc : P.cellsOf t = 2) {f0 : Field} (h0 : fs[0]? = some f0) (o0 : f0.offset = 0) (n0 : P.cellsOf f0.type = 1) (r0 : Reads P W f0.type (LSl LRule)) {f1 : Field} (h1 : fs[1]? = some f1) (o1 : f1.offset = 1) (n1 : P.cellsOf f1.type = 1) (r1 : Reads P W f1.type (LSl LDecision)) : Reads P W t LLexicon := by
 intro H enc sp held fuel cs d ps h hw;obtain ⟨hl, hf⟩ := zec hu hc h hw
 match cs, hl with
 | [c0, c1], _ =>
 obtain ⟨x0, e0⟩ := hf 0 f0 h0 r0;rw [o0, n0] at e0;simp only [List.drop_succ_cons, List.drop_zero, List.take_succ_cons, List.take_zero] at e0;obtain ⟨v0, q0, g0⟩ := e0;cases q0;obtain ⟨x1, e1⟩ := hf 1 f1 h1 r1;rw [o1, n1] at e1;simp only [List.drop_succ_cons, List.drop_zero, List.take_succ_cons, List.take_zero] at e1;obtain ⟨v1, q1, g1⟩ := e1;cases q1;exact ⟨⟨x0, x1⟩, ⟨_, _, rfl, g0, g1⟩⟩
end Go.Pk

namespace Go.Pk
open Go Go.RowKit
theorem reads_Reading {P : Program} {W : World} {t : TypeId} {fs : Array Field} (hu : P.underlying t = some (.struct fs)) (hc : P.cellsOf t = 5) {f0 : Field} (h0 : fs[0]? = some f0) (o0 : f0.offset = 0) (n0 : P.cellsOf f0.type = 3) (r0 : Reads P W f0.type LPlace) {f1 : Field} (h1 : fs[1]? = some f1) (o1 : f1.offset = 3) (n1 : P.cellsOf f1.type = 1) (r1 : Reads P W f1.type LU8) {f2 : Field} (h2 : fs[2]? = some f2) (o2 : f2.offset = 4) (n2 : P.cellsOf f2.type = 1) (r2 : Reads P W f2.type LStr) : Reads P W t LReading := by
 intro H enc sp held fuel cs d ps h hw;obtain ⟨hl, hf⟩ := zec hu hc h hw
 match cs, hl with
 | [c0, c1, c2, c3, c4], _ =>
 obtain ⟨x0, e0⟩ := hf 0 f0 h0 r0;rw [o0, n0] at e0;simp only [List.drop_succ_cons, List.drop_zero, List.take_succ_cons, List.take_zero] at e0;have q0 := e0;cases (show [c0, c1, c2] = _ from q0);obtain ⟨x1, e1⟩ := hf 1 f1 h1 r1;rw [o1, n1] at e1;simp only [List.drop_succ_cons, List.drop_zero, List.take_succ_cons, List.take_zero] at e1;obtain ⟨q1, g1⟩ := e1;cases q1;obtain ⟨x2, e2⟩ := hf 2 f2 h2 r2;rw [o2, n2] at e2;simp only [List.drop_succ_cons, List.drop_zero, List.take_succ_cons, List.take_zero] at e2;obtain ⟨q2, g2⟩ := e2;cases q2;exact ⟨⟨x0, x1, x2⟩, ⟨rfl, g1, g2⟩⟩
theorem reads_Copy {P : Program} {W : World} {t : TypeId} {fs : Array Field} (hu : P.underlying t = some (.struct fs)) (hc : P.cellsOf t = 2) {f0 : Field} (h0 : fs[0]? = some f0) (o0 : f0.offset = 0) (n0 : P.cellsOf f0.type = 1) (r0 : Reads P W f0.type LInt) {f1 : Field} (h1 : fs[1]? = some f1) (o1 : f1.offset = 1) (n1 : P.cellsOf f1.type = 1) (r1 : Reads P W f1.type (LSl LReading)) : Reads P W t LCopy := by
 intro H enc sp held fuel cs d ps h hw;obtain ⟨hl, hf⟩ := zec hu hc h hw
 match cs, hl with
 | [c0, c1], _ =>
 obtain ⟨x0, e0⟩ := hf 0 f0 h0 r0;rw [o0, n0] at e0;simp only [List.drop_succ_cons, List.drop_zero, List.take_succ_cons, List.take_zero] at e0;cases (show [c0] = [_] from e0);obtain ⟨x1, e1⟩ := hf 1 f1 h1 r1;rw [o1, n1] at e1;simp only [List.drop_succ_cons, List.drop_zero, List.take_succ_cons, List.take_zero] at e1;obtain ⟨v1, q1, g1⟩ := e1;cases q1;exact ⟨⟨x0, x1⟩, ⟨_, rfl, g1⟩⟩
theorem zit {H : Type} {enc : TypeId × Value → H} {P : Program} {W : World} {base : Nat} {sp : Nat → Bool} {held : Bool} {t : TypeId} {fuel : Nat} {v : Value} {b : Int} {q : List MemPlace} (hu : P.underlying t = some (.int .i64)) (h : DataW.trod enc P W base sp held fuel t [v] = some (.lit (.int .i64 b), q)) : v = .int .i64 b := by
 obtain ⟨n, e1, e2, _⟩ := DataW.trod_int hu h;simp_all
end Go.Pk

namespace Go.Pk
open Go Go.RowKit
theorem RPost.ret {α : Type} {I : List α → Heap → Own → Prop} {Ix : Code → List α → Heap → Own → Prop} {h0 h2 h3 : Heap} {w0 : World} {xs : List α} {own3 tail : Own} {s : VS} {w4 : World} (le : Le h2 h3) (st : St h0 w0 h3 w4 (own3 ++ tail)) (hI : Ix .ret xs h3 own3) : RPost I Ix h0 w0 h2 xs tail .ret s w4 := ⟨h3, own3, le, st, hI⟩
end Go.Pk

namespace Go.Pk
open Go Go.RowKit Go.ChangeShapes Go.WideShapes Go.ChangeAt
def LU32 : Lay Int := { size := 1, R := fun _ vs x => vs = [.int .u32 x] ∧ 0 ≤ x ∧ x ≤ 4294967295, up := fun h _ => h, len := by rintro _ _ _ ⟨rfl, _⟩; rfl, one := by rintro _ _ _ ⟨rfl, _⟩ u hu; simp at hu; subst hu; rfl }
section
variable {P : Program} {W : World} {t : TypeId}
theorem zjo {H : Type} {enc : TypeId × Value → H} {sp : Nat → Bool} {held : Bool} {r : Reach} {base : Nat} {v : Value} {d : DataW H} {ps : List MemPlace} (hu : P.underlying t = some (.int .u16)) (hok : Value.okWide P W r base t v) (h : DataW.Trod enc P W 0 sp held t v d ps) :
  ∃ n : Int, v = .int .u16 n ∧ 0 ≤ n ∧ n ≤ 65535 := by
 obtain ⟨n, rfl, _, _, hw⟩ := open_int hu hok h;simp [Lit.wf, IntKind.min, IntKind.max, IntKind.bits, IntKind.signed] at hw;exact ⟨n, rfl, by omega⟩
end
end Go.Pk

namespace Go.Pk
open Go Go.RowKit
theorem St.mid {h0 h : Heap} {w0 w : World} {A rest : Own} {o : List (Nat × Obj)} (st : St h0 w0 h w ((A ++ rest) ++ [o])) : St h0 w0 h w (A ++ o :: rest) := by
 refine st.perm ?_;rw [List.append_assoc];exact (List.perm_append_comm (l₁ := rest) (l₂ := [o])).append_left A
theorem St.over {h0 h h' : Heap} {w0 w w' : World} {own rest : Own} (a : St h0 w0 h w rest) (b : St h w h' w' own) : St h0 w0 h' w' rest := a.call0 (b.take 0)
theorem St.keep {h0 h h' : Heap} {w0 w w' : World} {own rest : Own} (a : St h0 w0 h w rest) (b : St h w h' w' own) : St h0 w0 h' w' (own ++ rest) := (a.call b).perm List.perm_append_comm
def GivesA {α : Type} (P : Program) (gf : FuncId) (caps : List Value) (A : List α → Heap → Value → α → Prop) (S : List α → Prop) (h : Heap) : Prop :=
 ∀ h0 w0 h', Le h h' → GivesG P gf caps (fun pre h us x => ∃ u, us = [u] ∧ A pre h u x) S h0 w0 h'
theorem GivesA.up {α : Type} {P : Program} {gf : FuncId} {caps : List Value} {A : List α → Heap → Value → α → Prop} {S : List α → Prop} {h h' : Heap} (g : GivesA P gf caps A S h) (le : Le h h') : GivesA P gf caps A S h' :=
 fun h0 w0 h1 l1 => g h0 w0 h1 (le.trans l1)
end Go.Pk

namespace Go.Pk
open Go Go.RowKit
theorem St.twoEnd {h0 h : Heap} {w0 w : World} {X : Own} {a b : List (Nat × Obj)} (st : St h0 w0 h w (X ++ [a] ++ [b])) : St h0 w0 h w (X ++ [a, b]) := by simpa using st
def GivesXA {α : Type} (P : Program) (gf : FuncId) (caps : List Value) (A : List α → Heap → Value → α → Prop) (S : List α → Prop) (X : Own) (h : Heap) : Prop :=
 ∀ h0 w0 h', Le h h' → GivesX P gf caps (fun pre h us x => ∃ u, us = [u] ∧ A pre h u x) S X h0 w0 h'
theorem GivesXA.up {α : Type} {P : Program} {gf : FuncId} {caps : List Value} {A : List α → Heap → Value → α → Prop} {S : List α → Prop} {X : Own} {h h' : Heap} (g : GivesXA P gf caps A S X h) (le : Le h h') : GivesXA P gf caps A S X h' :=
 fun h0 w0 h1 l1 => g h0 w0 h1 (le.trans l1)
theorem V.rangeFuncPX {α : Type} {P : Program} {n : Nat} {Q : Exit → VS → World → Prop} {A : List α → Heap → Value → α → Prop} {g : Operand} {p : Tmp} {assign body : Code} {σ : Env} {w : World} {gf : FuncId} {caps : List Value} {S : List α → Prop} {h0 h : Heap} {w0 : World} {X own : Own}
  (st : St h0 w0 h w (X ++ own)) (hg : ev σ g = .func (.func gf) #[] caps.toArray) (eg : ∀ a w, (callFunc gf a).run P w = .ok (.enter gf a) w) (hp : Nat.blt p n = true)
  (seq : GivesX P gf caps (fun pre h us x => ∃ u, us = [u] ∧ A pre h u x) S X h0 w0 h) (I : List α → Heap → Own → Prop) (Ix : Code → List α → Heap → Own → Prop)
  (hI : ∀ xs h1 h2 o, I xs h1 o → Le h1 h2 → I xs h2 o) (hIx : ∀ c xs h1 h2 o, Ix c xs h1 o → Le h1 h2 → Ix c xs h2 o) (h00 : I [] h own)
  (hround : ∀ (l : Nat) pre x h1 w1 own1 tail u, Le h h1 → I pre h1 own1 → St h0 w0 h1 w1 (own1 ++ tail) → A pre h1 u x →
   V { Fence.wide with round := some l } P n assign (APost { Fence.wide with round := some l } P n body I Ix h0 w0 h1 (pre ++ [x]) tail) ([], upd σ p u) w1)
  (hdone : ∀ D xs h' w' own', Le h h' → S xs → I xs h' own' → St h0 w0 h' w' (own' ++ [[(D, .deferred (some []))]]) → Q .normal ([{ target := .collected D, args := #[] }], σ) w')
  (hstop : ∀ D c pre h' w' own', Le h h' → Ix c pre h' own' → St h0 w0 h' w' (own' ++ [[(D, .deferred (some []))]]) → V Fence.wide P n c Q ([{ target := .collected D, args := #[] }], σ) w') :
  V Fence.wide P n (.rangeFunc g #[p] assign body) Q ([], σ) w := by
 refine V.rangeFuncX (up := fun us => upd σ p (us.headD undef)) st hg eg ?_ (by rintro _ _ _ _ ⟨u, rfl, _⟩; rfl) seq I Ix hI hIx h00 ?_ hdone hstop
 ·rintro a pre us h x hf ⟨u, rfl, _⟩;have h2 := hf.bare.put (d := some p) (by exact hp) u;have e1 : (#[p].zip [u].toArray).foldl (fun tmps (x : Nat × Value) => tmps.setIfInBounds x.1 x.2) a.tmps = a.tmps.setIfInBounds p u := by simp
  show FitsD [] n ({ tmps := (#[p].zip [u].toArray).foldl (fun tmps (x : Nat × Value) => tmps.setIfInBounds x.1 x.2) a.tmps, defers := [] } : Act) (upd σ p u);rw [e1]; exact ⟨h2.size, rfl, h2.at_⟩
 ·rintro l pre x h1 w1 own1 tail us a b c ⟨u, rfl, d⟩;exact hround l pre x h1 w1 own1 tail u a b c d
end Go.Pk
