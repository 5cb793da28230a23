/- REGIONS THAT DRAW THEIR ORDER AND MAKE OR TURN MEMORY. Operations are of three kinds: floating ones (they leave a value and frozen facts behind), allocations of the walk's own, and a chain (stores and the like) that comes behind all allocations and goes in one order. Whatever order is drawn, all of it holds at the end. -/
import Derived.Test.YtngmpkoobdkeiaaGreatDoorMap
import Derived.Orders
namespace Go.Pk
open Go Go.RowKit
structure PF where
  G : Type
  val : G → Value
  fact : G → Heap → Prop
  up : ∀ g h h', fact g h → Le h h' → fact g h'
def PF.holds (p : PF) (h : Heap) (v : Value) : Prop := ∃ g, v = p.val g ∧ p.fact g h
theorem PF.holds_up {p : PF} {h h' : Heap} {v : Value} (hh : p.holds h v) (hl : Le h h') : p.holds h' v := by
  obtain ⟨g, e, f⟩ := hh
  exact ⟨g, e, p.up _ _ _ f hl⟩
def PF.det (v : Value) : PF := ⟨Unit, fun _ => v, fun _ _ => True, fun _ _ _ _ _ => trivial⟩
def AllDeps (h : Heap) : List (Nat × PF) → (List (Nat × Value) → Prop) → Prop
  | [], k => k []
  | (d, p) :: l, k => ∀ g, p.fact g h → AllDeps h l (fun vs => k ((d, p.val g) :: vs))
theorem AllDeps.use {h : Heap} {α : Env} : ∀ {l : List (Nat × PF)} {k : List (Nat × Value) → Prop}, AllDeps h l k → (∀ q ∈ l, q.2.holds h (α q.1)) → ∃ vs, k vs ∧ Has α vs
  | [], _, hk, _ => ⟨[], hk, trivial⟩
  | (d, p) :: l, k, hk, hh => by
    obtain ⟨g, e, hf⟩ := hh (d, p) (List.mem_cons_self ..)
    obtain ⟨vs, h1, h2⟩ := AllDeps.use (hk g hf) (fun q hq => hh q (List.mem_cons_of_mem _ hq))
    exact ⟨_, h1, e, h2⟩
theorem St.insert {h0 h : Heap} {w0 w : World} {own : Own} (st : St h0 w0 h w own) {k : Nat} (hk : own[k]? = some []) (o : Obj) : St h0 w0 h (w.alloc o) (own.set k [(w.heap.size, o)]) := by
  have hlt : k < own.length := by
    rcases Nat.lt_or_ge k own.length with h1 | h1
    · exact h1
    · rw [List.getElem?_eq_none h1] at hk; cases hk
  have hsplit : own = own.take k ++ [] :: own.drop (k + 1) := by
    have h1 : own[k] = [] := by rw [List.getElem?_eq_getElem hlt] at hk; simpa using hk
    rw [← h1, List.getElem_cons_drop hlt, List.take_append_drop]
  have hset : own.set k [(w.heap.size, o)] = own.take k ++ [(w.heap.size, o)] :: own.drop (k + 1) := by
    rw [List.set_eq_take_append_cons_drop, if_pos hlt]
  have hflat' : own.flatten = (own.take k).flatten ++ (own.drop (k + 1)).flatten := by
    have e := congrArg List.flatten hsplit
    simpa using e
  have hflat : (own.set k [(w.heap.size, o)]).flatten = (own.take k).flatten ++ (w.heap.size, o) :: (own.drop (k + 1)).flatten := by rw [hset]; simp
  have hold : ∀ p ∈ own.flatten, p.1 < w.heap.size := fun p hp => lt_of_some (st.mine p hp).1
  have hnd := st.nodup
  rw [hflat', List.map_append, List.nodup_append] at hnd
  obtain ⟨n1, n2, n3⟩ := hnd
  refine ⟨st.le, st.new, fun b o' hb => ?_, st.below.alloc st.below.size o, fun p hp => ?_, ?_⟩
  · rw [heap_alloc_old _ _ _ (lt_of_some (st.sub b o' hb))]; exact st.sub b o' hb
  · rw [hflat, List.mem_append, List.mem_cons] at hp
    have hcase : p = (w.heap.size, o) ∨ p ∈ own.flatten := by
      rw [hflat', List.mem_append]
      rcases hp with hp | hp | hp
      · exact .inr (.inl hp)
      · exact .inl hp
      · exact .inr (.inr hp)
    rcases hcase with rfl | hp'
    · exact ⟨heap_alloc_new w o, none_of_ge st.sub (Nat.le_refl _), st.below.size⟩
    · obtain ⟨a1, a2, a3⟩ := st.mine p hp'
      exact ⟨by rw [heap_alloc_old _ _ _ (lt_of_some a1)]; exact a1, a2, a3⟩
  · rw [hflat, List.map_append, List.map_cons, List.nodup_append, List.nodup_cons]
    have hnot : ∀ q ∈ own.flatten, q.1 ≠ w.heap.size := fun q hq => Nat.ne_of_lt (hold q hq)
    refine ⟨n1, ⟨fun hm => ?_, n2⟩, fun a ha c hc e => ?_⟩
    · obtain ⟨q, hq, e⟩ := List.mem_map.1 hm
      exact hnot q (by rw [hflat', List.mem_append]; exact .inr hq) e
    · rw [List.mem_cons] at hc
      rcases hc with hc | hc
      · obtain ⟨q, hq, e'⟩ := List.mem_map.1 ha
        exact hnot q (by rw [hflat', List.mem_append]; exact .inl hq) (by rw [e', e, hc])
      · exact n3 a ha c hc e
def dd : List Nat → List Nat
  | [] => []
  | i :: l => bif inL (dd l) i then dd l else i :: dd l
theorem inL_iff {l : List Nat} {i : Nat} : inL l i = true ↔ i ∈ l := by
  induction l with
  | nil => simp [inL]
  | cons d l ih =>
    simp only [inL, List.mem_cons]
    cases e : Nat.beq i d with
    | true => simp [Nat.eq_of_beq_eq_true e]
    | false =>
      have : i ≠ d := fun q => by subst q; simp at e
      simp [this, ih]
theorem dd_mem {l : List Nat} {i : Nat} (h : i ∈ dd l) : i ∈ l := by
  induction l with
  | nil => simp [dd] at h
  | cons c l ih2 =>
    simp only [dd] at h
    cases e2 : inL (dd l) c with
    | true => rw [e2] at h; exact List.mem_cons_of_mem _ (ih2 h)
    | false =>
      rw [e2] at h
      simp only [cond_false, List.mem_cons] at h ⊢
      exact h.imp id ih2

def bnd (o : Oper) : List Nat := (o.after.toList.filter (Region.binds .any)).map (·.on)
theorem mem_bnd {o : Oper} {i : Nat} : i ∈ bnd o ↔ ∃ e ∈ o.after.toList, Region.binds .any e = true ∧ e.on = i := by
  unfold bnd
  rw [List.mem_map]
  constructor
  · rintro ⟨e, he, rfl⟩; rw [List.mem_filter] at he; exact ⟨e, he.1, he.2, rfl⟩
  · rintro ⟨e, he, hb, rfl⟩; exact ⟨e, List.mem_filter.2 ⟨he, hb⟩, rfl⟩
inductive Kd where
  | flt (p : PF)
  | al (z : Obj)
  | ch
def fltOf : Nat × Kd → Option (Nat × PF)
  | (d, .flt p) => some (d, p)
  | _ => none
theorem fltOf_some {q : Nat × Kd} {r : Nat × PF} (h : fltOf q = some r) : q = (r.1, .flt r.2) := by
  rcases q with ⟨d, p | z | _⟩ <;> simp [fltOf] at h
  subst h; rfl
def depsOf (o : Oper) : List Nat := dd (bnd o)
def dstOf (o : Oper) : Nat := o.dst.getD 0
def depsIn (ks : List (Nat × Kd)) (o : Oper) : List (Nat × PF) := (depsOf o).filterMap fun i => (ks[i]?).bind fltOf
def ptrTo (b : Nat) : Value := .pointer (some ⟨b, 0, none⟩)
def blkOf : Value → Nat
  | .pointer (some a) => a.block
  | _ => 0
/-- what an operation has to do, from a state -/
def HopRun (P : Program) (n : Nat) (ops : Array Oper) (σ : Env) (h : Heap) (w : World) (o : Oper) (p : PF) : Prop :=
  OpsL P n ops [o] (fun σ' w' => ∃ v h', σ' = updO σ o.dst v ∧ St h w h' w' [] ∧ p.holds h' v) σ w
def ChRun (P : Program) (n : Nat) (ops : Array Oper) (σ : Env) (w : World) (o : Oper) (K : Value → World → Prop) : Prop :=
  OpsL P n ops [o] (fun σ' w' => ∃ v, σ' = updO σ o.dst v ∧ K v w') σ w
theorem OpsL.one {P : Program} {n : Nat} {ops : Array Oper} {σ : Env} {w : World} {o : Oper} {K : Env → World → Prop} {a : Act} (h : OpsL P n ops [o] K σ w) (ha : Fits n a σ) {next : Act → World → Prop} {Q : Exit → Act → World → Prop}
    (hk : ∀ a' σ' w', Fits n a' σ' → K σ' w' → next a' w') : if Region.wanted o (yielded ops a.tmps) then o.wp P a w next Q ∨ (o.asks P a w ∧ LetsOut Q) else next (a.put o.dst undef) w := by
  have h := h a ha
  unfold wpList at h
  split at h
  · rename_i hw
    rw [if_pos hw]
    rcases h with h | ⟨_, a', w', h, _⟩
    · left
      unfold Oper.wp at h ⊢
      generalize (execOp a.eval o).run P w = r at h ⊢
      cases r with
      | ok x w' =>
        cases x with
        | value v => obtain ⟨_, σ', hf, hK⟩ := h; exact hk _ _ _ hf hK
        | skip => obtain ⟨_, σ', hf, hK⟩ := h; exact hk _ _ _ hf hK
        | defer d => obtain ⟨_, σ', hf, hK⟩ := h; exact hk _ _ _ hf hK
        | enter f args =>
          refine Calls.mono h ?_
          intro e w'' he
          cases e with
          | returned v => obtain ⟨_, σ', hf, hK⟩ := he; exact hk _ _ _ hf hK
          | panicked c => obtain ⟨he, _⟩ := he; cases he
          | outgrown => obtain ⟨_, _, he, _⟩ := he; cases he
        | row r args =>
          refine Rows.mono h ?_
          intro v w'' he
          obtain ⟨_, σ', hf, hK⟩ := he; exact hk _ _ _ hf hK
        | _ => exact h
      | halt x w' =>
        cases x with
        | panic v => obtain ⟨he, _⟩ := h; cases he
        | _ => exact h
    · cases h
  · rename_i hw
    rw [if_neg hw]
    obtain ⟨_, σ', hf, hK⟩ := h
    exact hk _ _ _ hf hK
def AlRun (P : Program) (o : Oper) (z : Obj) : Prop := o.guard = none ∧ ∀ σ w, (execOp (ev σ) o).run P w = .ok (.value (ptrTo w.heap.size)) (w.alloc z)
def knAdd (o : Oper) (v : Value) (kn : List (Nat × Value)) : List (Nat × Value) :=
  match o.dst with
  | some d => (d, v) :: kn
  | none => kn
section
variable (P : Program) (n : Nat) (l : List Oper) (h0 : Heap) (w0 : World) (own0 : Own) (hr : Heap) (er : List Nat) (dsts : List Nat) (σ : Env) (Q : Exit → Env → World → Prop)
def Hop (i : Nat) (done : List (Nat × Kd)) (o : Oper) (p : PF) : Prop :=
  ∀ h w τ, Le hr h → Sub h w → (inL er i = true → St h0 w0 h w own0) → AllDeps h (depsIn done o) (fun vs => HopRun P n l.toArray (known vs (mix dsts τ σ)) h w o p)
inductive Hops : List (Nat × Kd) → List Oper → List (Nat × Kd) → Prop
  | nil (done) : Hops done [] []
  | flt (done : List (Nat × Kd)) (o : Oper) (rest : List Oper) (p : PF) (ks : List (Nat × Kd)) : Hop P n l h0 w0 own0 hr er dsts σ done.length done o p → Hops (done ++ [(dstOf o, .flt p)]) rest ks → Hops done (o :: rest) ((dstOf o, .flt p) :: ks)
  | al (done : List (Nat × Kd)) (o : Oper) (rest : List Oper) (z : Obj) (ks : List (Nat × Kd)) : AlRun P o z → Hops (done ++ [(dstOf o, .al z)]) rest ks → Hops done (o :: rest) ((dstOf o, .al z) :: ks)
  | ch (done : List (Nat × Kd)) (o : Oper) (rest : List Oper) (ks : List (Nat × Kd)) : Hops (done ++ [(dstOf o, .ch)]) rest ks → Hops done (o :: rest) ((dstOf o, .ch) :: ks)
def ChainOK (ks : List (Nat × Kd)) : List (Nat × Oper) → Own → List (Nat × Value) → Heap → Prop
  | [], own, kn, hb => ∀ h w τ, Le hb h → St h0 w0 h w own → AllDeps h (ks.filterMap fltOf) (fun vs => Q .normal (known kn (known vs (mix dsts τ σ))) w)
  | (_, o) :: rest, own, kn, hb => ∀ h w τ, Le hb h → St h0 w0 h w own → AllDeps h (depsIn ks o) (fun vs => ChRun P n l.toArray (known kn (known vs (mix dsts τ σ))) w o
      (fun v w' => ∃ h' own', Le h h' ∧ St h0 w0 h' w' own' ∧ ChainOK ks rest own' (knAdd o v kn) h'))
def StartOK (ks : List (Nat × Kd)) (cx : List (Nat × Oper)) : List (Nat × Nat × Obj) → Own → List (Nat × Value) → Prop
  | [], own, kn => ChainOK P n l h0 w0 dsts σ Q ks cx own kn hr
  | (_, d, z) :: as, own, kn => ∀ b, StartOK ks cx as (own ++ [[(b, z)]]) ((d, ptrTo b) :: kn)
end
def alsOf : Nat → List (Nat × Kd) → List (Nat × Nat × Obj)
  | _, [] => []
  | i, (d, .al z) :: r => (i, d, z) :: alsOf (i + 1) r
  | i, _ :: r => alsOf (i + 1) r
theorem mem_alsOf {j d : Nat} {z : Obj} : ∀ {ks : List (Nat × Kd)} {i : Nat}, (j, d, z) ∈ alsOf i ks ↔ ∃ k, j = i + k ∧ ks[k]? = some (d, .al z)
  | [], i => by simp [alsOf]
  | (d', k) :: r, i => by
    have ih := mem_alsOf (j := j) (d := d) (z := z) (ks := r) (i := i + 1)
    have shift : (∃ k', j = i + k' ∧ ((d', k) :: r)[k']? = some (d, Kd.al z)) ↔ (j = i ∧ (d', k) = (d, Kd.al z)) ∨ ∃ k', j = i + 1 + k' ∧ r[k']? = some (d, Kd.al z) := by
      constructor
      · rintro ⟨k', e, hk⟩
        cases k' with
        | zero => simp at hk; exact .inl ⟨by omega, by simp [hk]⟩
        | succ k' => exact .inr ⟨k', by omega, by simpa using hk⟩
      · rintro (⟨e, hk⟩ | ⟨k', e, hk⟩)
        · exact ⟨0, by omega, by simp [hk]⟩
        · exact ⟨k' + 1, by omega, by simpa using hk⟩
    rw [shift]
    cases k with
    | al z' =>
      rw [alsOf, List.mem_cons, ih]
      constructor
      · rintro (e | e)
        · cases e; exact .inl ⟨rfl, rfl⟩
        · exact .inr e
      · rintro (⟨e1, e2⟩ | e)
        · cases e2; subst e1; exact .inl rfl
        · exact .inr e
    | flt p =>
      rw [alsOf, ih]
      · constructor
        · exact .inr
        · rintro (⟨_, e2⟩ | e)
          · cases e2
          · exact e
      · simp
    | ch =>
      rw [alsOf, ih]
      · constructor
        · exact .inr
        · rintro (⟨_, e2⟩ | e)
          · cases e2
          · exact e
      · simp
def unl (n : Nat) (listed : Array Bool) : Nat := (List.range n).countP fun i => !listed.getD i true
theorem countP_set {l : List Nat} (hn : l.Nodup) {i : Nat} (hi : i ∈ l) {p q : Nat → Bool} (hp : p i = true) (hq : q i = false) (he : ∀ j, j ≠ i → q j = p j) : l.countP q + 1 = l.countP p := by
  induction l with
  | nil => cases hi
  | cons a l ih =>
    rw [List.nodup_cons] at hn
    by_cases e : a = i
    · subst e
      have : l.countP q = l.countP p := List.countP_congr fun j hj => by
        rw [he j (fun e => hn.1 (e ▸ hj))]
      simp [List.countP_cons, hp, hq, this]
    · have hi' : i ∈ l := (List.mem_cons.1 hi).resolve_left (Ne.symm e)
      have := ih hn.2 hi'
      rw [List.countP_cons, List.countP_cons, he a e]
      omega

def opsOk (n : Nat) : Nat → List Oper → List Nat → Bool
  | _, [], _ => true
  | i, o :: l, seen => (match o.dst with | some d => Nat.blt d n && !inL seen d | none => true) && (o.after.toList.all fun e => !Region.binds .any e || Nat.blt e.on i) && opsOk n (i + 1) l (match o.dst with | some d => d :: seen | none => seen)
theorem opsOk_spec {n : Nat} : ∀ {l : List Oper} {i : Nat} {seen : List Nat}, opsOk n i l seen = true →
    (∀ (j : Nat) (o : Oper), l[j]? = some o → (∀ d, o.dst = some d → d < n ∧ d ∉ seen) ∧ (∀ e ∈ o.after.toList, Region.binds .any e = true → e.on < i + j)) ∧
    (∀ (j k : Nat) (o o' : Oper) (d : Nat), l[j]? = some o → l[k]? = some o' → j ≠ k → o.dst = some d → o'.dst ≠ some d)
  | [], _, _, _ => by simp
  | o :: l, i, seen, h => by
    simp only [opsOk, Bool.and_eq_true] at h
    obtain ⟨⟨h1, h2⟩, h3⟩ := h
    obtain ⟨g1, g2⟩ := opsOk_spec h3
    have hseen : ∀ x, x ∈ seen → x ∈ (match o.dst with | some d => d :: seen | none => seen) := by
      intro x hx
      cases o.dst with
      | none => exact hx
      | some d => exact List.mem_cons_of_mem _ hx
    constructor
    · intro j o' hj
      cases j with
      | zero =>
        simp at hj; subst hj
        refine ⟨fun d hd => ?_, fun e he hb => ?_⟩
        · rw [hd] at h1
          simp only [Bool.and_eq_true, Bool.not_eq_true'] at h1
          refine ⟨Nat.le_of_ble_eq_true h1.1, fun hm => ?_⟩
          rw [inL_iff.2 hm] at h1; cases h1.2
        · have := List.all_eq_true.1 h2 e he
          simp only [hb, Bool.not_true, Bool.false_or] at this
          exact Nat.le_of_ble_eq_true this
      | succ j =>
        obtain ⟨a1, a4⟩ := g1 j o' (by simpa using hj)
        exact ⟨fun d hd => ⟨(a1 d hd).1, fun hm => (a1 d hd).2 (hseen _ hm)⟩, fun e he hb => by have := a4 e he hb; omega⟩
    · intro j k a b d hj hk hne hd hd'
      have first : ∀ (k : Nat) (b : Oper), l[k]? = some b → o.dst = some d → b.dst = some d → False := by
        intro k b hb e e'
        have := (g1 k b hb).1 d e'
        rw [e] at this
        exact this.2 (List.mem_cons_self ..)
      cases j with
      | zero =>
        simp at hj; subst hj
        cases k with
        | zero => exact absurd rfl hne
        | succ k => exact first k b (by simpa using hk) hd hd'
      | succ j =>
        cases k with
        | zero => simp at hk; subst hk; exact first j a (by simpa using hj) hd' hd
        | succ k => exact g2 j k a b d (by simpa using hj) (by simpa using hk) (by omega) hd hd'
def kdOk : List Oper → List (Nat × Kd) → Bool
  | [], _ => true
  | _, [] => true
  | o :: l, (_, .ch) :: ks => kdOk l ks
  | o :: l, _ :: ks => o.dst.isSome && kdOk l ks
theorem kdOk_spec : ∀ {l : List Oper} {ks : List (Nat × Kd)}, kdOk l ks = true → ∀ (j : Nat) (o : Oper) (d : Nat) (k : Kd), l[j]? = some o → ks[j]? = some (d, k) → k ≠ .ch → o.dst = some (dstOf o)
  | [], _, _ => by simp
  | _ :: _, [], _ => by simp
  | o :: l, (d0, k0) :: ks, h => by
    intro j o' d k hj hk hne
    cases j with
    | zero =>
      simp at hj hk
      obtain ⟨rfl, rfl⟩ := hk
      subst hj
      have : o.dst.isSome = true := by
        cases k0 with
        | ch => exact absurd rfl hne
        | flt p => simp only [kdOk, Bool.and_eq_true] at h; exact h.1
        | al z => simp only [kdOk, Bool.and_eq_true] at h; exact h.1
      cases e : o.dst with
      | none => rw [e] at this; cases this
      | some d => simp [dstOf, e]
    | succ j =>
      have h' : kdOk l ks = true := by
        cases k0 with
        | ch => exact h
        | flt p => simp only [kdOk, Bool.and_eq_true] at h; exact h.2
        | al z => simp only [kdOk, Bool.and_eq_true] at h; exact h.2
      exact kdOk_spec h' j o' d k (by simpa using hj) (by simpa using hk) hne
def chIdx : Nat → List (Nat × Kd) → List Nat
  | _, [] => []
  | i, (_, .ch) :: r => i :: chIdx (i + 1) r
  | i, _ :: r => chIdx (i + 1) r
theorem mem_chIdx {j : Nat} : ∀ {ks : List (Nat × Kd)} {i : Nat}, j ∈ chIdx i ks ↔ ∃ k d, j = i + k ∧ ks[k]? = some (d, .ch)
  | [], i => by simp [chIdx]
  | (d', k) :: r, i => by
    have ih := mem_chIdx (j := j) (ks := r) (i := i + 1)
    have shift : (∃ k' d, j = i + k' ∧ ((d', k) :: r)[k']? = some (d, Kd.ch)) ↔ (j = i ∧ k = Kd.ch) ∨ ∃ k' d, j = i + 1 + k' ∧ r[k']? = some (d, Kd.ch) := by
      constructor
      · rintro ⟨k', d, e, hk⟩
        cases k' with
        | zero => simp at hk; exact .inl ⟨by omega, hk.2⟩
        | succ k' => exact .inr ⟨k', d, by omega, by simpa using hk⟩
      · rintro (⟨e, hk⟩ | ⟨k', d, e, hk⟩)
        · exact ⟨0, d', by omega, by simp [hk]⟩
        · exact ⟨k' + 1, d, by omega, by simpa using hk⟩
    rw [shift]
    cases k with
    | ch => rw [chIdx, List.mem_cons, ih]; simp
    | flt p => rw [chIdx, ih] <;> simp
    | al z => rw [chIdx, ih] <;> simp
def seqOk : List (Nat × Oper) → Bool
  | (c, _) :: (c', o') :: r => inL (bnd o') c && seqOk ((c', o') :: r)
  | _ => true
theorem seqOk_spec : ∀ {cx : List (Nat × Oper)}, seqOk cx = true → ∀ (j : Nat) (q q' : Nat × Oper), cx[j]? = some q → cx[j + 1]? = some q' → q.1 ∈ bnd q'.2
  | [], _ => by simp
  | [_], _ => by
    intro j q q' _ h2
    simp at h2
  | (c, o) :: (c', o') :: r, h => by
    simp only [seqOk, Bool.and_eq_true] at h
    intro j q q' h1 h2
    cases j with
    | zero => simp at h1 h2; subst h1; subst h2; exact inL_iff.1 h.1
    | succ j => exact seqOk_spec h.2 j q q' (by simpa using h1) (by simpa using h2)
theorem has_iff {α : Env} : ∀ {kn : List (Nat × Value)}, Has α kn ↔ ∀ q ∈ kn, α q.1 = q.2
  | [] => by simp [Has]
  | (d, v) :: l => by
    rw [Has, has_iff]
    simp
def firstOk (ks : List (Nat × Kd)) (er : List Nat) : List (Nat × Oper) → Bool
  | [] => true
  | (_, o) :: _ => er.all (inL (bnd o)) && (alsOf 0 ks).all fun q => inL (bnd o) q.1
theorem Hops.get {P : Program} {n : Nat} {l : List Oper} {h0 : Heap} {w0 : World} {own0 : Own} {hr : Heap} {er dsts : List Nat} {σ : Env} {m : List Oper} {done ks : List (Nat × Kd)} (h : Hops P n l h0 w0 own0 hr er dsts σ done m ks) :
    m.length = ks.length ∧ ∀ i o, m[i]? = some o → ∃ k, ks[i]? = some (dstOf o, k) ∧
      (∀ p, k = .flt p → Hop P n l h0 w0 own0 hr er dsts σ (done.length + i) (done ++ ks.take i) o p) ∧ (∀ z, k = .al z → AlRun P o z) := by
  induction h with
  | nil done => exact ⟨rfl, by simp⟩
  | flt done o rest p ks h1 h2 ih =>
    obtain ⟨e, hg⟩ := ih
    refine ⟨by simp [e], fun i o' hi => ?_⟩
    cases i with
    | zero => simp at hi; subst hi; exact ⟨_, rfl, fun p' e => by cases e; simpa using h1, fun z e => by cases e⟩
    | succ i =>
      obtain ⟨k, h3, h4, h5⟩ := hg i o' (by simpa using hi)
      refine ⟨k, by simpa using h3, fun p' e => ?_, h5⟩
      have := h4 p' e
      rw [List.length_append, List.length_singleton, List.append_assoc] at this
      have e2 : done.length + 1 + i = done.length + (i + 1) := by omega
      rw [e2] at this
      simpa using this
  | al done o rest z ks h1 h2 ih =>
    obtain ⟨e, hg⟩ := ih
    refine ⟨by simp [e], fun i o' hi => ?_⟩
    cases i with
    | zero => simp at hi; subst hi; exact ⟨_, rfl, fun p' e => (by cases e), fun z' e => by cases e; exact h1⟩
    | succ i =>
      obtain ⟨k, h3, h4, h5⟩ := hg i o' (by simpa using hi)
      refine ⟨k, by simpa using h3, fun p' e => ?_, h5⟩
      have := h4 p' e
      rw [List.length_append, List.length_singleton, List.append_assoc] at this
      have e2 : done.length + 1 + i = done.length + (i + 1) := by omega
      rw [e2] at this
      simpa using this
  | ch done o rest ks h2 ih =>
    obtain ⟨e, hg⟩ := ih
    refine ⟨by simp [e], fun i o' hi => ?_⟩
    cases i with
    | zero => simp at hi; subst hi; exact ⟨_, rfl, fun p' e => (by cases e), fun z' e => by cases e⟩
    | succ i =>
      obtain ⟨k, h3, h4, h5⟩ := hg i o' (by simpa using hi)
      refine ⟨k, by simpa using h3, fun p' e => ?_, h5⟩
      have := h4 p' e
      rw [List.length_append, List.length_singleton, List.append_assoc] at this
      have e2 : done.length + 1 + i = done.length + (i + 1) := by omega
      rw [e2] at this
      simpa using this
def ents (listed : Array Bool) (α : Env) (as : List (Nat × Nat × Obj)) : Own := as.map fun q => if listed[q.1]? = some true then [(blkOf (α q.2.1), q.2.2)] else []
theorem start_all {P : Program} {n : Nat} {l : List Oper} {h0 : Heap} {w0 : World} {hr : Heap} {dsts : List Nat} {σ : Env} {Q : Exit → Env → World → Prop} {ks : List (Nat × Kd)} {cx : List (Nat × Oper)} {listed : Array Bool} {α : Env} : ∀ {as : List (Nat × Nat × Obj)} {own : Own} {kn : List (Nat × Value)},
    StartOK P n l h0 w0 hr dsts σ Q ks cx as own kn → (∀ q ∈ as, listed[q.1]? = some true ∧ α q.2.1 = ptrTo (blkOf (α q.2.1))) → Has α kn →
    ∃ kn', ChainOK P n l h0 w0 dsts σ Q ks cx (own ++ ents listed α as) kn' hr ∧ Has α kn' ∧ (∀ q ∈ kn', q ∈ kn ∨ ∃ a ∈ as, q.1 = a.2.1)
  | [], own, kn, h, _, hk => ⟨kn, by simpa [ents, StartOK] using h, hk, fun q hq => .inl hq⟩
  | (i, d, z) :: as, own, kn, h, ha, hk => by
    obtain ⟨hl, he⟩ := ha _ (List.mem_cons_self ..)
    simp only at hl he
    obtain ⟨kn', h1, h2, h3⟩ := start_all (h (blkOf (α d))) (fun q hq => ha q (List.mem_cons_of_mem _ hq)) ⟨he, hk⟩
    refine ⟨kn', ?_, h2, fun q hq => ?_⟩
    · simp only [ents, List.map_cons, hl, if_true] at h1 ⊢
      simpa [List.append_assoc] using h1
    · rcases h3 q hq with h | ⟨a, ha, e⟩
      · rw [List.mem_cons] at h
        rcases h with rfl | h
        · exact .inr ⟨_, List.mem_cons_self .., rfl⟩
        · exact .inl h
      · exact .inr ⟨a, List.mem_cons_of_mem _ ha, e⟩
section
variable {P : Program} {n : Nat} {l : List Oper} {h0 : Heap} {w0 : World} {own0 : Own} {hr : Heap} {er dsts : List Nat} {σ : Env} {Q : Exit → Env → World → Prop} {ks : List (Nat × Kd)} {cx : List (Nat × Oper)}
structure Shape (n : Nat) (l : List Oper) (ks : List (Nat × Kd)) (cx : List (Nat × Oper)) (er dsts : List Nat) : Prop where
  ok : opsOk n 0 l [] = true
  kd : kdOk l ks = true
  ds : l.filterMap (·.dst) = dsts
  ch : chIdx 0 ks = cx.map (·.1)
  seq : seqOk cx = true
  fst : firstOk ks er cx = true
  ops : ∀ q ∈ cx, l[q.1]? = some q.2
def FH (ks : List (Nat × Kd)) (listed : Array Bool) (α : Env) (h : Heap) : Prop := ∀ (i d : Nat) (p : PF), listed[i]? = some true → ks[i]? = some (d, .flt p) → p.holds h (α d)
def Ph0 (h0 : Heap) (w0 : World) (own0 : Own) (ks : List (Nat × Kd)) (cx : List (Nat × Oper)) (listed : Array Bool) (α : Env) (h : Heap) (w : World) : Prop :=
  (∀ q ∈ cx, listed[q.1]? ≠ some true) ∧ St h0 w0 h w (own0 ++ ents listed α (alsOf 0 ks)) ∧ ∀ q ∈ alsOf 0 ks, listed[q.1]? = some true → α q.2.1 = ptrTo (blkOf (α q.2.1))
def Ph1 (P : Program) (n : Nat) (l : List Oper) (h0 : Heap) (w0 : World) (er dsts : List Nat) (σ : Env) (Q : Exit → Env → World → Prop) (ks : List (Nat × Kd)) (cx : List (Nat × Oper)) (listed : Array Bool) (α : Env) (h : Heap) (w : World) : Prop :=
  ∃ k own kn hb, 0 < k ∧ (∀ (j : Nat) (q : Nat × Oper), cx[j]? = some q → (listed[q.1]? = some true ↔ j < k)) ∧ ChainOK P n l h0 w0 dsts σ Q ks (cx.drop k) own kn hb ∧ Le hb h ∧ St h0 w0 h w own ∧ Has α kn ∧
    (∀ q ∈ kn, ∃ (i : Nat) (o : Oper), listed[i]? = some true ∧ l[i]? = some o ∧ o.dst = some q.1) ∧ (∀ q ∈ alsOf 0 ks, listed[q.1]? = some true) ∧ (∀ i, inL er i = true → listed[i]? = some true)
def Inv (P : Program) (n : Nat) (l : List Oper) (h0 : Heap) (w0 : World) (own0 : Own) (hr : Heap) (er dsts : List Nat) (σ : Env) (Q : Exit → Env → World → Prop) (ks : List (Nat × Kd)) (cx : List (Nat × Oper)) (listed : Array Bool) (α : Env) (w : World) : Prop :=
  Agree dsts α σ ∧ ∃ h, Le hr h ∧ FH ks listed α h ∧ (Ph0 h0 w0 own0 ks cx listed α h w ∨ Ph1 P n l h0 w0 er dsts σ Q ks cx listed α h w)
theorem set_listed {listed : Array Bool} {i j : Nat} (h : (listed.setIfInBounds i true)[j]? = some true) : j = i ∨ listed[j]? = some true := by
  by_cases e : j = i
  · exact .inl e
  · rw [Array.getElem?_setIfInBounds_ne (Ne.symm e)] at h; exact .inr h
theorem listed_set {listed : Array Bool} {i j : Nat} (h : listed[j]? = some true) : (listed.setIfInBounds i true)[j]? = some true := by
  by_cases e : j = i
  · subst e
    obtain ⟨hlt, _⟩ := Array.getElem?_eq_some_iff.1 h
    simp [hlt]
  · rw [Array.getElem?_setIfInBounds_ne (Ne.symm e)]; exact h
theorem updO_ne {α : Env} {d : Option Nat} {v : Value} {t : Nat} (h : d ≠ some t) : updO α d v t = α t := by
  cases d with
  | none => rfl
  | some d => exact upd_ne _ _ _ _ (fun e => h (by rw [e]))
/-- what an operation leaves behind of what was shown -/
theorem FH.step {listed : Array Bool} {α : Env} {h h' : Heap} {i : Nat} {o : Oper} {v : Value} (sh : Shape n l ks cx er dsts) (hd : ∀ (j : Nat) (o : Oper) (k : Kd) (d : Nat), l[j]? = some o → ks[j]? = some (d, k) → d = dstOf o) (hlen : l.length = ks.length)
    (hi : l[i]? = some o) (hl : Le h h') (hf : FH ks listed α h) (hnew : ∀ (d : Nat) (p : PF), ks[i]? = some (d, .flt p) → p.holds h' v) : FH ks (listed.setIfInBounds i true) (updO α o.dst v) h' := by
  intro j d p hj hk
  obtain ⟨hjl, _⟩ := List.getElem?_eq_some_iff.1 hk
  have hjo : l[j]? = some (l[j]'(by omega)) := List.getElem?_eq_getElem (by omega)
  have hjd := kdOk_spec sh.kd j _ d _ hjo hk (by simp)
  have hdd := hd j _ _ _ hjo hk
  by_cases e : j = i
  · subst e
    rw [hi] at hjo
    cases hjo
    rw [hjd, hdd]
    have := hnew d p hk
    simpa [updO, upd_same, hdd] using this
  · have hold : listed[j]? = some true := (set_listed hj).resolve_left e
    have hne : o.dst ≠ some d := by
      rw [hdd]
      exact fun q => (opsOk_spec sh.ok).2 j i _ o (dstOf _) hjo hi e hjd q
    rw [updO_ne hne]
    exact PF.holds_up (hf j d p hold hk) hl
theorem agree_step {α : Env} {i : Nat} {o : Oper} {v : Value} (sh : Shape n l ks cx er dsts) (hi : l[i]? = some o) (h : Agree dsts α σ) : Agree dsts (updO α o.dst v) σ := by
  cases e : o.dst with
  | none => exact h
  | some d =>
    refine Agree.upd ?_ h
    rw [inL_iff, ← sh.ds]
    exact List.mem_filterMap.2 ⟨o, List.mem_of_getElem? hi, e⟩
theorem deps_hold {listed : Array Bool} {α : Env} {h : Heap} {o : Oper} {m : Nat} (hf : FH ks listed α h) (hb : ∀ i ∈ bnd o, listed[i]? = some true) : ∀ q ∈ depsIn (ks.take m) o, q.2.holds h (α q.1) := by
  intro q hq
  obtain ⟨j, hj1, hj2⟩ := List.mem_filterMap.1 hq
  rw [List.getElem?_take] at hj2
  split at hj2
  · cases e : ks[j]? with
    | none => rw [e] at hj2; cases hj2
    | some r =>
      rw [e] at hj2
      have := fltOf_some hj2
      exact hf j q.1 q.2 (hb j (dd_mem hj1)) (by rw [e, this])
  · cases hj2
theorem ready_iff {listed : Array Bool} {i : Nat} (h : i ∈ Region.ready .any l.toArray listed) : ∃ o, l[i]? = some o ∧ listed[i]? ≠ some true ∧ ∀ j ∈ bnd o, listed[j]? = some true := by
  unfold Region.ready at h
  rw [List.mem_filter] at h
  obtain ⟨hi1, hi2⟩ := h
  have hil : i < l.length := by simpa using hi1
  rw [Bool.and_eq_true] at hi2
  obtain ⟨hi3, hi4⟩ := hi2
  have hnl : listed.getD i true = false := by simpa using hi3
  rw [List.getElem?_toArray, List.getElem?_eq_getElem hil] at hi4
  simp only [Option.map_some, Option.getD_some] at hi4
  rw [← Array.all_toList, List.all_eq_true] at hi4
  refine ⟨_, List.getElem?_eq_getElem hil, fun e => ?_, fun j hj => ?_⟩
  · simp [Array.getD_eq_getD_getElem?, e] at hnl
  · obtain ⟨ed, h1, h2, rfl⟩ := mem_bnd.1 hj
    have hx := hi4 ed h1
    rw [h2] at hx
    simp only [Bool.not_true, Bool.false_or] at hx
    cases e : listed[ed.on]? with
    | none => simp [Array.getD_eq_getD_getElem?, e] at hx
    | some b => simp [Array.getD_eq_getD_getElem?, e] at hx; rw [hx]
theorem all_listed (hok : opsOk n 0 l [] = true) {listed : Array Bool} (hsz : listed.size = l.length) (hnil : Region.ready .any l.toArray listed = []) : ∀ i, i < l.length → listed[i]? = some true := by
  intro i
  induction i using Nat.strongRecOn with
  | _ i ih =>
    intro hi
    cases e : listed[i]? with
    | none => rw [Array.getElem?_eq_none_iff] at e; omega
    | some b =>
      cases b with
      | true => rfl
      | false =>
        exfalso
        have hmem : i ∈ Region.ready .any l.toArray listed := by
          unfold Region.ready
          rw [List.mem_filter]
          refine ⟨by simp [hi], ?_⟩
          have e1 : listed.getD i true = false := by simp [Array.getD_eq_getD_getElem?, e]
          simp only [e1, Bool.not_false, Bool.true_and]
          rw [List.getElem?_toArray, List.getElem?_eq_getElem hi]
          simp only [Option.map_some, Option.getD_some]
          rw [← Array.all_toList, List.all_eq_true]
          intro ed hed
          have h4 := ((opsOk_spec hok).1 i _ (List.getElem?_eq_getElem hi)).2
          cases hb : Region.binds .any ed with
          | false => rfl
          | true =>
            have := h4 ed hed hb
            have := ih ed.on (by omega) (by omega)
            simp [Array.getD_eq_getD_getElem?, this]
        rw [hnil] at hmem; cases hmem
theorem unl_step {listed : Array Bool} {i fuel : Nat} (hsz : listed.size = l.length) (hil : i < l.length) (hn : listed[i]? ≠ some true) (hu : unl l.length listed ≤ fuel + 1) : unl l.length (listed.setIfInBounds i true) ≤ fuel := by
  have hlt : i < listed.size := by omega
  have hf : listed[i] = false := by
    cases e : listed[i] with
    | false => rfl
    | true => exact absurd (by rw [Array.getElem?_eq_getElem hlt, e]) hn
  have hnl : listed.getD i true = false := by simp [Array.getD_eq_getD_getElem?, hlt, hf]
  have hpi : (!listed.getD i true) = true := by rw [hnl]; rfl
  have hqi : (!(listed.setIfInBounds i true).getD i true) = false := by simp [Array.getD_eq_getD_getElem?, hlt]
  have := countP_set (l := List.range l.length) List.nodup_range (by simpa using hil) (p := fun j => !listed.getD j true) (q := fun j => !(listed.setIfInBounds i true).getD j true) hpi hqi
    (fun j hj => by simp only [Array.getD_eq_getD_getElem?]; rw [Array.getElem?_setIfInBounds_ne (Ne.symm hj)])
  unfold unl at hu ⊢
  omega
end
section
variable {P : Program} {n : Nat} {l : List Oper} {h0 : Heap} {w0 : World} {own0 : Own} {hr : Heap} {er dsts : List Nat} {σ : Env} {Q : Exit → Env → World → Prop} {ks : List (Nat × Kd)} {cx : List (Nat × Oper)}
theorem alsOf_lt : ∀ (ks : List (Nat × Kd)) (i : Nat), (alsOf i ks).Pairwise (fun a b => a.1 < b.1)
  | [], _ => List.Pairwise.nil
  | (d, .al z) :: r, i => by
    rw [alsOf, List.pairwise_cons]
    refine ⟨fun q hq => ?_, alsOf_lt r (i + 1)⟩
    obtain ⟨j, d', z'⟩ := q
    obtain ⟨k, e, _⟩ := mem_alsOf.1 hq
    show i < j
    omega
  | (d, .flt p) :: r, i => by rw [alsOf]; exact alsOf_lt r (i + 1); simp
  | (d, .ch) :: r, i => by rw [alsOf]; exact alsOf_lt r (i + 1); simp
theorem alsOf_inj {p k : Nat} {a b : Nat × Nat × Obj} (ha : (alsOf 0 ks)[p]? = some a) (hb : (alsOf 0 ks)[k]? = some b) (e : a.1 = b.1) : p = k := by
  obtain ⟨hp, ha⟩ := List.getElem?_eq_some_iff.1 ha
  obtain ⟨hk, hb⟩ := List.getElem?_eq_some_iff.1 hb
  have hpw := List.pairwise_iff_getElem.1 (alsOf_lt ks 0)
  rcases Nat.lt_trichotomy p k with h | h | h
  · have := hpw p k hp hk h; rw [ha, hb] at this; omega
  · exact h
  · have := hpw k p hk hp h; rw [ha, hb] at this; omega
theorem al_dst (sh : Shape n l ks cx er dsts) (hd : ∀ (j : Nat) (o : Oper) (k : Kd) (d : Nat), l[j]? = some o → ks[j]? = some (d, k) → d = dstOf o) (hlen : l.length = ks.length) {q : Nat × Nat × Obj} (hq : q ∈ alsOf 0 ks) :
    ∃ oj, l[q.1]? = some oj ∧ oj.dst = some q.2.1 ∧ ks[q.1]? = some (q.2.1, .al q.2.2) := by
  obtain ⟨j, d, z⟩ := q
  obtain ⟨k, e, hk⟩ := mem_alsOf.1 hq
  rw [Nat.zero_add] at e
  subst e
  obtain ⟨hjl, _⟩ := List.getElem?_eq_some_iff.1 hk
  have hjo : l[j]? = some (l[j]'(by omega)) := List.getElem?_eq_getElem (by omega)
  exact ⟨_, hjo, by rw [kdOk_spec sh.kd j _ d _ hjo hk (by simp), hd j _ _ _ hjo hk], hk⟩
theorem al_ne (sh : Shape n l ks cx er dsts) (hd : ∀ (j : Nat) (o : Oper) (k : Kd) (d : Nat), l[j]? = some o → ks[j]? = some (d, k) → d = dstOf o) (hlen : l.length = ks.length) {q : Nat × Nat × Obj} (hq : q ∈ alsOf 0 ks) {i : Nat} {o : Oper} (hi : l[i]? = some o) (hne : q.1 ≠ i) : o.dst ≠ some q.2.1 := by
  obtain ⟨oj, h1, h2, _⟩ := al_dst sh hd hlen hq
  exact fun e => (opsOk_spec sh.ok).2 q.1 i oj o _ h1 hi hne h2 e
theorem ents_same (sh : Shape n l ks cx er dsts) (hd : ∀ (j : Nat) (o : Oper) (k : Kd) (d : Nat), l[j]? = some o → ks[j]? = some (d, k) → d = dstOf o) (hlen : l.length = ks.length) {listed : Array Bool} {α : Env} {i : Nat} {o : Oper} {v : Value} (hi : l[i]? = some o) (hna : ∀ d z, ks[i]? ≠ some (d, .al z)) :
    ents (listed.setIfInBounds i true) (updO α o.dst v) (alsOf 0 ks) = ents listed α (alsOf 0 ks) ∧ ∀ q ∈ alsOf 0 ks, (listed.setIfInBounds i true)[q.1]? = listed[q.1]? ∧ updO α o.dst v q.2.1 = α q.2.1 := by
  have key : ∀ q ∈ alsOf 0 ks, (listed.setIfInBounds i true)[q.1]? = listed[q.1]? ∧ updO α o.dst v q.2.1 = α q.2.1 := by
    intro q hq
    have hne : q.1 ≠ i := by
      intro e
      obtain ⟨_, _, _, h3⟩ := al_dst sh hd hlen hq
      rw [e] at h3
      exact hna _ _ h3
    exact ⟨Array.getElem?_setIfInBounds_ne (Ne.symm hne), updO_ne (al_ne sh hd hlen hq hi hne)⟩
  refine ⟨?_, key⟩
  unfold ents
  refine List.map_congr_left fun q hq => ?_
  obtain ⟨h1, h2⟩ := key q hq
  rw [h1, h2]
theorem ch_ne (sh : Shape n l ks cx er dsts) {i : Nat} {d : Nat} {k : Kd} (hk : ks[i]? = some (d, k)) (hne : k ≠ .ch) : ∀ q ∈ cx, q.1 ≠ i := by
  intro q hq e
  have : q.1 ∈ chIdx 0 ks := by rw [sh.ch]; exact List.mem_map_of_mem hq
  obtain ⟨k', d', e', h'⟩ := mem_chIdx.1 this
  rw [Nat.zero_add] at e'
  rw [← e', e, hk] at h'
  cases h'
  exact hne rfl
theorem cx_inj (sh : Shape n l ks cx er dsts) {j k : Nat} {q q' : Nat × Oper} (hj : cx[j]? = some q) (hk : cx[k]? = some q') (hlt : j < k) : q.1 < q'.1 := by
  have aux : ∀ m j (q q' : Nat × Oper), cx[j]? = some q → cx[j + m + 1]? = some q' → q.1 < q'.1 := by
    intro m
    induction m with
    | zero =>
      intro j q q' h1 h2
      have h3 := seqOk_spec sh.seq j q q' h1 h2
      obtain ⟨e, he, hb, heq⟩ := mem_bnd.1 h3
      have := ((opsOk_spec sh.ok).1 q'.1 q'.2 (sh.ops q' (List.mem_of_getElem? h2))).2 e he hb
      omega
    | succ m ih =>
      intro j q q' h1 h2
      obtain ⟨hlt, _⟩ := List.getElem?_eq_some_iff.1 h2
      have h3 : cx[j + 1]? = some (cx[j + 1]'(by omega)) := List.getElem?_eq_getElem (by omega)
      have h4 := seqOk_spec sh.seq j q _ h1 h3
      obtain ⟨e, he, hb, heq⟩ := mem_bnd.1 h4
      have h5 := ((opsOk_spec sh.ok).1 _ _ (sh.ops _ (List.mem_of_getElem? h3))).2 e he hb
      have h6 := ih (j + 1) _ q' h3 (by rw [← h2]; congr 1; omega)
      omega
  obtain ⟨m, rfl⟩ : ∃ m, k = j + m + 1 := ⟨k - j - 1, by omega⟩
  exact aux m j q q' hj hk
/-- a floating operation -/
theorem inv_flt (sh : Shape n l ks cx er dsts) (hd : ∀ (j : Nat) (o : Oper) (k : Kd) (d : Nat), l[j]? = some o → ks[j]? = some (d, k) → d = dstOf o) (hlen : l.length = ks.length) {listed : Array Bool} {α : Env} {i : Nat} {o : Oper} {v : Value} {w w' : World} {h h' : Heap} {d : Nat} {p : PF}
    (hi : l[i]? = some o) (hk : ks[i]? = some (d, .flt p)) (hnl : listed[i]? ≠ some true) (ha : Agree dsts α σ) (hle : Le hr h) (hf : FH ks listed α h) (hp : Ph0 h0 w0 own0 ks cx listed α h w ∨ Ph1 P n l h0 w0 er dsts σ Q ks cx listed α h w)
    (s : St h w h' w' []) (hv : p.holds h' v) : Inv P n l h0 w0 own0 hr er dsts σ Q ks cx (listed.setIfInBounds i true) (updO α o.dst v) w' := by
  refine ⟨agree_step sh hi ha, h', hle.trans s.le, hf.step sh hd hlen hi s.le (fun d' p' e => by rw [hk] at e; cases e; exact hv), ?_⟩
  obtain ⟨he, hes⟩ := ents_same sh hd hlen (listed := listed) (α := α) (v := v) hi (fun d z e => by rw [hk] at e; cases e)
  have hcn := ch_ne sh hk (by simp)
  have hcl : ∀ q ∈ cx, (listed.setIfInBounds i true)[q.1]? = listed[q.1]? := fun q hq => Array.getElem?_setIfInBounds_ne (Ne.symm (hcn q hq))
  rcases hp with ⟨p1, p2, p3⟩ | ⟨k, own, kn, hb, q1, q2, q3, q4, q5, q6, q7, q8, q9⟩
  · left
    refine ⟨fun q hq => by rw [hcl q hq]; exact p1 q hq, by rw [he]; exact p2.call0 s, fun q hq hl => ?_⟩
    obtain ⟨e1, e2⟩ := hes q hq
    rw [e1] at hl
    rw [e2]
    exact p3 q hq hl
  · right
    refine ⟨k, own, kn, hb, q1, fun j q hq => by rw [hcl q (List.mem_of_getElem? hq)]; exact q2 j q hq, q3, q4.trans s.le, q5.call0 s, ?_, fun q hq => ?_, fun q hq => listed_set (q8 q hq), fun j hj => listed_set (q9 j hj)⟩
    · rw [has_iff] at q6 ⊢
      intro q hq
      obtain ⟨j, oj, g1, g2, g3⟩ := q7 q hq
      have hne : j ≠ i := fun e => hnl (e ▸ g1)
      rw [updO_ne (fun e => (opsOk_spec sh.ok).2 j i oj o _ g2 hi hne g3 e)]
      exact q6 q hq
    · obtain ⟨j, oj, g1, g2, g3⟩ := q7 q hq
      exact ⟨j, oj, listed_set g1, g2, g3⟩
/-- an allocation -/
theorem inv_al (sh : Shape n l ks cx er dsts) (hd : ∀ (j : Nat) (o : Oper) (k : Kd) (d : Nat), l[j]? = some o → ks[j]? = some (d, k) → d = dstOf o) (hlen : l.length = ks.length) {listed : Array Bool} {α : Env} {i : Nat} {o : Oper} {w : World} {h : Heap} {d : Nat} {z : Obj} (hsz : listed.size = l.length)
    (hi : l[i]? = some o) (hk : ks[i]? = some (d, .al z)) (hnl : listed[i]? ≠ some true) (ha : Agree dsts α σ) (hle : Le hr h) (hf : FH ks listed α h) (hp : Ph0 h0 w0 own0 ks cx listed α h w ∨ Ph1 P n l h0 w0 er dsts σ Q ks cx listed α h w) :
    Inv P n l h0 w0 own0 hr er dsts σ Q ks cx (listed.setIfInBounds i true) (updO α o.dst (ptrTo w.heap.size)) (w.alloc z) := by
  refine ⟨agree_step sh hi ha, h, hle, hf.step sh hd hlen hi (Le.refl h) (fun d' p' e => by rw [hk] at e; cases e), ?_⟩
  have hmem : (i, d, z) ∈ alsOf 0 ks := mem_alsOf.2 ⟨i, by omega, hk⟩
  have hcn := ch_ne sh hk (by simp)
  have hod : o.dst = some d := by rw [kdOk_spec sh.kd i _ d _ hi hk (by simp), hd i _ _ _ hi hk]
  rcases hp with ⟨p1, p2, p3⟩ | ⟨k, own, kn, hb, q1, q2, q3, q4, q5, q6, q7, q8, q9⟩
  · left
    obtain ⟨p, hpm⟩ := List.mem_iff_getElem?.1 hmem
    have hself : (listed.setIfInBounds i true)[i]? = some true := by
      obtain ⟨hil, _⟩ := List.getElem?_eq_some_iff.1 hi
      have : i < listed.size := by omega
      simp [this]
    have hent : ents (listed.setIfInBounds i true) (updO α o.dst (ptrTo w.heap.size)) (alsOf 0 ks) = (ents listed α (alsOf 0 ks)).set p [(w.heap.size, z)] := by
      apply List.ext_getElem?
      intro k
      unfold ents
      rw [List.getElem?_set, List.getElem?_map, List.length_map, List.getElem?_map]
      by_cases e : p = k
      · subst e
        obtain ⟨hlt, _⟩ := List.getElem?_eq_some_iff.1 hpm
        rw [if_pos rfl, if_pos hlt, hpm]
        simp only [Option.map_some, hself, if_true, hod, updO, upd_same]
        rfl
      · rw [if_neg e]
        cases eq : (alsOf 0 ks)[k]? with
        | none => rfl
        | some q =>
          have hne : q.1 ≠ i := fun e' => e (alsOf_inj hpm eq e'.symm)
          have hq := List.mem_of_getElem? eq
          simp only [Option.map_some]
          rw [Array.getElem?_setIfInBounds_ne (Ne.symm hne), updO_ne (al_ne sh hd hlen hq hi hne)]
    have hslot : (own0 ++ ents listed α (alsOf 0 ks))[own0.length + p]? = some [] := by
      rw [List.getElem?_append_right (by omega)]
      unfold ents
      rw [Nat.add_sub_cancel_left, List.getElem?_map, hpm]
      simp [hnl]
    have hst := p2.insert hslot z
    rw [List.set_append_right _ _ (by omega), Nat.add_sub_cancel_left] at hst
    refine ⟨fun q hq => by rw [Array.getElem?_setIfInBounds_ne (Ne.symm (hcn q hq))]; exact p1 q hq, by rw [hent]; exact hst, fun q hq hl => ?_⟩
    by_cases e : q.1 = i
    · have hq2 : q.2.1 = d := by
        obtain ⟨oj, g1, g2, g3⟩ := al_dst sh hd hlen hq
        rw [e, hk] at g3; cases g3; rfl
      rw [hq2, hod]
      simp only [updO, upd_same]
      rfl
    · rw [Array.getElem?_setIfInBounds_ne (Ne.symm e)] at hl
      rw [updO_ne (al_ne sh hd hlen hq hi e)]
      exact p3 q hq hl
  · exact absurd (q8 _ hmem) hnl
/-- a link of the chain: before it, what the chain asks for -/
theorem inv_ch0 (sh : Shape n l ks cx er dsts) (hd : ∀ (j : Nat) (o : Oper) (k : Kd) (d : Nat), l[j]? = some o → ks[j]? = some (d, k) → d = dstOf o) (hlen : l.length = ks.length) {listed : Array Bool} {α : Env} {i : Nat} {o : Oper} {w : World} {h : Heap} {d : Nat}
    (hstart : StartOK P n l h0 w0 hr dsts σ Q ks cx (alsOf 0 ks) own0 [])
    (hi : l[i]? = some o) (hk : ks[i]? = some (d, .ch)) (hnl : listed[i]? ≠ some true) (hready : ∀ j ∈ bnd o, listed[j]? = some true) (hle : Le hr h) (hp : Ph0 h0 w0 own0 ks cx listed α h w ∨ Ph1 P n l h0 w0 er dsts σ Q ks cx listed α h w) :
    ∃ k own kn hb, cx[k]? = some (i, o) ∧ (∀ (j : Nat) (q : Nat × Oper), cx[j]? = some q → (listed[q.1]? = some true ↔ j < k)) ∧ ChainOK P n l h0 w0 dsts σ Q ks (cx.drop k) own kn hb ∧ Le hb h ∧ St h0 w0 h w own ∧ Has α kn ∧
    (∀ q ∈ kn, ∃ (i : Nat) (o : Oper), listed[i]? = some true ∧ l[i]? = some o ∧ o.dst = some q.1) ∧ (∀ q ∈ alsOf 0 ks, listed[q.1]? = some true) ∧ (∀ i, inL er i = true → listed[i]? = some true) := by
  have hmem : i ∈ cx.map (·.1) := by rw [← sh.ch]; exact mem_chIdx.2 ⟨i, d, by omega, hk⟩
  obtain ⟨q, hq, e⟩ := List.mem_map.1 hmem
  subst e
  obtain ⟨k, hkq⟩ := List.mem_iff_getElem?.1 hq
  have hoq := sh.ops q hq
  rw [hi] at hoq
  have hoq : q.2 = o := by cases hoq; rfl
  subst hoq
  have hprev : ∀ j q', cx[j]? = some q' → j + 1 = k → listed[q'.1]? = some true := by
    intro j q' hj e
    subst e
    exact hready _ (seqOk_spec sh.seq j q' q hj hkq)
  rcases hp with ⟨p1, p2, p3⟩ | ⟨k1, own, kn, hb, q1, q2, q3, q4, q5, q6, q7, q8, q9⟩
  · have hk0 : k = 0 := by
      cases k with
      | zero => rfl
      | succ k =>
        obtain ⟨hlt, _⟩ := List.getElem?_eq_some_iff.1 hkq
        have h3 : cx[k]? = some (cx[k]'(by omega)) := List.getElem?_eq_getElem (by omega)
        exact absurd (hprev k _ h3 rfl) (p1 _ (List.mem_of_getElem? h3))
    subst hk0
    have hfst := sh.fst
    cases hcx : cx with
    | nil => rw [hcx] at hkq; simp at hkq
    | cons q0 r =>
      rw [hcx] at hkq
      simp at hkq
      subst hkq
      rw [hcx] at hfst
      simp only [firstOk, Bool.and_eq_true, List.all_eq_true] at hfst
      have hal : ∀ a ∈ alsOf 0 ks, listed[a.1]? = some true := fun a ha => hready _ (inL_iff.1 (hfst.2 a ha))
      obtain ⟨kn, c1, c2, c3⟩ := start_all hstart (fun a ha => ⟨hal a ha, p3 a ha (hal a ha)⟩) trivial
      refine ⟨0, _, kn, hr, by simp, fun j q' hj => ?_, by simpa [hcx] using c1, hle, p2, c2, fun a ha => ?_, hal, fun j hj => hready _ (inL_iff.1 (hfst.1 j (inL_iff.1 hj)))⟩
      · constructor
        · intro hl
          exact absurd hl (p1 q' (by rw [hcx]; exact List.mem_of_getElem? hj))
        · intro hl; omega
      · rcases c3 a ha with h | ⟨b, hb, e⟩
        · cases h
        · obtain ⟨oj, g1, g2, _⟩ := al_dst sh hd hlen hb
          exact ⟨b.1, oj, hal b hb, g1, by rw [g2, e]⟩
  · have hkk : k = k1 := by
      have h1 : ¬ k < k1 := fun h => hnl ((q2 k q hkq).2 h)
      rcases Nat.lt_or_ge k1 k with h2 | h2
      · exfalso
        obtain ⟨hlt, _⟩ := List.getElem?_eq_some_iff.1 hkq
        have h3 : cx[k - 1]? = some (cx[k - 1]'(by omega)) := List.getElem?_eq_getElem (by omega)
        have := (q2 _ _ h3).1 (hprev _ _ h3 (by omega))
        omega
      · omega
    subst hkk
    exact ⟨k, own, kn, hb, hkq, q2, q3, q4, q5, q6, q7, q8, q9⟩
/-- and behind it -/
theorem inv_ch1 (sh : Shape n l ks cx er dsts) (hd : ∀ (j : Nat) (o : Oper) (k : Kd) (d : Nat), l[j]? = some o → ks[j]? = some (d, k) → d = dstOf o) (hlen : l.length = ks.length) {listed : Array Bool} {α : Env} {i k : Nat} {o : Oper} {w' : World} {h h' : Heap} {d : Nat} {v : Value} {own' : Own} {kn : List (Nat × Value)} (hsz : listed.size = l.length)
    (hi : l[i]? = some o) (hk : ks[i]? = some (d, .ch)) (hnl : listed[i]? ≠ some true) (ha : Agree dsts α σ) (hle : Le hr h) (hf : FH ks listed α h)
    (hkq : cx[k]? = some (i, o)) (q2 : ∀ (j : Nat) (q : Nat × Oper), cx[j]? = some q → (listed[q.1]? = some true ↔ j < k)) (q6 : Has α kn)
    (q7 : ∀ q ∈ kn, ∃ (i : Nat) (o : Oper), listed[i]? = some true ∧ l[i]? = some o ∧ o.dst = some q.1) (q8 : ∀ q ∈ alsOf 0 ks, listed[q.1]? = some true) (q9 : ∀ i, inL er i = true → listed[i]? = some true)
    (hll : Le h h') (hst : St h0 w0 h' w' own') (hc : ChainOK P n l h0 w0 dsts σ Q ks (cx.drop (k + 1)) own' (knAdd o v kn) h') :
    Inv P n l h0 w0 own0 hr er dsts σ Q ks cx (listed.setIfInBounds i true) (updO α o.dst v) w' := by
  have hself : (listed.setIfInBounds i true)[i]? = some true := by
    obtain ⟨hil, _⟩ := List.getElem?_eq_some_iff.1 hi
    have : i < listed.size := by omega
    simp [this]
  refine ⟨agree_step sh hi ha, h', hle.trans hll, hf.step sh hd hlen hi hll (fun d' p' e => by rw [hk] at e; cases e), .inr ⟨k + 1, own', knAdd o v kn, h', by omega, fun j q hj => ?_, hc, Le.refl _, hst, ?_, fun q hq => ?_, fun q hq => listed_set (q8 q hq), fun j hj => listed_set (q9 j hj)⟩⟩
  · by_cases e : q.1 = i
    · have : j = k := by
        rcases Nat.lt_trichotomy j k with h1 | h1 | h1
        · have := cx_inj sh hj hkq h1; simp at this; omega
        · exact h1
        · have := cx_inj sh hkq hj h1; simp at this; omega
      subst this
      rw [e]
      exact ⟨fun _ => by omega, fun _ => hself⟩
    · rw [Array.getElem?_setIfInBounds_ne (Ne.symm e), q2 j q hj]
      constructor
      · intro h1; omega
      · intro h1
        rcases Nat.lt_or_ge j k with h2 | h2
        · exact h2
        · have : j = k := by omega
          subst this
          rw [hkq] at hj; cases hj
          exact absurd rfl e
  · have hold : Has (updO α o.dst v) kn := by
      rw [has_iff] at q6 ⊢
      intro q hq
      obtain ⟨j, oj, g1, g2, g3⟩ := q7 q hq
      have hne : j ≠ i := fun e => hnl (e ▸ g1)
      rw [updO_ne (fun e => (opsOk_spec sh.ok).2 j i oj o _ g2 hi hne g3 e)]
      exact q6 q hq
    unfold knAdd
    cases e : o.dst with
    | none => rw [e] at hold; exact hold
    | some t => rw [e] at hold; exact ⟨upd_same _ _ _, hold⟩
  · have hcase : (o.dst = some q.1) ∨ q ∈ kn := by
      unfold knAdd at hq
      cases e : o.dst with
      | none => rw [e] at hq; exact .inr hq
      | some t =>
        rw [e] at hq
        rcases List.mem_cons.1 hq with rfl | h
        · exact .inl rfl
        · exact .inr h
    rcases hcase with h | h
    · exact ⟨i, o, hself, hi, h⟩
    · obtain ⟨j, oj, g1, g2, g3⟩ := q7 q h
      exact ⟨j, oj, listed_set g1, g2, g3⟩
end
section
variable {P : Program} {n : Nat} {l : List Oper} {h0 : Heap} {w0 : World} {own0 : Own} {hr : Heap} {er dsts : List Nat} {σ : Env} {Q : Exit → Env → World → Prop} {ks : List (Nat × Kd)} {cx : List (Nat × Oper)}
theorem yielded_env {a : Act} {α : Env} (ha : Fits n a α) {g d : Nat} {b : Bool} (hg : (l.toArray[g]?).bind (·.dst) = some d) (hv : α d = .bool b) : yielded l.toArray a.tmps g = some b := by
  have hlt : d < a.tmps.size := by
    rcases Nat.lt_or_ge d a.tmps.size with h1 | h1
    · exact h1
    · have : a.tmps.getD d undef = undef := by simp only [Array.getD_eq_getD_getElem?]; rw [Array.getElem?_eq_none h1]; rfl
      rw [ha.at_ d, hv] at this; cases this
  have h1 : a.tmps[d]? = some (.bool b) := by
    have hv' : a.tmps.getD d undef = .bool b := by rw [ha.at_ d, hv]
    simp only [Array.getD_eq_getD_getElem?] at hv'
    rw [Array.getElem?_eq_getElem hlt] at hv' ⊢
    simpa using hv'
  unfold yielded; rw [hg]; simp only [Option.bind_some]; rw [h1]
theorem dst_ok {i : Nat} {o : Oper} (hok : opsOk n 0 l [] = true) (hi : l[i]? = some o) : dstOk n o.dst = true := by
  cases e : o.dst with
  | none => rfl
  | some d => exact Nat.ble_eq_true_of_le (((opsOk_spec hok).1 i o hi).1 d e).1
theorem drawn (sh : Shape n l ks cx er dsts) (hops : Hops P n l h0 w0 own0 hr er dsts σ [] l ks) (hstart : StartOK P n l h0 w0 hr dsts σ Q ks cx (alsOf 0 ks) own0 []) :
    ∀ (fuel : Nat) (listed : Array Bool) (a : Act) (α : Env) (w : World), listed.size = l.length → unl l.length listed ≤ fuel → Fits n a α → Inv P n l h0 w0 own0 hr er dsts σ Q ks cx listed α w →
      wpAny P .any l.toArray (fun e a' w' => ∃ σ', Fits n a' σ' ∧ Q e σ' w') fuel listed a w := by
  obtain ⟨hlen, hget⟩ := hops.get
  have hd : ∀ (j : Nat) (o : Oper) (k : Kd) (d : Nat), l[j]? = some o → ks[j]? = some (d, k) → d = dstOf o := by
    intro j o k d h1 h2
    obtain ⟨k', h3, _⟩ := hget j o h1
    rw [h2] at h3; cases h3; rfl
  have fin : ∀ (listed : Array Bool) (a : Act) (α : Env) (w : World), listed.size = l.length → Region.ready .any l.toArray listed = [] → Fits n a α → Inv P n l h0 w0 own0 hr er dsts σ Q ks cx listed α w → ∃ σ', Fits n a σ' ∧ Q .normal σ' w := by
    intro listed a α w hsz hnil hfit hinv
    have hall := all_listed sh.ok hsz hnil
    have hcl : ∀ q ∈ cx, listed[q.1]? = some true := fun q hq => hall _ (by
      obtain ⟨h, _⟩ := List.getElem?_eq_some_iff.1 (sh.ops q hq); exact h)
    obtain ⟨hag, h, hle, hf, hp⟩ := hinv
    have hfl : ∀ q ∈ ks.filterMap fltOf, q.2.holds h (α q.1) := by
      intro q hq
      obtain ⟨r, hr1, hr2⟩ := List.mem_filterMap.1 hq
      obtain ⟨i, hi⟩ := List.mem_iff_getElem?.1 hr1
      have e := fltOf_some hr2
      obtain ⟨hlt, _⟩ := List.getElem?_eq_some_iff.1 hi
      exact hf i q.1 q.2 (hall i (by omega)) (by rw [hi, e])
    have hdone : ∃ own kn hb, ChainOK P n l h0 w0 dsts σ Q ks [] own kn hb ∧ Le hb h ∧ St h0 w0 h w own ∧ Has α kn := by
      rcases hp with ⟨p1, p2, p3⟩ | ⟨k, own, kn, hb, q1, q2, q3, q4, q5, q6, q7, q8, q9⟩
      · have hcx : cx = [] := by
          cases e : cx with
          | nil => rfl
          | cons q r => exact absurd (hcl q (by rw [e]; exact List.mem_cons_self ..)) (p1 q (by rw [e]; exact List.mem_cons_self ..))
        have hal : ∀ a ∈ alsOf 0 ks, listed[a.1]? = some true := fun a ha => by
          obtain ⟨oj, g1, _⟩ := al_dst sh hd hlen ha
          obtain ⟨h, _⟩ := List.getElem?_eq_some_iff.1 g1
          exact hall _ h
        obtain ⟨kn, c1, c2, c3⟩ := start_all hstart (fun a ha => ⟨hal a ha, p3 a ha (hal a ha)⟩) trivial
        rw [hcx] at c1
        exact ⟨_, kn, hr, c1, hle, p2, c2⟩
      · have hk : cx.drop k = [] := by
          rw [List.drop_eq_nil_iff]
          rcases Nat.lt_or_ge k cx.length with h | h
          · exact absurd ((q2 k _ (List.getElem?_eq_getElem h)).1 (hcl _ (List.getElem_mem h))) (Nat.lt_irrefl k)
          · exact h
        rw [hk] at q3
        exact ⟨own, kn, hb, q3, q4, q5, q6⟩
    obtain ⟨own, kn, hb, c1, c2, c3, c4⟩ := hdone
    obtain ⟨vs, h1, h2⟩ := AllDeps.use (c1 h w α c2 c3) hfl
    rw [mix_eq hag, known_eq h2, known_eq c4] at h1
    exact ⟨α, hfit, h1⟩
  intro fuel
  induction fuel with
  | zero =>
    intro listed a α w hsz hu hfit hinv
    have hnil : Region.ready .any l.toArray listed = [] := by
      unfold Region.ready
      rw [List.filter_eq_nil_iff]
      intro i hi
      have hu0 : unl l.length listed = 0 := by omega
      unfold unl at hu0
      rw [List.countP_eq_zero] at hu0
      have := hu0 i (by simpa using hi)
      simp only [Bool.not_eq_true', Bool.not_eq_false] at this
      simp [this]
    exact ⟨hnil, fin listed a α w hsz hnil hfit hinv⟩
  | succ fuel ih =>
    intro listed a α w hsz hu hfit hinv
    refine ⟨fun hnil => fin listed a α w hsz hnil hfit hinv, fun i hi => ?_⟩
    obtain ⟨o, hio, hnl, hready⟩ := ready_iff hi
    obtain ⟨hil, _⟩ := List.getElem?_eq_some_iff.1 hio
    obtain ⟨k, hk, hflt, hal⟩ := hget i o hio
    obtain ⟨hag, h, hle, hf, hp⟩ := hinv
    have hdo := dst_ok sh.ok hio
    have next : ∀ (v : Value) (w' : World), Inv P n l h0 w0 own0 hr er dsts σ Q ks cx (listed.setIfInBounds i true) (updO α o.dst v) w' →
        wpAny P .any l.toArray (fun e a' w' => ∃ σ', Fits n a' σ' ∧ Q e σ' w') fuel (listed.setIfInBounds i true) (a.put o.dst v) w' := fun v w' hinv' =>
      ih _ _ _ w' (by simpa using hsz) (unl_step hsz hil hnl hu) (hfit.put hdo v) hinv'
    have hev : a.eval = ev α := hfit.eval
    unfold wpOp
    rw [List.getElem?_toArray, hio]
    simp only []
    cases k with
    | flt p =>
      have hop := hflt p rfl
      rw [List.length_nil, Nat.zero_add, List.nil_append] at hop
      have hsub : Sub h w := by
        rcases hp with ⟨_, p2, _⟩ | ⟨_, _, _, _, _, _, _, _, q5, _⟩
        · exact p2.sub
        · exact q5.sub
      have her : inL er i = true → St h0 w0 h w own0 := by
        intro hin
        rcases hp with ⟨_, p2, _⟩ | ⟨_, _, _, _, _, _, _, _, _, _, _, _, q9⟩
        · have := p2.take own0.length
          rwa [List.take_left'] at this
          rfl
        · exact absurd (q9 i hin) hnl
      obtain ⟨vs, hrun, hhas⟩ := AllDeps.use (hop h w α hle hsub her) (deps_hold hf hready)
      rw [mix_eq hag, known_eq hhas] at hrun
      refine OpsL.one hrun hfit ?_
      rintro a' σ' w' hf' ⟨v, h', rfl, s, hh⟩
      exact ih _ _ _ w' (by simpa using hsz) (unl_step hsz hil hnl hu) hf' (inv_flt sh hd hlen hio hk hnl hag hle hf hp s hh)
    | al z =>
      obtain ⟨hg, hrun⟩ := hal z rfl
      have hw : Region.wanted o (yielded l.toArray a.tmps) = true := by simp [Region.wanted, hg]
      rw [if_pos hw]
      left
      unfold Oper.wp
      rw [hev, hrun]
      exact next _ _ (inv_al sh hd hlen hsz hio hk hnl hag hle hf hp)
    | ch =>
      obtain ⟨k, own, kn, hb, hkq, q2, q3, q4, q5, q6, q7, q8, q9⟩ := inv_ch0 sh hd hlen hstart hio hk hnl hready hle hp
      obtain ⟨hlt, hkq'⟩ := List.getElem?_eq_some_iff.1 hkq
      rw [List.drop_eq_getElem_cons hlt, hkq'] at q3
      have hdeps : ∀ q ∈ depsIn ks o, q.2.holds h (α q.1) := by
        have := deps_hold (m := ks.length) hf hready
        rwa [List.take_length] at this
      obtain ⟨vs, hrun, hhas⟩ := AllDeps.use (q3 h w α q4 q5) hdeps
      rw [mix_eq hag, known_eq hhas, known_eq q6] at hrun
      refine OpsL.one hrun hfit ?_
      rintro a' σ' w' hf' ⟨v, rfl, h', own', e1, e2, e3⟩
      exact ih _ _ _ w' (by simpa using hsz) (unl_step hsz hil hnl hu) hf' (inv_ch1 sh hd hlen hsz hio hk hnl hag hle hf hkq q2 q6 q7 q8 q9 e1 e2 e3)
/-- a region that draws its order -/
theorem W.regionD {own : Own} {h : Heap} {w : World} {id : Nat} (st : St h0 w0 h w own) (hm : P.follows .mixedOrders = true) (sh : Shape n l ks cx er dsts)
    (hops : Hops P n l h0 w0 own h er dsts σ [] l ks) (hstart : StartOK P n l h0 w0 h dsts σ Q ks cx (alsOf 0 ks) own []) : W P n (.region id l.toArray true) Q σ w := by
  intro a ha
  refine wp_region_any hm ?_
  refine drawn sh hops hstart _ _ a σ _ (by simp) ?_ ha ⟨Agree.refl _ _, h, Le.refl h, ?_, .inl ⟨?_, ?_, ?_⟩⟩
  · unfold unl
    refine Nat.le_trans List.countP_le_length ?_
    simp
  · intro i d p hi _
    simp [Array.getElem?_replicate] at hi
  · intro q _ hi
    simp [Array.getElem?_replicate] at hi
  · have e : ents (Array.replicate l.toArray.size false) σ (alsOf 0 ks) = (alsOf 0 ks).map fun _ => [] := by
      unfold ents
      refine List.map_congr_left fun q _ => ?_
      rw [if_neg]
      intro hi
      simp [Array.getElem?_replicate] at hi
    rw [e]
    have : ∀ m : List (Nat × Nat × Obj), St h0 w0 h w.drew (own ++ m.map fun _ => []) := by
      intro m
      refine ⟨st.drew.le, st.drew.new, st.drew.sub, st.drew.below, ?_, ?_⟩
      · have e2 : (own ++ m.map fun _ => ([] : List (Nat × Obj))).flatten = own.flatten := by
          rw [List.flatten_append]; simp
        rw [e2]; exact st.drew.mine
      · have e2 : (own ++ m.map fun _ => ([] : List (Nat × Obj))).flatten = own.flatten := by
          rw [List.flatten_append]; simp
        rw [e2]; exact st.drew.nodup
    exact this _
  · intro q _ hi
    simp [Array.getElem?_replicate] at hi
end
section
variable {P : Program} {n : Nat} {l : List Oper} {h0 : Heap} {w0 : World} {own0 : Own} {hr : Heap} {er dsts : List Nat} {σ : Env} {Q : Exit → Env → World → Prop}
theorem Le.sub {h h' : Heap} {w : World} (hl : Le h h') (hs : Sub h' w) : Sub h w := fun b o e => hs b o (hl b o e)
/-- what an operation may lean on: what those at these places (from the last one back) left -/
def AllI (h : Heap) (rd : List (Nat × Kd)) : List Nat → (List (Nat × Value) → Prop) → Prop
  | [], k => k []
  | i :: is, k => match (rd[i]?).bind fltOf with
    | some (d, p) => ∀ g, p.fact g h → AllI h rd is (fun vs => k ((d, p.val g) :: vs))
    | none => AllI h rd is k
theorem AllI.to {h : Heap} {rd : List (Nat × Kd)} : ∀ {is : List Nat} {js : List Nat} {k : List (Nat × Value) → Prop}, (∀ j ∈ js, j < rd.length) → js.map (fun i => rd.length - 1 - i) = is → AllI h rd is k → AllDeps h (js.filterMap fun i => (rd.reverse[i]?).bind fltOf) k
  | _, [], k, _, e, hk => by subst e; exact hk
  | _, j :: js, k, hj, e, hk => by
    subst e
    have hlt := hj j (List.mem_cons_self ..)
    have hget : rd.reverse[j]? = rd[rd.length - 1 - j]? := by
      rw [List.getElem?_reverse hlt]
    rw [List.filterMap_cons, hget]
    rw [List.map_cons, AllI] at hk
    cases eq : (rd[rd.length - 1 - j]?).bind fltOf with
    | none =>
      rw [eq] at hk
      exact AllI.to (fun j hj' => hj j (List.mem_cons_of_mem _ hj')) rfl hk
    | some q =>
      rw [eq] at hk
      intro g hf
      exact AllI.to (fun j hj' => hj j (List.mem_cons_of_mem _ hj')) rfl (hk g hf)
variable (P n l h0 w0 own0 hr er dsts σ Q) in
def Drw (rd : List (Nat × Kd)) (rc : List (Nat × Oper)) (rest : List Oper) : Prop :=
  rd.length + rest.length = l.length → ∃ ks cx, Hops P n l h0 w0 own0 hr er dsts σ rd.reverse rest ks ∧ Shape n l (rd.reverse ++ ks) (rc.reverse ++ cx) er dsts ∧
    StartOK P n l h0 w0 hr dsts σ Q (rd.reverse ++ ks) (rc.reverse ++ cx) (alsOf 0 (rd.reverse ++ ks)) own0 []
theorem W.regionR {h : Heap} {w : World} {id : Nat} (st : St h0 w0 h w own0) (hm : P.follows .mixedOrders = true) (hd : Drw P n l h0 w0 own0 h er dsts σ Q [] [] l) : W P n (.region id l.toArray true) Q σ w := by
  obtain ⟨ks, cx, h1, h2, h3⟩ := hd (by simp)
  simp only [List.reverse_nil, List.nil_append] at h1 h2 h3
  exact W.regionD st hm h2 h1 h3
theorem Drw.flt {rd : List (Nat × Kd)} {rc : List (Nat × Oper)} {rest : List Oper} {o : Oper} {p : PF} {is : List Nat} (hlt : (depsOf o).all (fun j => Nat.blt j rd.length) = true) (his : (depsOf o).map (fun i => rd.length - 1 - i) = is)
    (H : ∀ h w τ, Le hr h → Sub h w → (inL er rd.length = true → St h0 w0 h w own0) → AllI h rd is (fun vs => HopRun P n l.toArray (known vs (mix dsts τ σ)) h w o p))
    (k : Drw P n l h0 w0 own0 hr er dsts σ Q ((dstOf o, .flt p) :: rd) rc rest) : Drw P n l h0 w0 own0 hr er dsts σ Q rd rc (o :: rest) := by
  intro hlen
  obtain ⟨ks, cx, h1, h2, h3⟩ := k (by simp at hlen ⊢; omega)
  refine ⟨_ :: ks, cx, .flt _ _ _ _ _ ?_ (by simpa using h1), by simpa using h2, by simpa using h3⟩
  intro h w τ hl hs ho
  refine AllI.to (fun j hj => Nat.le_of_ble_eq_true (List.all_eq_true.1 hlt j hj)) his (H h w τ hl hs ?_)
  rwa [List.length_reverse] at ho
theorem Drw.al {rd : List (Nat × Kd)} {rc : List (Nat × Oper)} {rest : List Oper} {dst : Option Tmp} {e : TypeId} {ty : TypeId} {pos : String} {aft : Array Edge} {z : Value} {cs : List Value} (hz : ∀ w, (zeroValue e).run P w = .ok z w) (hc : z.cells = cs.toArray)
    (k : Drw P n l h0 w0 own0 hr er dsts σ Q ((dstOf ⟨dst, .alloc e, ty, pos, aft, none⟩, .al (.cells cs.toArray e)) :: rd) rc rest) : Drw P n l h0 w0 own0 hr er dsts σ Q rd rc (⟨dst, .alloc e, ty, pos, aft, none⟩ :: rest) := by
  intro hlen
  obtain ⟨ks, cx, h1, h2, h3⟩ := k (by simp at hlen ⊢; omega)
  exact ⟨_ :: ks, cx, .al _ _ _ _ _ ⟨rfl, fun σ w => r_alloc hz hc⟩ (by simpa using h1), by simpa using h2, by simpa using h3⟩
theorem Drw.ch {rd : List (Nat × Kd)} {rc : List (Nat × Oper)} {rest : List Oper} {o : Oper}
    (k : Drw P n l h0 w0 own0 hr er dsts σ Q ((dstOf o, .ch) :: rd) ((rd.length, o) :: rc) rest) : Drw P n l h0 w0 own0 hr er dsts σ Q rd rc (o :: rest) := by
  intro hlen
  obtain ⟨ks, cx, h1, h2, h3⟩ := k (by simp at hlen ⊢; omega)
  exact ⟨_ :: ks, _ :: cx, .ch _ _ _ _ (by simpa using h1), by simpa using h2, by simpa using h3⟩
theorem Drw.nil {rd : List (Nat × Kd)} {rc : List (Nat × Oper)} {ks : List (Nat × Kd)} {cx : List (Nat × Oper)} {as : List (Nat × Nat × Obj)} (hk : rd.reverse = ks) (hx : rc.reverse = cx) (ha : alsOf 0 ks = as) (sh : Shape n l ks cx er dsts) (hs : StartOK P n l h0 w0 hr dsts σ Q ks cx as own0 []) : Drw P n l h0 w0 own0 hr er dsts σ Q rd rc [] := by
  intro _
  refine ⟨[], [], .nil _, ?_, ?_⟩
  · simpa [hk, hx] using sh
  · simp only [List.append_nil, hk, hx, ha]; exact hs
/-- an operation of one value -/
theorem Drw.det {rd : List (Nat × Kd)} {rc : List (Nat × Oper)} {rest : List Oper} {o : Oper} {v : Value} {is : List Nat} (hlt : (depsOf o).all (fun j => Nat.blt j rd.length) = true) (his : (depsOf o).map (fun i => rd.length - 1 - i) = is) (hg : o.guard = none) (hd : dstOk n o.dst = true)
    (H : ∀ h w τ, Le hr h → Sub h w → (inL er rd.length = true → St h0 w0 h w own0) → AllI h rd is (fun vs => Run P (known vs (mix dsts τ σ)) w o v w))
    (k : Drw P n l h0 w0 own0 hr er dsts σ Q ((dstOf o, .flt (.det v)) :: rd) rc rest) : Drw P n l h0 w0 own0 hr er dsts σ Q rd rc (o :: rest) := by
  refine Drw.flt hlt his (fun h w τ hl hs ho => ?_) k
  have key : ∀ (is : List Nat) (K K' : List (Nat × Value) → Prop), (∀ vs, K vs → K' vs) → AllI h rd is K → AllI h rd is K' := by
    intro is
    induction is with
    | nil => exact fun K K' hkk h => hkk _ h
    | cons i is ih =>
      intro K K' hkk h
      rw [AllI] at h ⊢
      split
      · rename_i d p eq; rw [eq] at h; exact fun g hf => ih _ _ (fun vs => hkk _) (h g hf)
      · rename_i eq; rw [eq] at h; exact ih _ _ hkk h
  refine key _ _ _ (fun vs hrun => ?_) (H h w τ hl hs ho)
  exact OpsL.val hg hd hrun (OpsL.nil ⟨v, h, rfl, St.start hs, (), rfl, trivial⟩)
theorem Run.lit {w w' : World} {o : Oper} {t b : Bool} (h : Run P σ w o (.bool t) w') (e : t = b) : Run P σ w o (.bool b) w' := e ▸ h
/-- what a call or a made slice leaves: any value of which the facts hold -/
def PF.res (Φ : Heap → Value → Prop) (up : ∀ h h' v, Le h h' → Φ h v → Φ h' v) : PF := ⟨Value, id, fun v h => Φ h v, fun _ _ _ hf hl => up _ _ _ hl hf⟩
end
section
variable {P : Program} {n : Nat} {l : List Oper} {h0 : Heap} {w0 : World} {own0 : Own} {hr : Heap} {er dsts : List Nat} {σ : Env} {Q : Exit → Env → World → Prop}
theorem AllI.mono {h : Heap} {rd : List (Nat × Kd)} : ∀ {is : List Nat} {K K' : List (Nat × Value) → Prop}, (∀ vs, K vs → K' vs) → AllI h rd is K → AllI h rd is K'
  | [], _, _, hk, h => hk _ h
  | i :: is, K, K', hk, h => by
    rw [AllI] at h ⊢
    split
    · rename_i d p eq; rw [eq] at h; exact fun g hf => AllI.mono (fun vs => hk _) (h g hf)
    · rename_i eq; rw [eq] at h; exact AllI.mono hk h
theorem Drw.flt' {rd : List (Nat × Kd)} {rc : List (Nat × Oper)} {rest : List Oper} {o : Oper} (m : Nat) (p : PF) (is : List Nat) (hm : rd.length = m) (hlt : (depsOf o).all (fun j => Nat.blt j m) = true) (his : (depsOf o).map (fun i => m - 1 - i) = is)
    (H : ∀ h w τ, Le hr h → Sub h w → (inL er m = true → St h0 w0 h w own0) → AllI h rd is (fun vs => HopRun P n l.toArray (known vs (mix dsts τ σ)) h w o p))
    (k : Drw P n l h0 w0 own0 hr er dsts σ Q ((dstOf o, .flt p) :: rd) rc rest) : Drw P n l h0 w0 own0 hr er dsts σ Q rd rc (o :: rest) := by
  subst hm
  exact Drw.flt hlt his H k
theorem Drw.det' {rd : List (Nat × Kd)} {rc : List (Nat × Oper)} {rest : List Oper} {o : Oper} {v : Value} (m : Nat) (is : List Nat) (hm : rd.length = m) (hlt : (depsOf o).all (fun j => Nat.blt j m) = true) (his : (depsOf o).map (fun i => m - 1 - i) = is) (hg : o.guard = none) (hd : dstOk n o.dst = true)
    (H : ∀ h w τ, Le hr h → Sub h w → (inL er m = true → St h0 w0 h w own0) → AllI h rd is (fun vs => Run P (known vs (mix dsts τ σ)) w o v w))
    (k : Drw P n l h0 w0 own0 hr er dsts σ Q ((dstOf o, .flt (.det v)) :: rd) rc rest) : Drw P n l h0 w0 own0 hr er dsts σ Q rd rc (o :: rest) := by
  subst hm
  exact Drw.det hlt his hg hd H k
/-- an operation of one value whose guard holds -/
theorem Drw.detG {rd : List (Nat × Kd)} {rc : List (Nat × Oper)} {rest : List Oper} {dst : Option Tmp} {op : Op} {type : TypeId} {pos : String} {after : Array Edge} {g d : Nat} {b : Bool} {v : Value} (m : Nat) (is : List Nat) (hm : rd.length = m)
    (hlt : (depsOf ⟨dst, op, type, pos, after, some (g, b)⟩).all (fun j => Nat.blt j m) = true) (his : (depsOf ⟨dst, op, type, pos, after, some (g, b)⟩).map (fun i => m - 1 - i) = is) (hgd : (l.toArray[g]?).bind (·.dst) = some d) (hdn : Nat.blt d n = true) (hd : dstOk n dst = true)
    (H : ∀ h w τ, Le hr h → Sub h w → (inL er m = true → St h0 w0 h w own0) → AllI h rd is (fun vs => known vs (mix dsts τ σ) d = .bool b ∧ Run P (known vs (mix dsts τ σ)) w ⟨dst, op, type, pos, after, none⟩ v w))
    (k : Drw P n l h0 w0 own0 hr er dsts σ Q ((dstOf ⟨dst, op, type, pos, after, some (g, b)⟩, .flt (.det v)) :: rd) rc rest) : Drw P n l h0 w0 own0 hr er dsts σ Q rd rc (⟨dst, op, type, pos, after, some (g, b)⟩ :: rest) := by
  refine Drw.flt' m _ is hm hlt his (fun h w τ hl hs ho => AllI.mono (fun vs => ?_) (H h w τ hl hs ho)) k
  rintro ⟨hv, hrun⟩
  exact OpsL.guarded hgd hdn hv (OpsL.val rfl hd hrun (OpsL.nil ⟨v, h, rfl, St.start hs, (), rfl, trivial⟩))
/-- and one whose guard does not -/
theorem Drw.skip {rd : List (Nat × Kd)} {rc : List (Nat × Oper)} {rest : List Oper} {dst : Option Tmp} {op : Op} {type : TypeId} {pos : String} {after : Array Edge} {g d : Nat} {b c : Bool} (m : Nat) (is : List Nat) (hm : rd.length = m)
    (hlt : (depsOf ⟨dst, op, type, pos, after, some (g, b)⟩).all (fun j => Nat.blt j m) = true) (his : (depsOf ⟨dst, op, type, pos, after, some (g, b)⟩).map (fun i => m - 1 - i) = is) (hgd : (l.toArray[g]?).bind (·.dst) = some d) (hdn : Nat.blt d n = true) (hd : dstOk n dst = true) (hc : (c == b) = false)
    (H : ∀ h w τ, Le hr h → Sub h w → (inL er m = true → St h0 w0 h w own0) → AllI h rd is (fun vs => known vs (mix dsts τ σ) d = .bool c))
    (k : Drw P n l h0 w0 own0 hr er dsts σ Q ((dstOf ⟨dst, op, type, pos, after, some (g, b)⟩, .flt (.det undef)) :: rd) rc rest) : Drw P n l h0 w0 own0 hr er dsts σ Q rd rc (⟨dst, op, type, pos, after, some (g, b)⟩ :: rest) := by
  refine Drw.flt' m _ is hm hlt his (fun h w τ hl hs ho => AllI.mono (fun vs => ?_) (H h w τ hl hs ho)) k
  intro hv
  exact OpsL.skipped hgd hdn hv hc hd (OpsL.nil ⟨undef, h, rfl, St.start hs, (), rfl, trivial⟩)
theorem cx_nil : ∀ q ∈ ([] : List (Nat × Oper)), l[q.1]? = some q.2 := by simp
theorem cx_cons {i : Nat} {o : Oper} {r : List (Nat × Oper)} (h : l[i]? = some o) (hr : ∀ q ∈ r, l[q.1]? = some q.2) : ∀ q ∈ (i, o) :: r, l[q.1]? = some q.2 := by
  intro q hq
  rcases List.mem_cons.1 hq with rfl | hq
  · exact h
  · exact hr q hq
end
theorem AllDeps.fin {h : Heap} {l : List (Nat × PF)} {k : List (Nat × Value) → Prop} (e : l = []) (hk : k []) : AllDeps h l k := by
  subst e; exact hk
end Go.Pk
