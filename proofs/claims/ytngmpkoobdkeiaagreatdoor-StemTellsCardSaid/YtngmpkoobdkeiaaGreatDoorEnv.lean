/- WALKING WITH AN ENVIRONMENT: a frame's slots as a function, its rules; no program in sight. -/
import Derived.Tactics
import Derived.Below
namespace Go.Pk
open Go Go.RowKit

abbrev Env := Nat → Value
def upd (σ : Env) (d : Nat) (v : Value) : Env := fun i => bif Nat.beq i d then v else σ i
def updO (σ : Env) (d : Option Nat) (v : Value) : Env := match d with | some d => upd σ d v | none => σ
def ev (σ : Env) : Operand → Value
  | .tmp t => σ t
  | .const v => v
  | .global g => .pointer (some ⟨g, 0, none⟩)
  | .func f => .func (.func f) #[] #[]
theorem upd_same (σ : Env) (d : Nat) (v : Value) : upd σ d v d = v := by simp [upd]
theorem upd_ne (σ : Env) (d i : Nat) (v : Value) (h : i ≠ d) : upd σ d v i = σ i := by
  have : Nat.beq i d = false := by
    cases e : Nat.beq i d with
    | true => exact absurd (Nat.eq_of_beq_eq_true e) h
    | false => rfl
  simp [upd, this]
theorem upd_self (σ : Env) (d : Nat) (v : Value) (h : σ d = v) : upd σ d v = σ := by
  funext i
  by_cases e : i = d
  · subst e; rw [upd_same, h]
  · rw [upd_ne _ _ _ _ e]

structure Fits (n : Nat) (a : Act) (σ : Env) : Prop where
  size : a.tmps.size = n
  defers : a.defers = []
  at_ : ∀ i, a.tmps.getD i undef = σ i
theorem Fits.eval {n : Nat} {a : Act} {σ : Env} (h : Fits n a σ) : a.eval = ev σ := by
  funext x; cases x <;> simp only [Act.eval, ev]; exact h.at_ _
def dstOk (n : Nat) : Option Nat → Bool
  | some d => Nat.blt d n
  | none => true
theorem Fits.put {n : Nat} {a : Act} {σ : Env} (h : Fits n a σ) {d : Option Nat} (hd : dstOk n d = true) (v : Value) : Fits n (a.put d v) (updO σ d v) := by
  cases d with
  | none => exact h
  | some d =>
    have hd' : d < n := Nat.le_of_ble_eq_true hd
    refine ⟨by simp [Act.put, h.size], h.defers, fun i => ?_⟩
    show (a.tmps.setIfInBounds d v).getD i undef = upd σ d v i
    by_cases e : i = d
    · subst e; rw [upd_same]; simp [Array.getD, h.size, hd']
    · rw [upd_ne _ _ _ _ e, ← h.at_ i]
      simp only [Array.getD_eq_getD_getElem?]
      rw [Array.getElem?_setIfInBounds_ne (Ne.symm e)]

/-- what a piece of code does, over environments -/
def W (P : Program) (n : Nat) (c : Code) (Q : Exit → Env → World → Prop) (σ : Env) (w : World) : Prop :=
  ∀ a, Fits n a σ → c.wp P (fun e a' w' => ∃ σ', Fits n a' σ' ∧ Q e σ' w') a w
def Then (K : Env → World → Prop) (Q : Exit → Env → World → Prop) : Exit → Env → World → Prop
  | .normal, σ, w => K σ w
  | e, σ, w => Q e σ w
def Blk (id : Nat) (Q : Exit → Env → World → Prop) : Exit → Env → World → Prop
  | .exit id', σ, w => if id' = id then Q .normal σ w else Q (.exit id') σ w
  | e, σ, w => Q e σ w
section
variable {P : Program} {n : Nat} {Q : Exit → Env → World → Prop} {σ : Env} {w : World}
theorem W.mono {c : Code} {Q' : Exit → Env → World → Prop} (h : W P n c Q σ w) (hq : ∀ e σ w, Q e σ w → Q' e σ w) : W P n c Q' σ w :=
  fun a ha => Code.wp_mono (fun _ _ _ ⟨σ', hf, q⟩ => ⟨σ', hf, hq _ _ _ q⟩) (h a ha)
theorem W.skip (h : Q .normal σ w) : W P n .skip Q σ w := fun _ ha => wp_skip ⟨σ, ha, h⟩
theorem W.label {l : Nat} (h : Q .normal σ w) : W P n (.label l) Q σ w := fun _ ha => wp_label ⟨σ, ha, h⟩
theorem W.exit {id : Nat} (h : Q (.exit id) σ w) : W P n (.exit id) Q σ w := fun _ ha => wp_exit ⟨σ, ha, h⟩
theorem W.goto {l : Nat} (h : Q (.goto l) σ w) : W P n (.goto l) Q σ w := fun _ ha => wp_goto ⟨σ, ha, h⟩
theorem W.ret (h : Q .ret σ w) : W P n .ret Q σ w := fun _ ha => wp_ret ⟨σ, ha, h⟩
theorem W.seq {x y : Code} (h : W P n x (Then (W P n y Q) Q) σ w) : W P n (.seq x y) Q σ w := by
  intro a ha
  refine wp_seq (Code.wp_mono ?_ (h a ha))
  rintro e a' w' ⟨σ', hf, q⟩
  cases e <;> first | exact q a' hf | exact ⟨σ', hf, q⟩
theorem W.block {id : Nat} {c : Code} (h : W P n c (Blk id Q) σ w) : W P n (.block id c) Q σ w := by
  intro a ha
  refine wp_block (Code.wp_mono ?_ (h a ha))
  rintro e a' w' ⟨σ', hf, q⟩
  cases e with
  | exit id' =>
    simp only [Blk] at q
    simp only [Exit.inBlock]
    split
    · rename_i h; rw [if_pos h] at q; exact ⟨σ', hf, q⟩
    · rename_i h; rw [if_neg h] at q; exact ⟨σ', hf, q⟩
  | _ => exact ⟨σ', hf, q⟩
theorem W.cond {c : Operand} {x y : Code} {t : Bool} (hc : ev σ c = .bool t) (ht : t = true → W P n x Q σ w) (hf : t = false → W P n y Q σ w) : W P n (.cond c x y) Q σ w := by
  intro a ha
  exact wp_cond_split (t := t) (by rw [ha.eval]; exact hc) (fun e => ht e a ha) (fun e => hf e a ha)
theorem W.loop {c : Code} {G : Type} (I : G → Env → World → Prop) (μ : G → Nat) (g : G) (h0 : I g σ w)
    (round : ∀ g σ w, I g σ w → W P n c (Then (fun σ' w' => ∃ g', I g' σ' w' ∧ μ g' < μ g) Q) σ w) : W P n (.loop c) Q σ w := by
  intro a ha b kk cs
  have key : ∀ k g σ w a, μ g = k → I g σ w → Fits n a σ →
      ∃ e a' w', (∃ σ', Fits n a' σ' ∧ Q e σ' w') ∧ Arrives P (lone (b.at a (.code c :: .inLoop c :: kk)) cs w) b kk cs e a' w' := by
    intro k
    induction k using Nat.strongRecOn with
    | _ k ih =>
      intro g σ w a hk hI ha
      obtain ⟨e, a₁, w₁, ⟨σ₁, hf₁, hq⟩, harr⟩ := round g σ w hI a ha b (.inLoop c :: kk) cs
      cases e with
      | normal =>
        obtain ⟨g', hI', hlt⟩ := hq
        obtain ⟨e₂, a₂, w₂, hq₂, harr₂⟩ := ih (μ g') (hk ▸ hlt) g' σ₁ w₁ a₁ rfl hI' hf₁
        exact ⟨e₂, a₂, w₂, hq₂, .of_steps (Steps.trans harr (.one step_inLoop)) harr₂⟩
      | exit id => exact ⟨_, a₁, w₁, ⟨σ₁, hf₁, hq⟩, .pass (x := .inLoop c) rfl (fun _ _ => .inl (by simp)) harr⟩
      | goto l => exact ⟨_, a₁, w₁, ⟨σ₁, hf₁, hq⟩, .pass (x := .inLoop c) rfl (fun _ _ => .inl (by simp)) harr⟩
      | ret => exact ⟨_, a₁, w₁, ⟨σ₁, hf₁, hq⟩, .pass (x := .inLoop c) rfl (fun _ _ => .inl (by simp)) harr⟩
      | panic ch => exact ⟨_, a₁, w₁, ⟨σ₁, hf₁, hq⟩, .pass (x := .inLoop c) rfl (fun _ _ => .inl (by simp)) harr⟩
      | outgrown => exact ⟨_, a₁, w₁, ⟨σ₁, hf₁, hq⟩, .pass (x := .inLoop c) rfl (fun _ _ => .inl (by simp)) harr⟩
  obtain ⟨e, a', w', hq, harr⟩ := key _ g σ w a rfl h0 ha
  exact ⟨e, a', w', hq, .of_steps (.one step_loop) harr⟩

/-- the operations of a region, in the order of the list -/
def OpsL (P : Program) (n : Nat) (ops : Array Oper) (l : List Oper) (K : Env → World → Prop) (σ : Env) (w : World) : Prop :=
  ∀ a, Fits n a σ → wpList P ops (fun e a' w' => e = .normal ∧ ∃ σ', Fits n a' σ' ∧ K σ' w') l a w
theorem W.region {id : Nat} {l : List Oper} (h : OpsL P n l.toArray l (fun σ w => Q .normal σ w) σ w) : W P n (.region id l.toArray false) Q σ w := by
  intro a ha
  refine Code.wp_mono ?_ (wp_region_lit (h a ha))
  rintro e a' w' ⟨rfl, σ', hf, q⟩
  exact ⟨σ', hf, q⟩
variable {ops : Array Oper} {rest : List Oper} {K : Env → World → Prop}
theorem OpsL.nil (h : K σ w) : OpsL P n ops [] K σ w := fun _ ha => ⟨rfl, σ, ha, h⟩
theorem OpsL.of_wp {o : Oper} (hg : o.guard = none)
    (h : ∀ a, Fits n a σ → o.wp P a w (wpList P ops (fun e a' w' => e = .normal ∧ ∃ σ', Fits n a' σ' ∧ K σ' w') rest) (fun e a' w' => e = .normal ∧ ∃ σ', Fits n a' σ' ∧ K σ' w')) : OpsL P n ops (o :: rest) K σ w := by
  intro a ha
  unfold wpList
  rw [if_pos (by simp [Region.wanted, hg])]
  exact .inl (h a ha)
theorem OpsL.val {o : Oper} {v : Value} {w' : World} (hg : o.guard = none) (hd : dstOk n o.dst = true)
    (hrun : (execOp (ev σ) o).run P w = .ok (.value v) w') (h : OpsL P n ops rest K (updO σ o.dst v) w') : OpsL P n ops (o :: rest) K σ w :=
  .of_wp hg fun a ha => by
    unfold Oper.wp; rw [ha.eval, hrun]
    exact h _ (ha.put hd v)
theorem OpsL.eff {o : Oper} {w' : World} (hg : o.guard = none) (hd : o.dst = none)
    (hrun : (execOp (ev σ) o).run P w = .ok .skip w') (h : OpsL P n ops rest K σ w') : OpsL P n ops (o :: rest) K σ w :=
  .of_wp hg fun a ha => by
    unfold Oper.wp; rw [ha.eval, hrun]
    simp only [Oper.upon, hd, Act.put]
    exact h _ ha
theorem OpsL.calls {o : Oper} {f : FuncId} {args : Array Value} {w' : World} (hg : o.guard = none) (hd : dstOk n o.dst = true)
    (hrun : (execOp (ev σ) o).run P w = .ok (.enter f args) w')
    (h : Calls P f args w' fun e w'' => ∃ v, e = .returned v ∧ OpsL P n ops rest K (updO σ o.dst v) w'') : OpsL P n ops (o :: rest) K σ w :=
  .of_wp hg fun a ha => by
    unfold Oper.wp; rw [ha.eval, hrun]
    refine Calls.mono h ?_
    rintro e w'' ⟨v, rfl, hv⟩
    exact hv _ (ha.put hd v)
theorem yielded_bool {a : Act} {g d : Nat} {b : Bool} (ha : Fits n a σ) (hg : (ops[g]?).bind (·.dst) = some d) (hd : Nat.blt d n = true) (hv : σ d = .bool b) : yielded ops a.tmps g = some b := by
  have hd' : d < a.tmps.size := by rw [ha.size]; exact Nat.le_of_ble_eq_true hd
  have h1 : a.tmps[d]? = some (.bool b) := by
    have := ha.at_ d
    rw [hv] at this
    simp only [Array.getD_eq_getD_getElem?] at this
    rw [Array.getElem?_eq_getElem hd'] at this ⊢
    simpa using this
  simp [yielded, hg, h1]
/-- a guarded operation whose guard holds: as if it had none -/
theorem OpsL.guarded {dst : Option Tmp} {op : Op} {type : TypeId} {pos : String} {after : Array Edge} {g d : Nat} {b : Bool}
    (hg : (ops[g]?).bind (·.dst) = some d) (hd : Nat.blt d n = true) (hv : σ d = .bool b)
    (h : OpsL P n ops (⟨dst, op, type, pos, after, none⟩ :: rest) K σ w) : OpsL P n ops (⟨dst, op, type, pos, after, some (g, b)⟩ :: rest) K σ w := by
  intro a ha
  have := h a ha
  unfold wpList at this ⊢
  rw [if_pos (by simp [Region.wanted])] at this
  rw [if_pos (by simp [Region.wanted, yielded_bool ha hg hd hv])]
  exact this
/-- and one whose guard does not hold: nothing -/
theorem OpsL.skipped {dst : Option Tmp} {op : Op} {type : TypeId} {pos : String} {after : Array Edge} {g d : Nat} {b c : Bool}
    (hg : (ops[g]?).bind (·.dst) = some d) (hd : Nat.blt d n = true) (hv : σ d = .bool c) (hc : (c == b) = false) (hdst : dstOk n dst = true)
    (h : OpsL P n ops rest K (updO σ dst undef) w) : OpsL P n ops (⟨dst, op, type, pos, after, some (g, b)⟩ :: rest) K σ w := by
  intro a ha
  unfold wpList
  rw [if_neg (by simp [Region.wanted, yielded_bool ha hg hd hv]; simpa using hc)]
  exact h _ (ha.put hdst _)
/-- a slot's bool, decided -/
theorem OpsL.split {l : List Oper} {d : Nat} {t : Bool} (hv : σ d = .bool t)
    (h1 : t = true → OpsL P n ops l K (upd σ d (.bool true)) w) (h2 : t = false → OpsL P n ops l K (upd σ d (.bool false)) w) : OpsL P n ops l K σ w := by
  cases t with
  | true => have := h1 rfl; rwa [upd_self _ _ _ hv] at this
  | false => have := h2 rfl; rwa [upd_self _ _ _ hv] at this
theorem OpsL.mono {l : List Oper} {K' : Env → World → Prop} (h : OpsL P n ops l K σ w) (hk : ∀ σ w, K σ w → K' σ w) : OpsL P n ops l K' σ w := by
  intro a ha
  have := h a ha
  clear h ha
  revert this
  generalize hq : (fun (e : Exit) (a' : Act) (w' : World) => e = .normal ∧ ∃ σ', Fits n a' σ' ∧ K σ' w') = q
  generalize hq' : (fun (e : Exit) (a' : Act) (w' : World) => e = .normal ∧ ∃ σ', Fits n a' σ' ∧ K' σ' w') = q'
  have hqq : ∀ e a w, q e a w → q' e a w := by
    subst hq; subst hq'
    rintro e a w ⟨h1, σ', h2, h3⟩
    exact ⟨h1, σ', h2, hk _ _ h3⟩
  have hout : LetsOut q → LetsOut q' := fun ⟨a, w, h⟩ => ⟨a, w, hqq _ _ _ h⟩
  clear hq hq'
  revert a w
  induction l with
  | nil => intro w a h; exact hqq _ _ _ h
  | cons o l ih =>
    intro w a h
    unfold wpList at h ⊢
    split
    · rename_i hw
      rw [if_pos hw] at h
      rcases h with h | ⟨h1, h2⟩
      · left
        unfold Oper.wp at h ⊢
        generalize (execOp a.eval o).run P w = r at *
        cases r with
        | ok nx w' =>
          cases nx <;> simp only [Oper.upon] at h ⊢ <;>
            first
              | exact ih _ h
              | exact Calls.mono h (fun e w'' he => by cases e <;> first | exact ih _ he | exact hqq _ _ _ he | exact hout he)
              | exact Rows.mono h (fun _ _ he => ih _ he)
              | exact h
        | halt x w' => cases x <;> simp only [Oper.upon] at h ⊢ <;> first | exact hqq _ _ _ h | exact h
      · exact .inr ⟨h1, hout h2⟩
    · rename_i hw
      rw [if_neg hw] at h
      exact ih _ h
end

/-- what a function's body has to show -/
def Post (fn : Func) (P : Program) (R : Ending → World → Prop) : Exit → Env → World → Prop
  | .normal, σ, w | .ret, σ, w => ∀ tmps : Array Value, (∀ i, tmps.getD i undef = σ i) → ∃ v, (results fn tmps).run P w = .ok v w ∧ R (.returned v) w
  | _, _, _ => False
/-- the environment at a function's start -/
def start : List Value → Env
  | [], _ => undef
  | v :: _, 0 => v
  | _ :: l, i + 1 => start l i
theorem start_eq (l : List Value) : ∀ i, l.getD i undef = start l i := by
  induction l with
  | nil => intro i; simp [start]
  | cons v l ih => intro i; cases i with
    | zero => simp [start]
    | succ i => simpa [start] using ih i
theorem W.calls {P : Program} {f : FuncId} {fn : Func} {c : Code} {n : Nat} {args : List Value} {w : World} {R : Ending → World → Prop}
    (hf : P.funcs[f]? = some fn) (hb : fn.body = some c) (hn : fn.ntmps = n) (hl : Nat.ble args.length n = true)
    (h : W P n c (Post fn P R) (start args) w) : Calls P f args.toArray w R := by
  have hl' : args.length ≤ n := by simpa using hl
  refine calls_of_wp hf hb ?_
  have hfit : Fits n { tmps := args.toArray ++ Array.replicate (fn.ntmps - args.toArray.size) undef, defers := [] } (start args) := by
    refine ⟨by simp [hn]; omega, rfl, fun i => ?_⟩
    rw [← start_eq]
    simp only [Array.getD_eq_getD_getElem?, List.getD_eq_getElem?_getD]
    by_cases hi : i < args.length
    · rw [Array.getElem?_append_left (by simpa using hi)]; simp
    · rw [Array.getElem?_append_right (by simpa using hi), List.getElem?_eq_none (by omega)]
      by_cases hj : i - args.toArray.size < fn.ntmps - args.toArray.size
      · rw [Array.getElem?_replicate, if_pos hj]; rfl
      · rw [Array.getElem?_replicate, if_neg hj]
  refine Code.wp_mono ?_ (h _ hfit)
  rintro e a' w' ⟨σ', hf', hq⟩
  cases e with
  | normal => exact ⟨hf'.defers, hq _ hf'.at_⟩
  | ret => exact ⟨hf'.defers, hq _ hf'.at_⟩
  | exit id => exact hq.elim
  | goto l => exact hq.elim
  | panic ch => exact hq.elim
  | outgrown => exact hq.elim
theorem Post.ret1 {fn : Func} {P : Program} {R : Ending → World → Prop} {t : Nat} {σ : Env} {w : World} (hr : fn.results = #[.tmp t]) (h : R (.returned (σ t)) w) : Post fn P R .ret σ w :=
  fun tmps ht => ⟨_, results_tmp hr tmps P w, by rw [ht]; exact h⟩
theorem Post.ret2 {fn : Func} {P : Program} {R : Ending → World → Prop} {t u : Nat} {σ : Env} {w : World} (hr : fn.results = #[.tmp t, .tmp u]) (h : R (.returned (.tuple #[σ t, σ u])) w) : Post fn P R .ret σ w :=
  fun tmps ht => ⟨_, results_tmp2 hr tmps P w, by rw [ht, ht]; exact h⟩
theorem Post.ret0 {fn : Func} {P : Program} {R : Ending → World → Prop} {σ : Env} {w : World} (hr : fn.results = #[]) (h : R (.returned (.tuple #[])) w) : Post fn P R .ret σ w :=
  fun tmps _ => ⟨_, results_none hr tmps P w, h⟩
theorem Post.end1 {fn : Func} {P : Program} {R : Ending → World → Prop} {t : Nat} {σ : Env} {w : World} (hr : fn.results = #[.tmp t]) (h : R (.returned (σ t)) w) : Post fn P R .normal σ w := Post.ret1 (P := P) hr h
theorem Post.end2 {fn : Func} {P : Program} {R : Ending → World → Prop} {t u : Nat} {σ : Env} {w : World} (hr : fn.results = #[.tmp t, .tmp u]) (h : R (.returned (.tuple #[σ t, σ u])) w) : Post fn P R .normal σ w := Post.ret2 (P := P) hr h
theorem Post.end0 {fn : Func} {P : Program} {R : Ending → World → Prop} {σ : Env} {w : World} (hr : fn.results = #[]) (h : R (.returned (.tuple #[])) w) : Post fn P R .normal σ w := Post.ret0 (P := P) hr h

/-- slots written in a loop's body, slots known at its head -/
def inL : List Nat → Nat → Bool
  | [], _ => false
  | d :: l, i => bif Nat.beq i d then true else inL l i
def mix (mods : List Nat) (τ σ : Env) : Env := fun i => bif inL mods i then τ i else σ i
def known : List (Nat × Value) → Env → Env
  | [], σ => σ
  | (d, v) :: l, σ => upd (known l σ) d v
def Has (σ : Env) : List (Nat × Value) → Prop
  | [] => True
  | (d, v) :: l => σ d = v ∧ Has σ l
def Agree (mods : List Nat) (σ' σ : Env) : Prop := ∀ i, inL mods i = false → σ' i = σ i
theorem known_eq {l : List (Nat × Value)} {σ : Env} (h : Has σ l) : known l σ = σ := by
  induction l with
  | nil => rfl
  | cons p l ih =>
    obtain ⟨d, v⟩ := p
    obtain ⟨h1, h2⟩ := h
    simp only [known]
    rw [ih h2, upd_self _ _ _ h1]
theorem mix_eq {mods : List Nat} {σ' σ : Env} (h : Agree mods σ' σ) : mix mods σ' σ = σ' := by
  funext i
  simp only [mix]
  cases e : inL mods i with
  | true => rfl
  | false => exact (h i e).symm
theorem loop_back {mods : List Nat} {l : List (Nat × Value)} {σ' σ : Env} (hh : Has σ' l) (ha : Agree mods σ' σ) : ∃ τ, σ' = known l (mix mods τ σ) :=
  ⟨σ', by rw [mix_eq ha, known_eq hh]⟩
theorem Agree.refl (mods : List Nat) (σ : Env) : Agree mods σ σ := fun _ _ => rfl
theorem Agree.upd {mods : List Nat} {σ' σ : Env} {d : Nat} {v : Value} (hd : inL mods d = true) (h : Agree mods σ' σ) : Agree mods (upd σ' d v) σ := fun i hi => by
  have hne : i ≠ d := by rintro rfl; rw [hd] at hi; cases hi
  rw [upd_ne _ _ _ _ hne]; exact h i hi
theorem Agree.mix (mods : List Nat) (τ σ : Env) : Agree mods (mix mods τ σ) σ := fun i hi => by simp only [Pk.mix, hi, cond_false]
def subset (a b : List Nat) : Bool := a.all fun i => inL b i
theorem Agree.sub {mods mods' : List Nat} {σ' σ τ : Env} (hs : subset mods' mods = true) (h : Agree mods σ' σ) : Agree mods (Pk.mix mods' τ σ') σ := fun i hi => by
  simp only [Pk.mix]
  cases e : inL mods' i with
  | true =>
    have : inL mods i = true := by
      clear hi h
      revert hs e
      induction mods' with
      | nil => intro _ e; cases e
      | cons d l ih =>
        intro hs e
        simp only [subset, List.all_cons, Bool.and_eq_true] at hs
        simp only [inL] at e
        cases hd : Nat.beq i d with
        | true => rw [Nat.eq_of_beq_eq_true hd]; exact hs.1
        | false => rw [hd] at e; exact ih hs.2 e
    rw [this] at hi; cases hi
  | false => exact h i hi
end Go.Pk
