/- REGIONS THAT DRAW THEIR ORDER AND ONLY READ (or call what hands back a value that does not hang on memory). -/
import Derived.Test.YtngmpkoobdkeiaaGreatDoorOps
import Derived.Deep.Quiet
namespace Go.Pk
open Go Go.RowKit
def OpsQ (P : Program) (n : Nat) (ops : Array Oper) (C : World → Prop) (l : List Oper) (K : Env → Prop) (σ : Env) : Prop :=
  ∀ a, Fits n a σ → wpQuiet P ops C (fun a' => ∃ σ', Fits n a' σ' ∧ K σ') l a
def Cls (h : Heap) (w : World) : World → Prop := fun w' => ∃ h', St h w h' w' []
section
variable {P : Program} {n : Nat} {ops : Array Oper} {C : World → Prop} {rest : List Oper} {K : Env → Prop} {σ : Env} {w : World}
theorem OpsQ.nil (h : K σ) : OpsQ P n ops C [] K σ := fun _ ha => ⟨σ, ha, h⟩
theorem OpsQ.val {o : Oper} {v : Value} (hg : o.guard = none) (hd : dstOk n o.dst = true) (hrun : ∀ w, C w → Run P σ w o v w) (h : OpsQ P n ops C rest K (updO σ o.dst v)) : OpsQ P n ops C (o :: rest) K σ := by
  intro a ha
  unfold wpQuiet
  rw [if_pos (by simp [Region.wanted, hg])]
  refine ⟨v, fun w hw => ?_, h _ (ha.put hd v)⟩
  unfold Oper.quietAt
  rw [ha.eval, hrun w hw]
  exact ⟨rfl, rfl⟩
theorem OpsQ.calls {o : Oper} {v : Value} {f : FuncId} {args : Array Value} (hg : o.guard = none) (hd : dstOk n o.dst = true) (hrun : ∀ w, (execOp (ev σ) o).run P w = .ok (.enter f args) w)
    (hc : ∀ w, C w → Calls P f args w fun e w' => e = .returned v ∧ C w') (h : OpsQ P n ops C rest K (updO σ o.dst v)) : OpsQ P n ops C (o :: rest) K σ := by
  intro a ha
  unfold wpQuiet
  rw [if_pos (by simp [Region.wanted, hg])]
  refine ⟨v, fun w hw => ?_, h _ (ha.put hd v)⟩
  unfold Oper.quietAt
  rw [ha.eval, hrun w]
  exact ⟨rfl, hc w hw⟩
theorem OpsQ.guarded {dst : Option Tmp} {op : Op} {type : TypeId} {pos : String} {after : Array Edge} {g d : Nat} {b : Bool}
    (hg : (ops[g]?).bind (·.dst) = some d) (hd : Nat.blt d n = true) (hv : σ d = .bool b)
    (h : OpsQ P n ops C (⟨dst, op, type, pos, after, none⟩ :: rest) K σ) : OpsQ P n ops C (⟨dst, op, type, pos, after, some (g, b)⟩ :: rest) K σ := by
  intro a ha
  have := h a ha
  unfold wpQuiet at this ⊢
  rw [if_pos (by simp [Region.wanted])] at this
  rw [if_pos (by simp [Region.wanted, yielded_bool ha hg hd hv])]
  exact this
theorem OpsQ.skipped {dst : Option Tmp} {op : Op} {type : TypeId} {pos : String} {after : Array Edge} {g d : Nat} {b c : Bool}
    (hg : (ops[g]?).bind (·.dst) = some d) (hd : Nat.blt d n = true) (hv : σ d = .bool c) (hc : (c == b) = false) (hdst : dstOk n dst = true)
    (h : OpsQ P n ops C rest K (updO σ dst undef)) : OpsQ P n ops C (⟨dst, op, type, pos, after, some (g, b)⟩ :: rest) K σ := by
  intro a ha
  unfold wpQuiet
  rw [if_neg (by simp [Region.wanted, yielded_bool ha hg hd hv]; simpa using hc)]
  exact h _ (ha.put hdst _)
theorem OpsQ.split {l : List Oper} {d : Nat} {t : Bool} (hv : σ d = .bool t)
    (h1 : t = true → OpsQ P n ops C l K (upd σ d (.bool true))) (h2 : t = false → OpsQ P n ops C l K (upd σ d (.bool false))) : OpsQ P n ops C l K σ := by
  cases t with
  | true => have := h1 rfl; rwa [upd_self _ _ _ hv] at this
  | false => have := h2 rfl; rwa [upd_self _ _ _ hv] at this
theorem wpQuiet_mono' {Q Q' : Act → Prop} (hq : ∀ a, Q a → Q' a) : ∀ (l : List Oper) (a : Act), wpQuiet P ops C Q l a → wpQuiet P ops C Q' l a
  | [], a, h => hq a h
  | o :: l, a, h => by
    unfold wpQuiet at h ⊢
    split
    · rename_i hw; rw [if_pos hw] at h; exact Oper.quiet_mono (wpQuiet_mono' hq l) h
    · rename_i hw; rw [if_neg hw] at h; exact wpQuiet_mono' hq l _ h
theorem W.regionQ {Q : Exit → Env → World → Prop} {id : Nat} {l : List Oper} (hm : P.follows .mixedOrders = true) (hB : Region.lexB .any l.toArray = true) (C : World → Prop) (hC : C w.drew)
    (h : OpsQ P n l.toArray C l (fun σ' => ∀ w', C w' → Q .normal σ' w') σ) : W P n (.region id l.toArray true) Q σ w := by
  intro a ha
  refine wp_region_quiet (C := C) hm hB hC ?_
  have h1 := h a ha
  show wpQuiet P l.toArray C _ l a
  refine wpQuiet_mono' ?_ _ _ h1
  rintro a' ⟨σ', hf, hk⟩ w' hw'
  exact ⟨σ', hf, hk w' hw'⟩
end
end Go.Pk
