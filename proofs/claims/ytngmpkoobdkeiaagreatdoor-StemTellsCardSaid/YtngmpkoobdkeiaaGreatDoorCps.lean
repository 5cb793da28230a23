/- STEPS THAT TURN THE WORLD: what follows is asked of any world of which the facts are known. -/
import Derived.Test.YtngmpkoobdkeiaaGreatDoorRule
namespace Go.Pk
open Go Go.RowKit
section
variable {P : Program} {n : Nat} {ops : Array Oper} {rest : List Oper} {K : Env → World → Prop} {σ : Env} {w w0 : World} {h0 h : Heap} {own : Own} {ty : TypeId} {pos : String} {aft : Array Edge} {d : Nat}
theorem OpsL.boxF (st : St h0 w0 h w own) {e : TypeId} {x : Operand} {v : Value} {cs : List Value} (hx : ev σ x = v) (hc : v.cells = cs.toArray) (hd : Nat.blt d n = true)
    (hk : ∀ b w' h', Le h h' → Cells h' b 0 cs → St h0 w0 h' w' own → OpsL P n ops rest K (upd σ d (.pointer (some ⟨b, 0, none⟩))) w') : OpsL P n ops (⟨some d, .box e x, ty, pos, aft, none⟩ :: rest) K σ w := by
  refine OpsL.val rfl hd (r_box hx hc) ?_
  have st' := st.alloc (.cells cs.toArray e)
  obtain ⟨h', hl, hb, st''⟩ := st'.freeze (k := own.length) (b := w.heap.size) (o := .cells cs.toArray e) (by simp)
  have e1 : (own ++ [[(w.heap.size, Obj.cells cs.toArray e)]]).set own.length [] = own ++ [[]] := by simp
  rw [e1] at st''
  refine hk _ _ h' hl ⟨_, _, _, hb, fun j v hv => by simpa using hv⟩ ?_
  exact ⟨st''.le, st''.new, st''.sub, st''.below, fun p hp => st''.mine p (by simpa using hp), by simpa using st''.nodup⟩
theorem OpsL.boxO (st : St h0 w0 h w own) {e : TypeId} {x : Operand} {v : Value} {cs : List Value} (hx : ev σ x = v) (hc : v.cells = cs.toArray) (hd : Nat.blt d n = true)
    (hk : ∀ b w', St h0 w0 h w' (own ++ [[(b, .cells cs.toArray e)]]) → OpsL P n ops rest K (upd σ d (.pointer (some ⟨b, 0, none⟩))) w') : OpsL P n ops (⟨some d, .box e x, ty, pos, aft, none⟩ :: rest) K σ w :=
  OpsL.val rfl hd (r_box hx hc) (hk _ _ (st.alloc _))
theorem OpsL.allocO (st : St h0 w0 h w own) {e : TypeId} {z : Value} {cs : List Value} (hz : ∀ w, (zeroValue e).run P w = .ok z w) (hc : z.cells = cs.toArray) (hd : Nat.blt d n = true)
    (hk : ∀ b w', St h0 w0 h w' (own ++ [[(b, .cells cs.toArray e)]]) → OpsL P n ops rest K (upd σ d (.pointer (some ⟨b, 0, none⟩))) w') : OpsL P n ops (⟨some d, .alloc e, ty, pos, aft, none⟩ :: rest) K σ w :=
  OpsL.val rfl hd (r_alloc hz hc) (hk _ _ (st.alloc _))
theorem run_store1 {t : TypeId} {x y : Operand} {b off : Nat} {cs : List Value} {T : TypeId} {v : Value} (hb : w.heap[b]? = some (.cells cs.toArray T)) (hx : ev σ x = .pointer (some ⟨b, off, none⟩)) (hy : ev σ y = v) (h1 : v.oneCell' = true) (hz : ∀ w, (sizeOf t).run P w = .ok 1 w) (ho : off < cs.length) {dst : Option Tmp} {g : Option (Nat × Bool)} :
    (execOp (ev σ) ⟨dst, .store t x y, ty, pos, aft, g⟩).run P w = .ok .skip { w with heap := w.heap.setIfInBounds b (.cells (cs.set off v).toArray T) } := by
  have hcell : w.cell? ⟨b, off, none⟩ = some cs[off] := by simp [World.cell?, hb, ho]
  have hfr : w.frozen? ⟨b, off, none⟩ = false := by simp [World.frozen?, hb]
  have hcs : v.cells = #[v] := by cases v <;> first | rfl | cases h1
  have hst := run_store P w ⟨b, off, none⟩ v .plain h1
  rw [hcell] at hst
  simp only [hfr] at hst
  have hadd : (⟨b, off, none⟩ : Addr).add 0 = ⟨b, off, none⟩ := rfl
  simp [execOp, hx, hy, Instr.storeAt, Instr.sureAddr, storeVar, hz, hcs, storeCells, hadd, hst, setCell_eq hb]
theorem OpsL.store1 (st : St h0 w0 h w own) {t : TypeId} {x y : Operand} {k b off : Nat} {cs : List Value} {T : TypeId} {v : Value} (hk : own[k]? = some [(b, .cells cs.toArray T)]) (hx : ev σ x = .pointer (some ⟨b, off, none⟩)) (hy : ev σ y = v) (h1 : v.oneCell' = true) (hz : ∀ w, (sizeOf t).run P w = .ok 1 w) (ho : Nat.blt off cs.length = true) {cs' : List Value} (hcs : cs.set off v = cs') {own' : Own} (hown : own.set k [(b, .cells cs'.toArray T)] = own')
    (hk' : ∀ w', St h0 w0 h w' own' → OpsL P n ops rest K σ w') : OpsL P n ops (⟨none, .store t x y, ty, pos, aft, none⟩ :: rest) K σ w := by
  subst hcs; subst hown
  exact OpsL.eff rfl rfl (run_store1 (st.get hk) hx hy h1 hz (Nat.le_of_ble_eq_true ho)) (hk' _ (st.set _ hk))
theorem World.setCells_own {w : World} {b : Nat} {T : TypeId} : ∀ (vs : List Value) (cs : List Value) (o : Nat), w.heap[b]? = some (.cells cs.toArray T) →
    w.setCells b o vs = { w with heap := w.heap.setIfInBounds b (.cells ((vs.zipIdx o).foldl (fun c p => c.set p.2 p.1) cs).toArray T) }
  | [], cs, o, hb => by
    have : w.heap.setIfInBounds b (.cells cs.toArray T) = w.heap := by
      apply Array.ext_getElem?
      intro i
      rw [Array.getElem?_setIfInBounds]
      split
      · rename_i e; subst e; split
        · exact hb.symm
        · rename_i hlt; rw [Array.getElem?_eq_none (by omega)] 
      · rfl
    simp only [World.setCells, List.zipIdx_nil, List.foldl_nil, this]
  | v :: vs, cs, o, hb => by
    have hb' : (w.setCell ⟨b, o, none⟩ v).heap[b]? = some (.cells (cs.set o v).toArray T) := by
      rw [setCell_eq hb]; simp [lt_of_some hb]
    have := World.setCells_own vs (cs.set o v) (o + 1) hb'
    simp only [World.setCells]
    rw [this, setCell_eq hb]
    simp [List.zipIdx_cons]
def spliced (cs : List Value) (off : Nat) : List Value → List Value
  | [] => cs
  | v :: vs => spliced (cs.set off v) (off + 1) vs
theorem spliced_eq : ∀ (us cs : List Value) (off : Nat), (us.zipIdx off).foldl (fun c p => c.set p.2 p.1) cs = spliced cs off us
  | [], _, _ => rfl
  | v :: vs, cs, off => by simp [List.zipIdx_cons, spliced, spliced_eq vs]
theorem run_storeN {t : TypeId} {x y : Operand} {b off : Nat} {cs us : List Value} {T : TypeId} (hb : w.heap[b]? = some (.cells cs.toArray T)) (hx : ev σ x = .pointer (some ⟨b, off, none⟩)) (hy : ev σ y = .agg us.toArray) (h1 : us.all (·.oneCell') = true) (hz : ∀ w, (sizeOf t).run P w = .ok us.length w) (ho : Nat.ble (off + us.length) cs.length = true) {dst : Option Tmp} {g : Option (Nat × Bool)} :
    (execOp (ev σ) ⟨dst, .store t x y, ty, pos, aft, g⟩).run P w = .ok .skip { w with heap := w.heap.setIfInBounds b (.cells (spliced cs off us).toArray T) } := by
  have ho' : off + us.length ≤ cs.length := by simpa using ho
  have := run_storeCells_cells (P := P) b off us 0 w
    (fun j hj => by simp [World.cell?, hb]; omega)
    (fun j hj => by simp [World.frozen?, hb])
    (fun v hv => (List.all_eq_true.1 h1) v hv)
  simp only [Nat.add_zero] at this
  rw [World.setCells_own us cs off hb, spliced_eq] at this
  simp [execOp, hx, hy, Instr.storeAt, Instr.sureAddr, storeVar, hz, Value.cells, this]
theorem OpsL.storeN (st : St h0 w0 h w own) {t : TypeId} {x y : Operand} {k b off : Nat} {cs us : List Value} {T : TypeId} (hk : own[k]? = some [(b, .cells cs.toArray T)]) (hx : ev σ x = .pointer (some ⟨b, off, none⟩)) (hy : ev σ y = .agg us.toArray) (h1 : us.all (·.oneCell') = true) (hz : ∀ w, (sizeOf t).run P w = .ok us.length w) (ho : Nat.ble (off + us.length) cs.length = true) {cs' : List Value} (hcs : spliced cs off us = cs') {own' : Own} (hown : own.set k [(b, .cells cs'.toArray T)] = own')
    (hk' : ∀ w', St h0 w0 h w' own' → OpsL P n ops rest K σ w') : OpsL P n ops (⟨none, .store t x y, ty, pos, aft, none⟩ :: rest) K σ w := by
  subst hcs; subst hown
  exact OpsL.eff rfl rfl (run_storeN (st.get hk) hx hy h1 hz ho) (hk' _ (st.set _ hk))
/-- a call by its contract -/
theorem OpsL.callF {o : Oper} {f : FuncId} {args : Array Operand} {ats : Array TypeId} {vs : List Value} {Φ : Heap → World → Value → Prop} (st : St h0 w0 h w own) (ho : o.op = .call ⟨.value (.func f), args, ats⟩) (hg : o.guard = none) (hd : dstOk n o.dst = true) (hf : ∀ a w, (callFunc f a).run P w = .ok (.enter f a) w)
    (hv : args.toList.map (ev σ) = vs) (hc : Calls P f vs.toArray w (Rets h w Φ))
    (hk : ∀ v w' h', Le h h' → St h0 w0 h' w' own → Φ h' w' v → OpsL P n ops rest K (updO σ o.dst v) w') : OpsL P n ops (o :: rest) K σ w := by
  refine OpsL.calls hg hd (run_call ho hf hv) (hc.mono ?_)
  rintro e w' ⟨h', v, rfl, s, hΦ⟩
  exact ⟨v, rfl, hk v w' h' s.le (st.call0 s) hΦ⟩
end
end Go.Pk
