/- A PART OF THE PROOF: contracts of functions, each walked once (much of it printed by a program of the author's own). -/
import Derived.Test.YtfpiiheehdedmaaGreatDoorT1
import Derived.Test.YtfpiiheehdedmaaGreatDoorT0
import Derived.Laws.OwnMore
import Derived.DeepKeys5
import Derived.Shelf.SlSortCmp.NoneTotal
import Derived.Lib.Bytealg
import Derived.Sort.Walk0
import Derived.RangeFuncRecord
import Derived.RangeFuncIn
import Derived.RangeFuncLeaves
set_option linter.unusedSimpArgs false
set_option linter.unusedVariables false
namespace Go.Pk
open Go Go.RowKit
theorem X {α : Sort _} {a : α} : a = a := rfl
theorem t_kr {p : Prop} (h : p := by kernel_rfl) : p := h
theorem t_str {p : Prop} (h : p := by first | assumption | (simp [big]; done) | (simp [big]; omega) | omega) : p := h
theorem t_u8 {p : Prop} (h : p := by first | assumption | decide | omega | (dsimp only; omega) | (simp; omega)) : p := h
theorem t_om {p : Prop} (h : p := by first | omega | (simp; omega)) : p := h
theorem zH {p : Prop} (h : p := by repeat (first | exact Agree.mix _ _ _ | exact Agree.refl _ _ | refine Agree.updO rfl ?_ | refine Agree.upd rfl ?_ | refine Agree.known rfl ?_ | refine Agree.sub rfl ?_)) : p := h
theorem zK {p : Prop} (h : p := by first | omega | simp | trivial) : p := h
section
variable {P : Program} {n : Nat} {ops : Array Oper} {rest : List Oper} {K : Env → World → Prop} {C : World → Prop} {σ : Env} {w : World} {ty : TypeId} {pos : String} {aft : Array Edge} {d : Nat}
theorem Z {dst : Option Tmp} {op : Op} {g : Nat} {b c : Bool} (hg : (ops[g]?).bind (·.dst) = some d) (hd : Nat.blt d n = true) (hv : σ d = .bool c) (hc : (c == b) = false) (hdst : dstOk n dst = true) (h : OpsL P n ops rest K (updO σ dst undef) w) : OpsL P n ops (⟨dst, op, ty, pos, aft, some (g, b)⟩ :: rest) K σ w := OpsL.skipped hg hd hv hc hdst h
theorem W.sr {Q : Exit → Env → World → Prop} {id : Nat} {l : List Oper} {y : Code} (h : OpsL P n l.toArray l (fun σ w => Then (W P n y Q) Q .normal σ w) σ w) : W P n (.seq (.region id l.toArray false) y) Q σ w := zf (zg h)
theorem Y {Q : Exit → Env → World → Prop} {K' : Env → World → Prop} (h : K' σ w) : OpsL P n ops [] (fun σ w => Then K' Q .normal σ w) σ w := zt (U h)
end
section
variable {P : Program} {nT : Nat} {opT : Array Oper} {rsT : List Oper} {KT : Env → World → Prop} {CT : World → Prop} {σ : Env} {w : World} {ty : TypeId} {pos : String} {aft : Array Edge} {dT : Nat}

theorem v_add {t t' : TypeId} {x y : Operand} {a b : Int} (hx : ev σ x = .int .i64 a) (hy : ev σ y = .int .i64 b) (hb : -9223372036854775808 ≤ a + b ∧ a + b ≤ 9223372036854775807) (hdT : Nat.blt dT nT = true) (hKT : OpsL P nT opT rsT KT (upd σ dT (.int .i64 (a + b))) w) : OpsL P nT opT (⟨some dT, .binOp .add t x y t', ty, pos, aft, none⟩ :: rsT) KT σ w := zk rfl hdT (r_add hx hy hb) hKT
theorem v_asB {x : Operand} {a : Bool} (hv : ev σ x = .bool a) (hdT : Nat.blt dT nT = true) (hKT : OpsL P nT opT rsT KT (upd σ dT (.bool a)) w) : OpsL P nT opT (⟨some dT, .assign x, ty, pos, aft, none⟩ :: rsT) KT σ w := zk rfl hdT (r_asB hv) hKT
theorem u_asB {KT : Env → Prop} {x : Operand} {a : Bool} (hv : ev σ x = .bool a) (hdT : Nat.blt dT nT = true) (hKT : OpsQ P nT opT CT rsT KT (upd σ dT (.bool a))) : OpsQ P nT opT CT (⟨some dT, .assign x, ty, pos, aft, none⟩ :: rsT) KT σ := zm rfl hdT (fun _ _ => r_asB hv) hKT
theorem v_asI {x : Operand} {k : IntKind} {a : Int} (hv : ev σ x = .int k a) (hdT : Nat.blt dT nT = true) (hKT : OpsL P nT opT rsT KT (upd σ dT (.int k a)) w) : OpsL P nT opT (⟨some dT, .assign x, ty, pos, aft, none⟩ :: rsT) KT σ w := zk rfl hdT (r_asI hv) hKT
theorem u_asI {KT : Env → Prop} {x : Operand} {k : IntKind} {a : Int} (hv : ev σ x = .int k a) (hdT : Nat.blt dT nT = true) (hKT : OpsQ P nT opT CT rsT KT (upd σ dT (.int k a))) : OpsQ P nT opT CT (⟨some dT, .assign x, ty, pos, aft, none⟩ :: rsT) KT σ := zm rfl hdT (fun _ _ => r_asI hv) hKT
theorem v_asL {x : Operand} {a : Option Addr} {m c : Nat} (hv : ev σ x = .slice a m c) (hdT : Nat.blt dT nT = true) (hKT : OpsL P nT opT rsT KT (upd σ dT (.slice a m c)) w) : OpsL P nT opT (⟨some dT, .assign x, ty, pos, aft, none⟩ :: rsT) KT σ w := zk rfl hdT (r_asL hv) hKT
theorem v_asP {x : Operand} {a : Option Addr} (hv : ev σ x = .pointer a) (hdT : Nat.blt dT nT = true) (hKT : OpsL P nT opT rsT KT (upd σ dT (.pointer a)) w) : OpsL P nT opT (⟨some dT, .assign x, ty, pos, aft, none⟩ :: rsT) KT σ w := zk rfl hdT (r_asP hv) hKT
theorem v_asS {x : Operand} {a : Str} (hv : ev σ x = strV a) (hdT : Nat.blt dT nT = true) (hKT : OpsL P nT opT rsT KT (upd σ dT (strV a)) w) : OpsL P nT opT (⟨some dT, .assign x, ty, pos, aft, none⟩ :: rsT) KT σ w := zk rfl hdT (r_asS hv) hKT
theorem v_assign {x : Operand} {v : Value} (hv : ev σ x = v) (hdT : Nat.blt dT nT = true) (hKT : OpsL P nT opT rsT KT (upd σ dT v) w) : OpsL P nT opT (⟨some dT, .assign x, ty, pos, aft, none⟩ :: rsT) KT σ w := zk rfl hdT (r_assign hv) hKT
theorem u_assign {KT : Env → Prop} {x : Operand} {v : Value} (hv : ev σ x = v) (hdT : Nat.blt dT nT = true) (hKT : OpsQ P nT opT CT rsT KT (upd σ dT v)) : OpsQ P nT opT CT (⟨some dT, .assign x, ty, pos, aft, none⟩ :: rsT) KT σ := zm rfl hdT (fun _ _ => r_assign hv) hKT
theorem v_eql {t t' : TypeId} {x y : Operand} {k : IntKind} {a b : Int} (hx : ev σ x = .int k a) (hy : ev σ y = .int k b) (hdT : Nat.blt dT nT = true) (hKT : OpsL P nT opT rsT KT (upd σ dT (.bool (decide (a = b)))) w) : OpsL P nT opT (⟨some dT, .binOp .eql t x y t', ty, pos, aft, none⟩ :: rsT) KT σ w := zk rfl hdT (r_eql hx hy) hKT
theorem u_eql {KT : Env → Prop} {t t' : TypeId} {x y : Operand} {k : IntKind} {a b : Int} (hx : ev σ x = .int k a) (hy : ev σ y = .int k b) (hdT : Nat.blt dT nT = true) (hKT : OpsQ P nT opT CT rsT KT (upd σ dT (.bool (decide (a = b))))) : OpsQ P nT opT CT (⟨some dT, .binOp .eql t x y t', ty, pos, aft, none⟩ :: rsT) KT σ := zm rfl hdT (fun _ _ => r_eql hx hy) hKT
theorem v_extract {x : Operand} {k : Nat} {vs : List Value} {v : Value} (hx : ev σ x = .tuple vs.toArray) (hv : vs[k]? = some v) (hdT : Nat.blt dT nT = true) (hKT : OpsL P nT opT rsT KT (upd σ dT v) w) : OpsL P nT opT (⟨some dT, .extract x k, ty, pos, aft, none⟩ :: rsT) KT σ w := zk rfl hdT (r_extract hx hv) hKT
theorem v_field_addr {s : TypeId} {x : Operand} {k b off m : Nat} {fs : Array Field} {f : Field} (hx : ev σ x = .pointer (some ⟨b, off, none⟩)) (hu : P.underlying s = some (.struct fs)) (hf : fs[k]? = some f) (hz : ∀ w, (sizeOf f.type).run P w = .ok (m + 1) w) {off' : Nat} (ho : off + f.offset = off') (hdT : Nat.blt dT nT = true) (hKT : OpsL P nT opT rsT KT (upd σ dT (.pointer (some ⟨b, off', none⟩))) w) : OpsL P nT opT (⟨some dT, .fieldAddr s x k, ty, pos, aft, none⟩ :: rsT) KT σ w := zk rfl hdT (zA hx hu hf hz ho) hKT
theorem u_field_addr {KT : Env → Prop} {s : TypeId} {x : Operand} {k b off m : Nat} {fs : Array Field} {f : Field} (hx : ev σ x = .pointer (some ⟨b, off, none⟩)) (hu : P.underlying s = some (.struct fs)) (hf : fs[k]? = some f) (hz : ∀ w, (sizeOf f.type).run P w = .ok (m + 1) w) {off' : Nat} (ho : off + f.offset = off') (hdT : Nat.blt dT nT = true) (hKT : OpsQ P nT opT CT rsT KT (upd σ dT (.pointer (some ⟨b, off', none⟩)))) : OpsQ P nT opT CT (⟨some dT, .fieldAddr s x k, ty, pos, aft, none⟩ :: rsT) KT σ := zm rfl hdT (fun _ _ => zA hx hu hf hz ho) hKT
theorem v_geq {t t' : TypeId} {x y : Operand} {k : IntKind} {a b : Int} (hx : ev σ x = .int k a) (hy : ev σ y = .int k b) (hdT : Nat.blt dT nT = true) (hKT : OpsL P nT opT rsT KT (upd σ dT (.bool (decide (b ≤ a)))) w) : OpsL P nT opT (⟨some dT, .binOp .geq t x y t', ty, pos, aft, none⟩ :: rsT) KT σ w := zk rfl hdT (r_geq hx hy) hKT
theorem u_geq {KT : Env → Prop} {t t' : TypeId} {x y : Operand} {k : IntKind} {a b : Int} (hx : ev σ x = .int k a) (hy : ev σ y = .int k b) (hdT : Nat.blt dT nT = true) (hKT : OpsQ P nT opT CT rsT KT (upd σ dT (.bool (decide (b ≤ a))))) : OpsQ P nT opT CT (⟨some dT, .binOp .geq t x y t', ty, pos, aft, none⟩ :: rsT) KT σ := zm rfl hdT (fun _ _ => r_geq hx hy) hKT
theorem v_gtr {t t' : TypeId} {x y : Operand} {k : IntKind} {a b : Int} (hx : ev σ x = .int k a) (hy : ev σ y = .int k b) (hdT : Nat.blt dT nT = true) (hKT : OpsL P nT opT rsT KT (upd σ dT (.bool (decide (b < a)))) w) : OpsL P nT opT (⟨some dT, .binOp .gtr t x y t', ty, pos, aft, none⟩ :: rsT) KT σ w := zk rfl hdT (r_gtr hx hy) hKT
theorem u_gtr {KT : Env → Prop} {t t' : TypeId} {x y : Operand} {k : IntKind} {a b : Int} (hx : ev σ x = .int k a) (hy : ev σ y = .int k b) (hdT : Nat.blt dT nT = true) (hKT : OpsQ P nT opT CT rsT KT (upd σ dT (.bool (decide (b < a))))) : OpsQ P nT opT CT (⟨some dT, .binOp .gtr t x y t', ty, pos, aft, none⟩ :: rsT) KT σ := zm rfl hdT (fun _ _ => r_gtr hx hy) hKT
theorem v_index_el {v : Value} {t e : TypeId} {x ix : Operand} {i : Int} {k s b o : Nat} (he : Elem v k s b o) (hx : ev σ x = v) (hi : ev σ ix = .int .i64 i) (hk : i = (k : Int)) (hu : P.underlying t = some (.slice e)) (hz : ∀ w, (sizeOf e).run P w = .ok s w) (hdT : Nat.blt dT nT = true) (hKT : OpsL P nT opT rsT KT (upd σ dT (.pointer (some ⟨b, o, none⟩))) w) : OpsL P nT opT (⟨some dT, .indexAddr t x ix, ty, pos, aft, none⟩ :: rsT) KT σ w := zk rfl hdT (zE he hx hi hk hu hz) hKT
theorem u_index_el {KT : Env → Prop} {v : Value} {t e : TypeId} {x ix : Operand} {i : Int} {k s b o : Nat} (he : Elem v k s b o) (hx : ev σ x = v) (hi : ev σ ix = .int .i64 i) (hk : i = (k : Int)) (hu : P.underlying t = some (.slice e)) (hz : ∀ w, (sizeOf e).run P w = .ok s w) (hdT : Nat.blt dT nT = true) (hKT : OpsQ P nT opT CT rsT KT (upd σ dT (.pointer (some ⟨b, o, none⟩)))) : OpsQ P nT opT CT (⟨some dT, .indexAddr t x ix, ty, pos, aft, none⟩ :: rsT) KT σ := zm rfl hdT (fun _ _ => zE he hx hi hk hu hz) hKT
theorem v_len {α : Type} {L : Lay α} {h : Heap} {xs : List α} {v : Value} {t e : TypeId} {x : Operand} (hs : Sl L h v xs) (hx : ev σ x = v) (hu : P.underlying t = some (.slice e)) (hdT : Nat.blt dT nT = true) (hKT : OpsL P nT opT rsT KT (upd σ dT (.int .i64 xs.length)) w) : OpsL P nT opT (⟨some dT, .call ⟨.builtin .len, #[x], #[t]⟩, ty, pos, aft, none⟩ :: rsT) KT σ w := zk rfl hdT (r_len hs hx hu) hKT
theorem u_len {KT : Env → Prop} {α : Type} {L : Lay α} {h : Heap} {xs : List α} {v : Value} {t e : TypeId} {x : Operand} (hs : Sl L h v xs) (hx : ev σ x = v) (hu : P.underlying t = some (.slice e)) (hdT : Nat.blt dT nT = true) (hKT : OpsQ P nT opT CT rsT KT (upd σ dT (.int .i64 xs.length))) : OpsQ P nT opT CT (⟨some dT, .call ⟨.builtin .len, #[x], #[t]⟩, ty, pos, aft, none⟩ :: rsT) KT σ := zm rfl hdT (fun _ _ => r_len hs hx hu) hKT
theorem v_len_own {h : Heap} {α : Type} {L : Lay α} {T : TypeId} {xs : List α} {v : Value} {o : List (Nat × Obj)} {t e : TypeId} {x : Operand} (hs : OSl L T h v xs o) (hx : ev σ x = v) (hu : P.underlying t = some (.slice e)) (hdT : Nat.blt dT nT = true) (hKT : OpsL P nT opT rsT KT (upd σ dT (.int .i64 xs.length)) w) : OpsL P nT opT (⟨some dT, .call ⟨.builtin .len, #[x], #[t]⟩, ty, pos, aft, none⟩ :: rsT) KT σ w := zk rfl hdT (r_len_own hs hx hu) hKT
theorem v_len_str {t : TypeId} {x : Operand} {s : Str} (hx : ev σ x = strV s) (hu : P.underlying t = some .string) (hdT : Nat.blt dT nT = true) (hKT : OpsL P nT opT rsT KT (upd σ dT (.int .i64 s.length)) w) : OpsL P nT opT (⟨some dT, .call ⟨.builtin .len, #[x], #[t]⟩, ty, pos, aft, none⟩ :: rsT) KT σ w := zk rfl hdT (r_len_str hx hu) hKT
theorem v_load_b1 {b off : Nat} {cs : List Value} {T : TypeId} {fr : Nat × Nat} {v : Value} {t : TypeId} {x : Operand} (hb : w.heap[b]? = some (.cells cs.toArray T fr)) (hx : ev σ x = .pointer (some ⟨b, off, none⟩)) (hv : cs[off]? = some v) (ha : ∀ w, (isAgg t).run P w = .ok false w) (hdT : Nat.blt dT nT = true) (hKT : OpsL P nT opT rsT KT (upd σ dT v) w) : OpsL P nT opT (⟨some dT, .load t x, ty, pos, aft, none⟩ :: rsT) KT σ w := zk rfl hdT (r_load_b1 hb hx hv ha) hKT
theorem v_load_ball {b m : Nat} {cs : List Value} {T : TypeId} {fr : Nat × Nat} {t : TypeId} {x : Operand} (hb : w.heap[b]? = some (.cells cs.toArray T fr)) (hx : ev σ x = .pointer (some ⟨b, 0, none⟩)) (ha : ∀ w, (isAgg t).run P w = .ok true w) (hz : ∀ w, (sizeOf t).run P w = .ok m w) (hn : cs.length = m) (hdT : Nat.blt dT nT = true) (hKT : OpsL P nT opT rsT KT (upd σ dT (.agg cs.toArray)) w) : OpsL P nT opT (⟨some dT, .load t x, ty, pos, aft, none⟩ :: rsT) KT σ w := zk rfl hdT (r_load_ball hb hx ha hz hn) hKT
theorem v_load_call {h : Heap} (hs : Sub h w) {t : TypeId} {x : Operand} {b o m : Nat} {vs : List Value} (hc : Cells h b o vs) (hx : ev σ x = .pointer (some ⟨b, o, none⟩)) (ha : ∀ w, (isAgg t).run P w = .ok true w) (hz : ∀ w, (sizeOf t).run P w = .ok m w) (hn : vs.length = m) (hdT : Nat.blt dT nT = true) (hKT : OpsL P nT opT rsT KT (upd σ dT (.agg vs.toArray)) w) : OpsL P nT opT (⟨some dT, .load t x, ty, pos, aft, none⟩ :: rsT) KT σ w := zk rfl hdT (zM hs hc hx ha hz hn) hKT
theorem v_load_cells1 {h : Heap} (hs : Sub h w) {t : TypeId} {x : Operand} {b off j : Nat} {vs : List Value} {v : Value} (hc : Cells h b off vs) {off' : Nat} (hx : ev σ x = .pointer (some ⟨b, off', none⟩)) (ho : off' = off + j) (hv : vs[j]? = some v) (ha : ∀ w, (isAgg t).run P w = .ok false w) (hdT : Nat.blt dT nT = true) (hKT : OpsL P nT opT rsT KT (upd σ dT v) w) : OpsL P nT opT (⟨some dT, .load t x, ty, pos, aft, none⟩ :: rsT) KT σ w := zk rfl hdT (zc hs hc hx ho hv ha) hKT
theorem v_load_cellsN {h : Heap} (hs : Sub h w) {t : TypeId} {x : Operand} {b off j n : Nat} {vs us : List Value} (hc : Cells h b off vs) {off' : Nat} (hx : ev σ x = .pointer (some ⟨b, off', none⟩)) (ho : off' = off + j) (ha : ∀ w, (isAgg t).run P w = .ok true w) (hz : ∀ w, (sizeOf t).run P w = .ok n w) (hu : (vs.drop j).take n = us) (hn : us.length = n) (hdT : Nat.blt dT nT = true) (hKT : OpsL P nT opT rsT KT (upd σ dT (.agg us.toArray)) w) : OpsL P nT opT (⟨some dT, .load t x, ty, pos, aft, none⟩ :: rsT) KT σ w := zk rfl hdT (r_load_cellsN hs hc hx ho ha hz hu hn) hKT
theorem v_lss {t t' : TypeId} {x y : Operand} {k : IntKind} {a b : Int} (hx : ev σ x = .int k a) (hy : ev σ y = .int k b) (hdT : Nat.blt dT nT = true) (hKT : OpsL P nT opT rsT KT (upd σ dT (.bool (decide (a < b)))) w) : OpsL P nT opT (⟨some dT, .binOp .lss t x y t', ty, pos, aft, none⟩ :: rsT) KT σ w := zk rfl hdT (r_lss hx hy) hKT
theorem u_lss {KT : Env → Prop} {t t' : TypeId} {x y : Operand} {k : IntKind} {a b : Int} (hx : ev σ x = .int k a) (hy : ev σ y = .int k b) (hdT : Nat.blt dT nT = true) (hKT : OpsQ P nT opT CT rsT KT (upd σ dT (.bool (decide (a < b))))) : OpsQ P nT opT CT (⟨some dT, .binOp .lss t x y t', ty, pos, aft, none⟩ :: rsT) KT σ := zm rfl hdT (fun _ _ => r_lss hx hy) hKT
theorem v_make_func {fn : Fn} {first captured : Array Operand} {fs cs : List Value} (hf : first.toList.map (ev σ) = fs) (hc : captured.toList.map (ev σ) = cs) (hdT : Nat.blt dT nT = true) (hKT : OpsL P nT opT rsT KT (upd σ dT (.func fn fs.toArray cs.toArray)) w) : OpsL P nT opT (⟨some dT, .makeFunc fn first captured, ty, pos, aft, none⟩ :: rsT) KT σ w := zk rfl hdT (r_make_func hf hc) hKT
theorem v_move {x : Operand} {v : Value} (hv : ev σ x = v) (hdT : Nat.blt dT nT = true) (hKT : OpsL P nT opT rsT KT (upd σ dT v) w) : OpsL P nT opT (⟨some dT, .move x, ty, pos, aft, none⟩ :: rsT) KT σ w := zk rfl hdT (r_move hv) hKT
theorem u_move {KT : Env → Prop} {x : Operand} {v : Value} (hv : ev σ x = v) (hdT : Nat.blt dT nT = true) (hKT : OpsQ P nT opT CT rsT KT (upd σ dT v)) : OpsQ P nT opT CT (⟨some dT, .move x, ty, pos, aft, none⟩ :: rsT) KT σ := zm rfl hdT (fun _ _ => r_move hv) hKT
theorem v_mvB {x : Operand} {a : Bool} (hv : ev σ x = .bool a) (hdT : Nat.blt dT nT = true) (hKT : OpsL P nT opT rsT KT (upd σ dT (.bool a)) w) : OpsL P nT opT (⟨some dT, .move x, ty, pos, aft, none⟩ :: rsT) KT σ w := zk rfl hdT (r_mvB hv) hKT
theorem u_mvB {KT : Env → Prop} {x : Operand} {a : Bool} (hv : ev σ x = .bool a) (hdT : Nat.blt dT nT = true) (hKT : OpsQ P nT opT CT rsT KT (upd σ dT (.bool a))) : OpsQ P nT opT CT (⟨some dT, .move x, ty, pos, aft, none⟩ :: rsT) KT σ := zm rfl hdT (fun _ _ => r_mvB hv) hKT
theorem v_mvF {x : Operand} {f : Fn} {a c : Array Value} (hv : ev σ x = .func f a c) (hdT : Nat.blt dT nT = true) (hKT : OpsL P nT opT rsT KT (upd σ dT (.func f a c)) w) : OpsL P nT opT (⟨some dT, .move x, ty, pos, aft, none⟩ :: rsT) KT σ w := zk rfl hdT (r_mvF hv) hKT
theorem v_mvI {x : Operand} {k : IntKind} {a : Int} (hv : ev σ x = .int k a) (hdT : Nat.blt dT nT = true) (hKT : OpsL P nT opT rsT KT (upd σ dT (.int k a)) w) : OpsL P nT opT (⟨some dT, .move x, ty, pos, aft, none⟩ :: rsT) KT σ w := zk rfl hdT (r_mvI hv) hKT
theorem u_mvI {KT : Env → Prop} {x : Operand} {k : IntKind} {a : Int} (hv : ev σ x = .int k a) (hdT : Nat.blt dT nT = true) (hKT : OpsQ P nT opT CT rsT KT (upd σ dT (.int k a))) : OpsQ P nT opT CT (⟨some dT, .move x, ty, pos, aft, none⟩ :: rsT) KT σ := zm rfl hdT (fun _ _ => r_mvI hv) hKT
theorem v_mvP {x : Operand} {a : Option Addr} (hv : ev σ x = .pointer a) (hdT : Nat.blt dT nT = true) (hKT : OpsL P nT opT rsT KT (upd σ dT (.pointer a)) w) : OpsL P nT opT (⟨some dT, .move x, ty, pos, aft, none⟩ :: rsT) KT σ w := zk rfl hdT (r_mvP hv) hKT
theorem u_mvP {KT : Env → Prop} {x : Operand} {a : Option Addr} (hv : ev σ x = .pointer a) (hdT : Nat.blt dT nT = true) (hKT : OpsQ P nT opT CT rsT KT (upd σ dT (.pointer a))) : OpsQ P nT opT CT (⟨some dT, .move x, ty, pos, aft, none⟩ :: rsT) KT σ := zm rfl hdT (fun _ _ => r_mvP hv) hKT
theorem v_mvS {x : Operand} {a : Str} (hv : ev σ x = strV a) (hdT : Nat.blt dT nT = true) (hKT : OpsL P nT opT rsT KT (upd σ dT (strV a)) w) : OpsL P nT opT (⟨some dT, .move x, ty, pos, aft, none⟩ :: rsT) KT σ w := zk rfl hdT (r_mvS hv) hKT
theorem v_mvT {x : Operand} {a : List Value} (hv : ev σ x = .tuple a.toArray) (hdT : Nat.blt dT nT = true) (hKT : OpsL P nT opT rsT KT (upd σ dT (.tuple a.toArray)) w) : OpsL P nT opT (⟨some dT, .move x, ty, pos, aft, none⟩ :: rsT) KT σ w := zk rfl hdT (r_mvT hv) hKT
theorem v_neq {t t' : TypeId} {x y : Operand} {k : IntKind} {a b : Int} (hx : ev σ x = .int k a) (hy : ev σ y = .int k b) (hdT : Nat.blt dT nT = true) (hKT : OpsL P nT opT rsT KT (upd σ dT (.bool (decide (a ≠ b)))) w) : OpsL P nT opT (⟨some dT, .binOp .neq t x y t', ty, pos, aft, none⟩ :: rsT) KT σ w := zk rfl hdT (r_neq hx hy) hKT
theorem u_neq {KT : Env → Prop} {t t' : TypeId} {x y : Operand} {k : IntKind} {a b : Int} (hx : ev σ x = .int k a) (hy : ev σ y = .int k b) (hdT : Nat.blt dT nT = true) (hKT : OpsQ P nT opT CT rsT KT (upd σ dT (.bool (decide (a ≠ b))))) : OpsQ P nT opT CT (⟨some dT, .binOp .neq t x y t', ty, pos, aft, none⟩ :: rsT) KT σ := zm rfl hdT (fun _ _ => r_neq hx hy) hKT
theorem v_not {t : TypeId} {x : Operand} {b : Bool} (hx : ev σ x = .bool b) (hdT : Nat.blt dT nT = true) (hKT : OpsL P nT opT rsT KT (upd σ dT (.bool (!b))) w) : OpsL P nT opT (⟨some dT, .unOp .not t x, ty, pos, aft, none⟩ :: rsT) KT σ w := zk rfl hdT (r_not hx) hKT
theorem u_not {KT : Env → Prop} {t : TypeId} {x : Operand} {b : Bool} (hx : ev σ x = .bool b) (hdT : Nat.blt dT nT = true) (hKT : OpsQ P nT opT CT rsT KT (upd σ dT (.bool (!b)))) : OpsQ P nT opT CT (⟨some dT, .unOp .not t x, ty, pos, aft, none⟩ :: rsT) KT σ := zm rfl hdT (fun _ _ => r_not hx) hKT
theorem v_pickF {c a b : Operand} {v : Value} (hc : ev σ c = .bool false) (hv : ev σ b = v) (hdT : Nat.blt dT nT = true) (hKT : OpsL P nT opT rsT KT (upd σ dT v) w) : OpsL P nT opT (⟨some dT, .pick c a b, ty, pos, aft, none⟩ :: rsT) KT σ w := zk rfl hdT (r_pickF hc hv) hKT
theorem u_pickF {KT : Env → Prop} {c a b : Operand} {v : Value} (hc : ev σ c = .bool false) (hv : ev σ b = v) (hdT : Nat.blt dT nT = true) (hKT : OpsQ P nT opT CT rsT KT (upd σ dT v)) : OpsQ P nT opT CT (⟨some dT, .pick c a b, ty, pos, aft, none⟩ :: rsT) KT σ := zm rfl hdT (fun _ _ => r_pickF hc hv) hKT
theorem v_pickT {c a b : Operand} {v : Value} (hc : ev σ c = .bool true) (hv : ev σ a = v) (hdT : Nat.blt dT nT = true) (hKT : OpsL P nT opT rsT KT (upd σ dT v) w) : OpsL P nT opT (⟨some dT, .pick c a b, ty, pos, aft, none⟩ :: rsT) KT σ w := zk rfl hdT (r_pickT hc hv) hKT
theorem u_pickT {KT : Env → Prop} {c a b : Operand} {v : Value} (hc : ev σ c = .bool true) (hv : ev σ a = v) (hdT : Nat.blt dT nT = true) (hKT : OpsQ P nT opT CT rsT KT (upd σ dT v)) : OpsQ P nT opT CT (⟨some dT, .pick c a b, ty, pos, aft, none⟩ :: rsT) KT σ := zm rfl hdT (fun _ _ => r_pickT hc hv) hKT
theorem v_seql {t t' : TypeId} {x y : Operand} {a b : Str} (hx : ev σ x = strV a) (hy : ev σ y = strV b) (hdT : Nat.blt dT nT = true) (hKT : OpsL P nT opT rsT KT (upd σ dT (.bool (decide (a = b)))) w) : OpsL P nT opT (⟨some dT, .binOp .eql t x y t', ty, pos, aft, none⟩ :: rsT) KT σ w := zk rfl hdT (r_seql hx hy) hKT
theorem v_sub {t t' : TypeId} {x y : Operand} {a b : Int} (hx : ev σ x = .int .i64 a) (hy : ev σ y = .int .i64 b) (hb : -9223372036854775808 ≤ a - b ∧ a - b ≤ 9223372036854775807) (hdT : Nat.blt dT nT = true) (hKT : OpsL P nT opT rsT KT (upd σ dT (.int .i64 (a - b))) w) : OpsL P nT opT (⟨some dT, .binOp .sub t x y t', ty, pos, aft, none⟩ :: rsT) KT σ w := zk rfl hdT (r_sub hx hy hb) hKT
theorem u_sub {KT : Env → Prop} {t t' : TypeId} {x y : Operand} {a b : Int} (hx : ev σ x = .int .i64 a) (hy : ev σ y = .int .i64 b) (hb : -9223372036854775808 ≤ a - b ∧ a - b ≤ 9223372036854775807) (hdT : Nat.blt dT nT = true) (hKT : OpsQ P nT opT CT rsT KT (upd σ dT (.int .i64 (a - b)))) : OpsQ P nT opT CT (⟨some dT, .binOp .sub t x y t', ty, pos, aft, none⟩ :: rsT) KT σ := zm rfl hdT (fun _ _ => r_sub hx hy hb) hKT
end
end Go.Pk

namespace Go.Pk
open Go Go.RowKit
section
variable {P : Program} {n : Nat} {ops : Array Oper} {rest : List Oper} {K : Env → World → Prop} {σ : Env} {w w0 : World} {h0 h : Heap} {own : Own} {ty : TypeId} {pos : String} {aft : Array Edge} {d : Nat}
theorem OpsL.makeInts (st : St h0 w0 h w own) {t e : TypeId} {i : TypeInfo} {x y : Operand} {m : Nat} (hd : Nat.blt d n = true) (ht : P.underlying t = some (.slice e)) (hi : P.info? e = some i) (hz : i.zero = some (.int .i64 0)) (hs : i.size = 1) (hx : ev σ x = .int .i64 (m : Int)) (hy : ev σ y = .int .i64 (m : Int)) (hb : i.bytes * m ≤ 281474976710656) (hm : m ≤ 1000000)
  (hK : ∀ v o w', OSl LInt e h v (List.replicate m (0 : Int)) o → St h0 w0 h w' (own ++ [o]) → OpsL P n ops rest K (upd σ d v) w') :
  OpsL P n ops (⟨some d, .makeSlice t x y, ty, pos, aft, none⟩ :: rest) K σ w := by
 have hb' : (i.bytes : Int) * (m : Int) ≤ 281474976710656 := by
  have h : ((i.bytes * m : Nat) : Int) ≤ 281474976710656 := by omega
  rwa [Int.natCast_mul] at h
 have hr := run_make (P := P) w t e i _ ht hi hz .i64 .i64 m m (by omega) (Int.le_refl _) hb' (by omega)
 simp only [Int.toNat_natCast, hs, Nat.mul_one] at hr
 refine zk rfl hd (v := .slice (some ⟨w.heap.size, 0, none⟩) m m) (by simp [Run, execOp, hx, hy, hr]) (hK _ [(w.heap.size, .cells (madeCells (Value.int .i64 0).cells m) e)] _ ?_ (st.alloc _))
 have hc : (madeCells (Value.int .i64 0).cells m).toList = List.replicate m (.int .i64 0) := toList_madeCells_one _ _
 have hl : LInt.size = 1 := rfl
 refine ⟨List.replicate m (.int .i64 0), ⟨by simp [hl], ?_⟩, .inr ⟨_, m, _, by simp, rfl, by simp, by simp [maxLen]; omega, ?_, ?_⟩⟩
 ·intro k y hy
  obtain ⟨h1, h2⟩ := List.getElem?_eq_some_iff.1 hy
  rw [List.length_replicate] at h1
  rw [List.getElem_replicate] at h2
  subst h2
  rw [hl, Nat.mul_one, List.drop_replicate, List.take_replicate, Nat.min_eq_left (by omega)]
  rfl
 ·rw [← Array.length_toList, hc]; simp [hl]
 ·rw [hc]; simp [hl]
end
theorem set_flat {α : Type} {x : List α} : ∀ {l : List (List α)} {k : Nat}, l[k]? = some [] → (l.set k x).flatten.Perm (x ++ l.flatten)
 | [], k, h => by simp at h
 | a :: l, 0, h => by simp at h; subst h; simp
 | a :: l, k + 1, h => by
  rw [List.set_cons_succ, List.flatten_cons, List.flatten_cons]
  have ih := set_flat (l := l) (k := k) (x := x) (by simpa using h)
  exact (ih.append_left a).trans (by rw [← List.append_assoc, ← List.append_assoc]; exact (List.perm_append_comm).append_right _)
/-- what was frozen for a while is the walk's own again -/
theorem St.melt {h0 h h2 : Heap} {w0 w w' : World} {own own2 : Own} {k b : Nat} {o : Obj} (st : St h0 w0 h w own) (hk : own[k]? = some [(b, o)]) (le2 : Le h h2) (hb : h2 b = some o) (st2 : St h0 w0 h2 w' own2) (hk2 : own2[k]? = some []) : St h0 w0 h w' (own2.set k [(b, o)]) := by
 have hp := set_flat (x := [(b, o)]) hk2
 obtain ⟨_, a2, a3⟩ := st.mine (b, o) (List.mem_flatten.2 ⟨_, List.mem_of_getElem? hk, by simp⟩)
 refine ⟨st.le, st.new, fun c u hc => st2.sub c u (le2 c u hc), st2.below, fun q hq => ?_, ?_⟩
 ·rcases List.mem_append.1 (hp.mem_iff.1 hq) with hq | hq
  ·simp at hq; subst hq
   exact ⟨st2.sub _ _ hb, a2, a3⟩
  ·obtain ⟨b1, b2, b3⟩ := st2.mine q hq
   refine ⟨b1, ?_, b3⟩
   cases e : h q.1 with
   | none => rfl
   | some u => rw [le2 _ _ e] at b2; cases b2
 ·refine ((hp.map _).nodup_iff).2 ?_
  simp only [List.cons_append, List.nil_append, List.map_cons, List.nodup_cons]
  refine ⟨fun q => ?_, st2.nodup⟩
  obtain ⟨r, hr, e⟩ := List.mem_map.1 q
  have := (st2.mine r hr).2.1
  rw [e, hb] at this; cases this
theorem OSl.ints {T : TypeId} {h h' : Heap} {v : Value} {xs : List Int} {o : List (Nat × Obj)} (e : OSl LInt T h v xs o) : OSl LInt T h' v xs o := by
 obtain ⟨cs, e1, e2⟩ := e
 exact ⟨cs, ⟨e1.1, fun i x hi => e1.2 i x hi⟩, e2⟩
section
variable {P : Program} {n : Nat} {ops : Array Oper} {rest : List Oper} {K : Env → World → Prop} {σ : Env} {w w0 : World} {h0 h : Heap} {own : Own} {ty : TypeId} {pos : String} {aft : Array Edge} {d : Nat}
/-- append of numbers that are the walk's own, too -/
theorem OpsL.appendOwnI {k k2 : Nat} {v v2 : Value} {xs ys : List Int} {o o2 : List (Nat × Obj)} {t e : TypeId} {i : TypeInfo} {z : Value} {x y : Operand} (st : St h0 w0 h w own) (hO : OSl LInt e h v xs o) (hk : own[k]? = some o) (hO2 : OSl LInt e h v2 ys o2) (hk2 : own[k2]? = some o2) (hne : k ≠ k2)
  (hx : ev σ x = v) (hy : ev σ y = v2) (hd : Nat.blt d n = true)
  (ht : P.underlying t = some (.slice e)) (hi : P.info? e = some i) (hz : i.zero = some z) (hsize : i.size = 1) (hzs : z.cells.size = 1) {nb : Nat} (hnb : i.bytes = nb) (hb : (xs.length + ys.length) * nb ≤ 140737488355328) (h63 : xs.length + ys.length ≤ 281474976710656)
  (hK : ∀ v' o' w' own', own' = own.set k o' → OSl LInt e h v' (xs ++ ys) o' → St h0 w0 h w' own' → OpsL P n ops rest K (upd σ d v') w') :
  OpsL P n ops (⟨some d, .call ⟨.builtin .append, #[x, y], #[t, t]⟩, ty, pos, aft, none⟩ :: rest) K σ w := by
 have hp1 : 0 < LInt.size := by show 0 < 1; omega
 obtain ⟨cs, e1, ⟨⟨p, rfl⟩, rfl, rfl⟩ | ⟨g, cap, cur, rfl, rfl, hnc, hm, hsz, htk⟩⟩ := hO2
 ·exact zaf st hO hk ⟨p, 0, rfl, ⟨Nat.zero_le _, Nat.zero_le _⟩, .inl rfl⟩ hx hy hd ht hi hz hsize hzs hp1 hnb hb h63 hK
 ·subst hnb
  obtain ⟨h2, le2, hg, st2⟩ := st.freeze hk2
  have hS : Sl LInt h2 (.slice (some ⟨g, 0, none⟩) ys.length cap) ys := by
   have hO3 : OSl LInt e h (.slice (some ⟨g, 0, none⟩) ys.length cap) ys [(g, .cells cur e)] := ⟨cs, e1, .inr ⟨g, cap, cur, rfl, rfl, hnc, hm, hsz, htk⟩⟩
   refine ⟨_, cap, rfl, ⟨show ys.length ≤ 281474976710656 by omega, hnc⟩, .inr ⟨g, 0, rfl, fun i x hi => ⟨_, ⟨cur, e, _, hg, fun j u hj => ?_⟩, LInt.up (e1.2 i x hi) le2⟩⟩⟩
   have hjl : j < LInt.size := by
    rw [List.getElem?_take] at hj
    split at hj
    ·assumption
    ·cases hj
   rw [List.getElem?_take, if_pos hjl, List.getElem?_drop, ← htk, List.getElem?_take] at hj
   split at hj
   ·simpa using hj
   ·cases hj
  have hk' : (own.set k2 [])[k]? = some o := by rw [List.getElem?_set_ne (Ne.symm hne)]; exact hk
  obtain ⟨v', o', w', hr, f1, f2⟩ := run_append (P := P) ty st2 (hO.up le2) hk' hS ht hi hz hsize hzs hp1 hb h63
  have hlt : k2 < own.length := (List.getElem?_eq_some_iff.1 hk2).1
  have s3 := st.melt hk2 le2 hg f2 (by rw [List.getElem?_set_ne hne, List.getElem?_set_self hlt])
  have e3 : (((own.set k2 []).set k o').set k2 [(g, Obj.cells cur e)]) = own.set k o' := by
   rw [List.set_comm _ _ hne, List.set_set]
   congr 1
   exact (List.getElem?_eq_some_iff.1 hk2).2 ▸ List.set_getElem_self hlt
  rw [e3] at s3
  refine zk rfl hd (run_bi rfl (vs := [v, .slice (some ⟨g, 0, none⟩) ys.length cap]) (by simp [hx, hy]) fun cs => ?_) (hK v' o' w' _ rfl f1.ints s3)
  simp only [builtin, Sem.run_bind, hr, Result.andThen_ok, Sem.run_pure]
end
end Go.Pk

namespace Go.Pk
open Go Go.RowKit
structure Six where
 a : Int
 b : Int
 c : Int
 d : Int
 e : Int
 f : Int
deriving DecidableEq
def sixV (s : Six) : Value := .agg #[.int .i64 s.a, .int .i64 s.b, .int .i64 s.c, .int .i64 s.d, .int .i64 s.e, .int .i64 s.f]
theorem six_one {P : Program} {e : TypeId} (he : P.underlying e = some (.int .i64)) (d : Nat) (a b : Int) (w : World) : (Op.equalIn (d + 1) e (.int .i64 a) (.int .i64 b)).run P w = .ok (a == b) w := by
 rw [Op.equalIn]
 simp [run_underlying he]
theorem six_equal {P : Program} {kt e_ : TypeId} (hu : P.underlying kt = some (.array 6 e_)) (he : P.underlying e_ = some (.int .i64)) (ha : ∀ w, (isAgg e_).run P w = .ok false w) (hz : ∀ w, (sizeOf e_).run P w = .ok 1 w) (s t : Six) (w : World) : (Op.equal kt (sixV s) (sixV t)).run P w = .ok (decide (s = t)) w := by
 rcases s with ⟨a, b, c, d, e, f⟩; rcases t with ⟨a', b', c', d', e', f'⟩
 show (Op.equalIn (9998 + 1 + 1) kt _ _).run P w = _
 rw [Op.equalIn]
 simp only [Sem.run_bind, run_underlying hu, Result.andThen_ok, sixV, hz]
 have p1 : ∀ (n : Nat) (xs : Array Value) (v : Value), xs[n]? = some v → (part e_ xs n).run P w = .ok v w := by
  intro n xs v h
  simp [part, ha, h]
 have q := six_one he 9998
 simp only [Std.Legacy.Range.forIn_eq_forIn_range', Std.Legacy.Range.size, Nat.sub_zero, Nat.add_sub_cancel, Nat.div_one, List.range'_succ, List.range'_zero, List.forIn_cons, List.forIn_nil, Nat.mul_one, Nat.zero_add, Nat.reduceAdd]
 have e0 : ∀ x0 x1 x2 x3 x4 x5 : Value, (part e_ #[x0, x1, x2, x3, x4, x5] 0).run P w = .ok x0 w := fun _ _ _ _ _ _ => p1 _ _ _ rfl
 have e1 : ∀ x0 x1 x2 x3 x4 x5 : Value, (part e_ #[x0, x1, x2, x3, x4, x5] 1).run P w = .ok x1 w := fun _ _ _ _ _ _ => p1 _ _ _ rfl
 have e2 : ∀ x0 x1 x2 x3 x4 x5 : Value, (part e_ #[x0, x1, x2, x3, x4, x5] 2).run P w = .ok x2 w := fun _ _ _ _ _ _ => p1 _ _ _ rfl
 have e3 : ∀ x0 x1 x2 x3 x4 x5 : Value, (part e_ #[x0, x1, x2, x3, x4, x5] 3).run P w = .ok x3 w := fun _ _ _ _ _ _ => p1 _ _ _ rfl
 have e4 : ∀ x0 x1 x2 x3 x4 x5 : Value, (part e_ #[x0, x1, x2, x3, x4, x5] 4).run P w = .ok x4 w := fun _ _ _ _ _ _ => p1 _ _ _ rfl
 have e5 : ∀ x0 x1 x2 x3 x4 x5 : Value, (part e_ #[x0, x1, x2, x3, x4, x5] 5).run P w = .ok x5 w := fun _ _ _ _ _ _ => p1 _ _ _ rfl
 by_cases h1 : a = a'
 rotate_left
 ·simp [e0, q, h1]
 by_cases h2 : b = b'
 rotate_left
 ·simp [e0, e1, q, h1, h2]
 by_cases h3 : c = c'
 rotate_left
 ·simp [e0, e1, e2, q, h1, h2, h3]
 by_cases h4 : d = d'
 rotate_left
 ·simp [e0, e1, e2, e3, q, h1, h2, h3, h4]
 by_cases h5 : e = e'
 rotate_left
 ·simp [e0, e1, e2, e3, e4, q, h1, h2, h3, h4, h5]
 by_cases h6 : f = f'
 rotate_left
 ·simp [e0, e1, e2, e3, e4, e5, q, h1, h2, h3, h4, h5, h6]
 simp [e0, e1, e2, e3, e4, e5, q, h1, h2, h3, h4, h5, h6]
/-- keys that are told apart by asking -/
structure KeyF {κ : Type} [DecidableEq κ] (P : Program) (kt : TypeId) (ek : κ → Value) : Prop where
 eq : ∀ a b w, (Op.equal kt (ek a) (ek b)).run P w = .ok (decide (a = b)) w
 now : ∀ (a b : κ) (w : World), ∃ kind, P.underlying kt = some kind ∧ Instr.sameNow kind (ek a) (ek b) = none
 check : ∀ b k w, (Instr.checkKey b 10000 kt (ek k)).run P w = .ok () w
theorem asking_none {κ υ : Type} [DecidableEq κ] {P : Program} {kt : TypeId} {ek : κ → Value} {eu : υ → Value} (hK : KeyF P kt ek) {k : κ} (w : World) : ∀ {es : List MapEntry} {m : List (κ × υ)} (i : Nat), Ent ek eu es m → look m k = none → (Instr.findAsking kt (ek k) es i).run P w = .ok none w
 | [], [], _, _, _ => by simp [Instr.findAsking]
 | e :: es, p :: m, i, h, hl => by
  simp only [look, List.find?_cons] at hl
  have hne : ¬ p.1 = k := fun e => by simp [e] at hl
  simp only [hne, decide_false] at hl
  have hne' : ¬ k = p.1 := fun e => hne e.symm
  have e1 := hK.eq k p.1 w
  rw [decide_eq_false hne'] at e1
  simp [Instr.findAsking, h.1, e1, asking_none hK w (i + 1) h.2.2 hl]
 | [], _ :: _, _, h, _ => h.elim
 | _ :: _, [], _, h, _ => h.elim
theorem asking_some {κ υ : Type} [DecidableEq κ] {P : Program} {kt : TypeId} {ek : κ → Value} {eu : υ → Value} (hK : KeyF P kt ek) {k : κ} (w : World) {v : υ} : ∀ {es : List MapEntry} {m : List (κ × υ)} (i : Nat), Ent ek eu es m → look m k = some v → ∃ j, (Instr.findAsking kt (ek k) es i).run P w = .ok (some (j, eu v)) w
 | [], [], _, _, hl => by cases hl
 | e :: es, p :: m, i, h, hl => by
  by_cases hne : p.1 = k
  ·simp only [look, List.find?_cons, hne, decide_true, Option.map_some, Option.some.injEq] at hl
   have e1 := hK.eq k p.1 w
   rw [decide_eq_true hne.symm] at e1
   exact ⟨i, by simp [Instr.findAsking, h.1, e1, h.2.1, hl]⟩
  ·have hl' : look m k = some v := by simpa only [look, List.find?_cons, hne, decide_false] using hl
   obtain ⟨j, hj⟩ := asking_some hK w (i + 1) h.2.2 hl'
   have e1 := hK.eq k p.1 w
   rw [decide_eq_false (fun e => hne e.symm)] at e1
   exact ⟨j, by simp [Instr.findAsking, h.1, e1, hj]⟩
 | [], _ :: _, _, h, _ => h.elim
 | _ :: _, [], _, h, _ => h.elim
theorem findF {κ υ : Type} [DecidableEq κ] {P : Program} {kt : TypeId} {ek : κ → Value} {eu : υ → Value} (hK : KeyF P kt ek) {k : κ} (w : World) {es : List MapEntry} {m : List (κ × υ)} (h : Ent ek eu es m) : ∃ j, (Instr.findKey kt (ek k) es).run P w = .ok ((look m k).map fun v => (j, eu v)) w := by
 obtain ⟨kind, hu, hn⟩ := hK.now k k w
 cases es with
 | nil =>
  cases m with
  | nil => exact ⟨0, by simp [Instr.findKey, run_underlying hu, Instr.findNow, look]⟩
  | cons _ _ => exact h.elim
 | cons e es =>
  cases m with
  | nil => exact h.elim
  | cons p m =>
   obtain ⟨kind', hu', hn'⟩ := hK.now k p.1 w
   obtain rfl := Option.some.inj (hu.symm.trans hu')
   have e1 : Instr.findNow kind (ek k) (e :: es) 0 = none := by simp [Instr.findNow, h.1, hn']
   cases hl : look (p :: m) k with
   | none =>
    have := asking_none hK w 0 h hl
    exact ⟨0, by simp only [Instr.findKey, Sem.run_bind, run_underlying hu, Result.andThen_ok, e1, this, Option.map_none]⟩
   | some v =>
    obtain ⟨j, hj⟩ := asking_some hK w 0 h hl
    exact ⟨j, by simp only [Instr.findKey, Sem.run_bind, run_underlying hu, Result.andThen_ok, e1, hj, Option.map_some]⟩
section
variable {κ υ : Type} {ek : κ → Value} {eu : υ → Value}
variable {P : Program} {n : Nat} {ops : Array Oper} {rest : List Oper} {K : Env → World → Prop} {σ : Env} {w w0 : World} {h0 h : Heap} {own : Own} {ty : TypeId} {pos : String} {aft : Array Edge} {d : Nat} {dst : Option Tmp} {g : Option (Nat × Bool)}
theorem r_lookF [DecidableEq κ] {t kt et : TypeId} {x y : Operand} {m : List (κ × υ)} {o : List (Nat × Obj)} {v zv : Value} {k : κ} {zu : υ} (hK : KeyF P kt ek) (ht : P.underlying t = some (.map kt et)) (hM : OM ek eu m o v) (hw : ∀ b ob, o = [(b, ob)] → w.heap[b]? = some ob)
  (hz : ∀ w, (zeroValue et).run P w = .ok zv w) (hzu : zv = eu zu) (hx : ev σ x = v) (hy : ev σ y = ek k) :
  Run P σ w ⟨dst, .lookup t x y false, ty, pos, aft, g⟩ (eu ((look m k).getD zu)) w := by
 obtain ⟨b, es, clock, rfl, rfl, hE, _, _⟩ := hM
 have hb := hw b _ rfl
 obtain ⟨j, hf⟩ := findF hK (k := k) w hE
 have hc := hK.check es.isEmpty k w
 have hg : (getObj b).run P w = .ok (.map es clock) w := by simp [getObj, Sem.run, hb]
 subst hzu
 have : (Instr.lookup t (.map (some b)) (ek k) false).run P w = .ok (eu ((look m k).getD zu)) w := by
  simp only [Instr.lookup, Sem.run_bind, run_underlying ht, Result.andThen_ok, hg, Sem.run_pure, hc, hf]
  cases look m k with
  | none => simp [hz]
  | some r => simp
 simp [Run, execOp, hx, hy, this]
/-- a key that is new -/
theorem OpsL.mapInsertF [DecidableEq κ] {t kt et : TypeId} {x y z : Operand} {m : List (κ × υ)} {o : List (Nat × Obj)} {v : Value} {k : κ} {u : υ} {i : Nat} (st : St h0 w0 h w own) (hM : OM ek eu m o v) (hi : own[i]? = some o) (hn : (m.map (·.1)).Nodup) (hK : KeyF P kt ek) (ht : P.underlying t = some (.map kt et))
  (hl : look m k = none) (hx : ev σ x = v) (hy : ev σ y = ek k) (hz : ev σ z = eu u)
  (hk : ∀ o' w' own', own' = own.set i o' → OM ek eu (putM m k u) o' v → ((putM m k u).map (·.1)).Nodup → St h0 w0 h w' own' → OpsL P n ops rest K σ w') :
  OpsL P n ops (⟨none, .mapUpdate t x y z, ty, pos, aft, none⟩ :: rest) K σ w := by
 obtain ⟨b, es, clock, rfl, rfl, hE, hB, hD⟩ := hM
 have hb := st.get hi
 have hg : (getObj b).run P w = .ok (.map es clock) w := by simp [getObj, Sem.run, hb]
 have hset : ∀ es' c', (setObj b (.map es' c')).run P w = .ok () { w with heap := w.heap.setIfInBounds b (.map es' c') } := by
  intro es' c'
  simp [setObj, Sem.run, hb]
 have hc := hK.check false k w
 obtain ⟨j, hf⟩ := findF hK (k := k) w hE
 rw [hl] at hf
 have hp : putM m k u = m ++ [(k, u)] := by simp [putM, hl]
 refine OpsL.eff rfl rfl (w' := { w with heap := w.heap.setIfInBounds b (.map (es.push { key := ek k, val := eu u, born := clock }) (clock + 1)) }) ?_ (hk _ _ _ rfl ⟨b, es.push { key := ek k, val := eu u, born := clock }, clock + 1, rfl, rfl, ?_, ?_, ?_⟩ ?_ (st.set _ hi))
 ·simp only [execOp, hx, hy, hz, Instr.mapUpdate, Sem.run_bind, run_underlying ht, Result.andThen_ok, hg, hc, hf, Option.map_none, hset, Sem.run_pure]
 ·rw [hp, Array.toList_push]; exact hE.snoc rfl rfl
 ·intro e he
  rw [Array.toList_push, List.mem_append] at he
  rcases he with he | he
  ·exact Nat.lt_succ_of_lt (hB e he)
  ·simp at he; subst he; exact Nat.lt_succ_self _
 ·rw [Array.toList_push, List.map_append, List.nodup_append]
  refine ⟨hD, by simp, fun a ha c hc' => ?_⟩
  simp at hc'
  subst hc'
  obtain ⟨e, he, rfl⟩ := List.mem_map.1 ha
  exact Nat.ne_of_lt (hB e he)
 ·rw [hp, List.map_append, List.nodup_append]
  refine ⟨hn, by simp, fun a ha c hc' => ?_⟩
  simp at hc'
  subst hc'
  rintro rfl
  obtain ⟨p, hp', rfl⟩ := List.mem_map.1 ha
  have : (m.find? fun q => decide (q.1 = p.1)).isSome = true := by
   rw [List.find?_isSome]; exact ⟨p, hp', by simp⟩
  simp only [look, Option.map_eq_none_iff] at hl
  rw [hl] at this; cases this
end
theorem six_key {P : Program} {kt e_ : TypeId} (hu : P.underlying kt = some (.array 6 e_)) (he : P.underlying e_ = some (.int .i64)) (ha : ∀ w, (isAgg e_).run P w = .ok false w) (hz : ∀ w, (sizeOf e_).run P w = .ok 1 w) : KeyF P kt sixV where
 eq := six_equal hu he ha hz
 now := fun a b w => ⟨_, hu, rfl⟩
 check := fun em s w => by
  rcases s with ⟨a, b, c, d, e, f⟩
  rw [show (10000 : Nat) = 9998 + 1 + 1 from rfl, Instr.checkKey]
  have p1 : ∀ (n : Nat) (xs : Array Value) (v : Value), xs[n]? = some v → (part e_ xs n).run P w = .ok v w := by
   intro n xs v h
   simp [part, ha, h]
  have q : ∀ (x : Int), (Instr.checkKey em (9998 + 1) e_ (.int .i64 x)).run P w = .ok () w := by
   intro x
   rw [Instr.checkKey]
   simp [run_underlying he]
  simp only [Sem.run_bind, run_underlying hu, Result.andThen_ok, sixV, hz]
  simp only [Std.Legacy.Range.forIn_eq_forIn_range', Std.Legacy.Range.size, Nat.sub_zero, Nat.add_sub_cancel, Nat.div_one, List.range'_succ, List.range'_zero, List.forIn_cons, List.forIn_nil, Nat.mul_one, Nat.zero_add, Nat.reduceAdd]
  have e0 : ∀ x0 x1 x2 x3 x4 x5 : Value, (part e_ #[x0, x1, x2, x3, x4, x5] 0).run P w = .ok x0 w := fun _ _ _ _ _ _ => p1 _ _ _ rfl
  have e1 : ∀ x0 x1 x2 x3 x4 x5 : Value, (part e_ #[x0, x1, x2, x3, x4, x5] 1).run P w = .ok x1 w := fun _ _ _ _ _ _ => p1 _ _ _ rfl
  have e2 : ∀ x0 x1 x2 x3 x4 x5 : Value, (part e_ #[x0, x1, x2, x3, x4, x5] 2).run P w = .ok x2 w := fun _ _ _ _ _ _ => p1 _ _ _ rfl
  have e3 : ∀ x0 x1 x2 x3 x4 x5 : Value, (part e_ #[x0, x1, x2, x3, x4, x5] 3).run P w = .ok x3 w := fun _ _ _ _ _ _ => p1 _ _ _ rfl
  have e4 : ∀ x0 x1 x2 x3 x4 x5 : Value, (part e_ #[x0, x1, x2, x3, x4, x5] 4).run P w = .ok x4 w := fun _ _ _ _ _ _ => p1 _ _ _ rfl
  have e5 : ∀ x0 x1 x2 x3 x4 x5 : Value, (part e_ #[x0, x1, x2, x3, x4, x5] 5).run P w = .ok x5 w := fun _ _ _ _ _ _ => p1 _ _ _ rfl
  simp [hz, e0, e1, e2, e3, e4, e5, q]
end Go.Pk

namespace Go.Pk
def inB (n lo hi : Int) : Bool := decide (lo ≤ n) && decide (n ≤ hi)
def isL (c : UInt8) : Bool := decide (97 ≤ (c.toNat : Int)) && decide ((c.toNat : Int) ≤ 122)
def lettersB (s : Str) (lo : Int) : Bool := s.all isL && inB s.length lo 12
def wordB (s : Str) : Bool := lettersB s 1
def lineB (l : List Str) : Bool := inB l.length 1 10 && l.all wordB
def chapterB (c : Chapter) : Bool := inB c.id 0 9999 && inB c.lines.length 1 10 && c.lines.all lineB
def textB (t : Text) : Bool := inB t.chapters.length 1 6 && t.chapters.all chapterB && decide (t.chapters.map (·.id)).Nodup
/-- the line of a place -/
def lineAt (t : Text) (p : Place) : Option (List Str) :=
 if 0 ≤ p.chapter ∧ 0 ≤ p.line then (t.chapters[p.chapter.toNat]?).bind fun c => c.lines[p.line.toNat]? else none
def wordAt (t : Text) (p : Place) : Option Str :=
 if 0 ≤ p.word then (lineAt t p).bind fun l => l[p.word.toNat]? else none
def placeB (t : Text) (p : Place) : Bool := (wordAt t p).isSome
def beforeB (a b : Place) : Bool :=
 if a.chapter ≠ b.chapter then decide (a.chapter < b.chapter) else if a.line ≠ b.line then decide (a.line < b.line) else decide (a.word < b.word)
def ruleB (r : Rule) : Bool := lettersB r.cut 1 && lettersB r.put 0 && decide (r.cut ≠ r.put) && inB r.least 1 12
def headB (h : Head) : Bool := wordB h.stem && inB h.mark 0 3
def zPlace : Place := ⟨0, 0, 0⟩
def zHead : Head := ⟨[], 0⟩
def zDecision : Decision := ⟨0, 0, [], zPlace, zHead, 0⟩
def decisionB (t : Text) (d : Decision) : Bool :=
 inB d.number 1 999 &&
 (if d.kind = 1 then wordB d.form && decide (d.at_ = zPlace) && headB d.to && decide (d.of_ = 0)
  else if d.kind = 2 then wordB d.form && placeB t d.at_ && headB d.to && decide (d.of_ = 0)
  else if d.kind = 3 then decide (d.form = []) && placeB t d.at_ && headB d.to && decide (d.of_ = 0)
  else if d.kind = 4 then decide (d.form = []) && decide (d.at_ = zPlace) && decide (d.to = zHead) && inB d.of_ 1 (d.number - 1)
  else false)
def lexiconB (t : Text) (x : Lexicon) : Bool :=
 decide (x.rules.length ≤ 12) && decide (x.decisions.length ≤ 20) && x.rules.all ruleB && x.decisions.all (decisionB t) && decide (x.decisions.map (·.number)).Nodup
def checkN (t : Text) (x : Lexicon) : Int := if textB t = false then 10 else if lexiconB t x = false then 40 else 0
/-- what a rule makes of a word -/
def made (r : Rule) (w : Str) : Option Str :=
 if r.cut.length ≤ w.length ∧ r.least ≤ ((w.length - r.cut.length : Nat) : Int) ∧ w.drop (w.length - r.cut.length) = r.cut ∧ w.length - r.cut.length + r.put.length ≤ 12 then some (w.take (w.length - r.cut.length) ++ r.put) else none
/-- the next step of a word, and its steps -/
def stepOf (rs : List Rule) (w : Str) : Option Str := rs.findSome? (made · w)
def stepsN (rs : List Rule) : Nat → Str → List Str
 | 0, w => [w]
 | n + 1, w => match stepOf rs w with
  | none => [w]
  | some s => w :: stepsN rs n s
theorem drop_cons {α : Type} {xs : List α} {k : Nat} {y : α} (h : xs[k]? = some y) : xs.drop k = y :: xs.drop (k + 1) := by
 obtain ⟨h1, h2⟩ := List.getElem?_eq_some_iff.1 h
 rw [List.drop_eq_getElem_cons h1, h2]
def stepsR (t : Text) (x : Lexicon) (w : Str) : List Str := if checkN t x = 0 ∧ wordB w = true then stepsN x.rules 4 w else []
def stepsE (t : Text) (x : Lexicon) (w : Str) : Int := if checkN t x ≠ 0 then checkN t x else if wordB w then 0 else 2
/-- whether a decision stands: none that stands makes it void -/
def standsF (x : Lexicon) : Nat → Decision → Bool
 | 0, _ => true
 | n + 1, d => x.decisions.all fun v => !(decide (v.kind = 4) && decide (v.of_ = d.number) && standsF x n v)
def voids (x : Lexicon) (n : Nat) (d v : Decision) : Bool := !(decide (v.kind = 4) && decide (v.of_ = d.number) && standsF x (n - 1) v)
def standsB (x : Lexicon) (d : Decision) : Bool := standsF x 1000 d
/-- the decisions that stand, by their Numbers -/
def standP (x : Lexicon) (n : Nat) (d : Decision) : Bool := decide (d.number = (n : Int) + 1) && standsF x 1000 d
def standAt (x : Lexicon) (n : Nat) : List Decision := x.decisions.filter (standP x n)
def standingR (x : Lexicon) : List Decision := (List.range 999).flatMap (standAt x)
def standingN (t : Text) (x : Lexicon) : List Int := if checkN t x = 0 then (standingR x).map (·.number) else []
/-- all numbers are within -/
def inAll (l : List Int) (lo hi : Int) : Bool := l.all fun n => inB n lo hi
theorem inAll_eq (l : List Int) (lo hi : Int) : (!(l.any fun n => decide (n < lo) || decide (hi < n))) = inAll l lo hi := by
 unfold inAll
 rw [List.not_any_eq_all_not]
 congr 1
 funext n
 simp only [inB, Bool.not_or]
 by_cases h1 : n < lo <;> by_cases h2 : hi < n <;> simp [h1, h2] <;> omega
@[simp] theorem inAll_one (n lo hi : Int) : inAll [n] lo hi = inB n lo hi := by simp [inAll]
theorem letters_any (s : Str) : ((s.map fun c => (c.toNat : Int)).any fun b => decide (b < 97) || decide (122 < b)) = !(s.all isL) := by
 rw [List.any_map, List.not_all_eq_any_not]
 congr 1
 funext c
 simp only [Function.comp, isL, Bool.not_and]
 by_cases h1 : (c.toNat : Int) < 97 <;> by_cases h2 : 122 < (c.toNat : Int) <;> simp [h1, h2] <;> omega
theorem wordB_eq (s : Str) : wordB s = (inB s.length 1 12 && !((s.map fun c => (c.toNat : Int)).any fun b => decide (b < 97) || decide (122 < b))) := by
 rw [letters_any, wordB, lettersB, Bool.not_not, Bool.and_comm]
theorem place_eq (t : Text) (p : Place) : placeB t p = ((lineAt t p).isSome && inB p.word 0 ((((lineAt t p).getD []).length : Int) - 1)) := by
 unfold placeB wordAt
 cases h : lineAt t p with
 | none => simp
 | some l =>
  simp only [Option.bind_some, Option.isSome_some, Option.getD_some, Bool.true_and, inB]
  by_cases h1 : 0 ≤ p.word
  ·rw [if_pos h1]
   by_cases h2 : p.word ≤ (l.length : Int) - 1
   ·rw [List.getElem?_eq_getElem (by omega)]; simp [h1, h2]
   ·rw [List.getElem?_eq_none (by omega)]; simp [h2]
  ·rw [if_neg h1]; simp [h1]
theorem line_none1 {t : Text} {p : Place} (h : ¬ (0 ≤ p.chapter ∧ p.chapter ≤ (t.chapters.length : Int) - 1)) : lineAt t p = none := by
 unfold lineAt
 split
 ·rename_i h1
  rw [List.getElem?_eq_none (by omega)]; rfl
 ·rfl
theorem line_none2 {t : Text} {p : Place} {c : Chapter} (hc : t.chapters[p.chapter.toNat]? = some c) (h : ¬ (0 ≤ p.line ∧ p.line ≤ (c.lines.length : Int) - 1)) : lineAt t p = none := by
 unfold lineAt
 split
 ·rename_i h1
  rw [hc]
  exact List.getElem?_eq_none (by omega)
 ·rfl
theorem line_some {t : Text} {p : Place} {c : Chapter} {l : List Str} (hc : t.chapters[p.chapter.toNat]? = some c) (h : 0 ≤ p.chapter) (hl : c.lines[p.line.toNat]? = some l) (h2 : 0 ≤ p.line) : lineAt t p = some l := by
 unfold lineAt
 rw [if_pos ⟨h, h2⟩, hc]; exact hl
section
variable {α : Type} {xs : List α} {k : Nat} {y : α} {p : α → Bool}
theorem all_take_succ (h : (xs.take k).all p = true) (hy : xs[k]? = some y) (hp : p y = true) : (xs.take (k + 1)).all p = true := by
 rw [take_snoc hy, List.all_append, h]; simp [hp]
theorem all_of_take (h : (xs.take k).all p = true) (hk : xs.length ≤ k) : xs.all p = true := by
 rwa [List.take_of_length_le hk] at h
theorem nodup_take_succ {β : Type} {f : α → β} (h : ((xs.take k).map f).Nodup) (hy : xs[k]? = some y) (hk : k ≤ xs.length) (hd : ∀ j z, j < k → xs[j]? = some z → f z ≠ f y) : ((xs.take (k + 1)).map f).Nodup := by
 rw [take_snoc hy, List.map_append, List.nodup_append]
 refine ⟨h, by simp, ?_⟩
 intro a ha b hb e
 simp only [List.map_cons, List.map_nil, List.mem_singleton] at hb
 subst hb
 subst e
 obtain ⟨z, hz, e⟩ := List.mem_map.1 ha
 obtain ⟨j, hj⟩ := List.mem_iff_getElem?.1 hz
 rw [List.getElem?_take] at hj
 split at hj
 ·exact hd j z (by assumption) hj e
 ·cases hj
theorem not_nodup {β : Type} {f : α → β} {j : Nat} {z : α} (hz : xs[j]? = some z) (hy : xs[k]? = some y) (hj : j < k) (e : f z = f y) : ¬ (xs.map f).Nodup := by
 intro h
 obtain ⟨h1, h2⟩ := List.getElem?_eq_some_iff.1 hz
 obtain ⟨h3, h4⟩ := List.getElem?_eq_some_iff.1 hy
 have h5 := List.pairwise_iff_getElem.1 h j k (by simpa using h1) (by simpa using h3) hj
 simp only [List.getElem_map, h2, h4] at h5
 exact h5 e
theorem not_nodup_mem {β : Type} {f : α → β} (hy : xs[k]? = some y) (h : f y ∈ (xs.take k).map f) : ¬ (xs.map f).Nodup := by
 obtain ⟨z, hz, e⟩ := List.mem_map.1 h
 obtain ⟨j, hj⟩ := List.mem_iff_getElem?.1 hz
 rw [List.getElem?_take] at hj
 split at hj
 ·exact not_nodup hj hy (by assumption) e
 ·cases hj
theorem any_not (q : α → Bool) : (xs.any fun x => !q x) = !(xs.all q) := by rw [List.not_all_eq_any_not]
theorem not_all (hy : xs[k]? = some y) (hp : p y = false) : xs.all p = false := by
 rw [List.all_eq_false]
 exact ⟨y, List.mem_of_getElem? hy, by simp [hp]⟩
end
end Go.Pk

namespace Go.Pk
open Go Go.RowKit
theorem eq_take_succ {α : Type} {a b : List α} {k : Nat} {x y : α} (h : a.take k = b.take k) (ha : a[k]? = some x) (hb : b[k]? = some y) (e : x = y) : a.take (k + 1) = b.take (k + 1) := by
 subst e
 rw [List.take_add_one, List.take_add_one, h, ha, hb]
theorem ne_of_get {α : Type} {a b : List α} {k : Nat} {x y : α} (ha : a[k]? = some x) (hb : b[k]? = some y) (e : x ≠ y) : a ≠ b := by
 rintro rfl
 rw [ha] at hb; cases hb; exact e rfl
theorem eq_of_take {α : Type} {a b : List α} {k : Nat} (h : a.take k = b.take k) (hl : a.length = b.length) (hk : a.length ≤ k) : a = b := by
 rwa [List.take_of_length_le hk, List.take_of_length_le (by omega)] at h
theorem letters_eq (s : Str) (lo : Int) : lettersB s lo = (inB s.length lo 12 && !(s.any fun c => decide ((c.toNat : Int) < 97) || decide (122 < (c.toNat : Int)))) := by
 unfold lettersB
 rw [Bool.and_comm]
 congr 1
 rw [List.not_any_eq_all_not]
 congr 1
 funext c
 simp only [isL, Bool.not_or]
 congr 1 <;> (rw [← decide_not]; congr 1; simp only [Int.not_lt])
theorem head_eq (h : Head) (h0 : 0 ≤ h.mark) : headB h = (lettersB h.stem 1 && decide (h.mark ≤ 3)) := by
 unfold headB wordB inB
 simp [h0]
theorem dec_eq (d : Decision) (k : Int) (f : Str) (a : Place) (t : Head) (o : Int) : (d = Decision.mk d.number k f a t o) ↔ (d.kind = k ∧ d.form = f ∧ d.at_ = a ∧ d.to = t ∧ d.of_ = o) := by
 rcases d with ⟨n, k', f', a', t', o'⟩
 simp
theorem at_ok {t : Text} {p : Place} (ht : textB t = true) : ((if (textB t && placeB t p) = true then (0 : Int) else if textB t = true then 12 else 10) = 0) = (placeB t p = true) := by
 cases h : placeB t p <;> simp [ht]
theorem dec1_t {t : Text} {d : Decision} (ht : textB t = true) (hk : d.kind = 1) (hn : (!inAll [d.number] 1 999) = false) (g : d = Decision.mk d.number d.kind d.form (Place.mk 0 0 0) d.to 0) (e0 : lettersB d.form 1 = true) (e1 : headB d.to = true) : true = decisionB t d := by
 rw [inAll_one] at hn
 rw [dec_eq] at g
 try rw [at_ok ht] at e0
 try rw [at_ok ht] at e1
 simp_all [decisionB, wordB, zPlace, zHead]
theorem dec1_f0 {t : Text} {d : Decision} (ht : textB t = true) (hk : d.kind = 1) (hn : (!inAll [d.number] 1 999) = false) (g : d = Decision.mk d.number d.kind d.form (Place.mk 0 0 0) d.to 0) (e0 : lettersB d.form 1 = false) : false = decisionB t d := by
 rw [inAll_one] at hn
 rw [dec_eq] at g
 try rw [at_ok ht] at e0
 simp_all [decisionB, wordB, zPlace, zHead]
theorem dec1_f1 {t : Text} {d : Decision} (ht : textB t = true) (hk : d.kind = 1) (hn : (!inAll [d.number] 1 999) = false) (g : d = Decision.mk d.number d.kind d.form (Place.mk 0 0 0) d.to 0) (e0 : lettersB d.form 1 = true) (e1 : headB d.to = false) : false = decisionB t d := by
 rw [inAll_one] at hn
 rw [dec_eq] at g
 try rw [at_ok ht] at e0
 try rw [at_ok ht] at e1
 simp_all [decisionB, wordB, zPlace, zHead]
theorem dec1_n {t : Text} {d : Decision} (ht : textB t = true) (hk : d.kind = 1) (hn : (!inAll [d.number] 1 999) = false) (g : ¬ d = Decision.mk d.number d.kind d.form (Place.mk 0 0 0) d.to 0) : false = decisionB t d := by
 rw [inAll_one] at hn
 rw [dec_eq] at g
 symm
 rw [Bool.eq_false_iff]
 intro q
 apply g
 simp [decisionB, hk, zPlace, zHead, Bool.and_eq_true] at q
 simp_all
theorem dec2_t {t : Text} {d : Decision} (ht : textB t = true) (hk : d.kind = 2) (hn : (!inAll [d.number] 1 999) = false) (g : d = Decision.mk d.number d.kind d.form d.at_ d.to 0) (e0 : lettersB d.form 1 = true) (e1 : ((if (textB t && placeB t d.at_) = true then (0 : Int) else if textB t = true then 12 else 10) = 0)) (e2 : headB d.to = true) : true = decisionB t d := by
 rw [inAll_one] at hn
 rw [dec_eq] at g
 try rw [at_ok ht] at e0
 try rw [at_ok ht] at e1
 try rw [at_ok ht] at e2
 simp_all [decisionB, wordB, zPlace, zHead]
theorem dec2_f0 {t : Text} {d : Decision} (ht : textB t = true) (hk : d.kind = 2) (hn : (!inAll [d.number] 1 999) = false) (g : d = Decision.mk d.number d.kind d.form d.at_ d.to 0) (e0 : lettersB d.form 1 = false) : false = decisionB t d := by
 rw [inAll_one] at hn
 rw [dec_eq] at g
 try rw [at_ok ht] at e0
 simp_all [decisionB, wordB, zPlace, zHead]
theorem dec2_f1 {t : Text} {d : Decision} (ht : textB t = true) (hk : d.kind = 2) (hn : (!inAll [d.number] 1 999) = false) (g : d = Decision.mk d.number d.kind d.form d.at_ d.to 0) (e0 : lettersB d.form 1 = true) (e1 : ¬ ((if (textB t && placeB t d.at_) = true then (0 : Int) else if textB t = true then 12 else 10) = 0)) : false = decisionB t d := by
 rw [inAll_one] at hn
 rw [dec_eq] at g
 try rw [at_ok ht] at e0
 try rw [at_ok ht] at e1
 simp_all [decisionB, wordB, zPlace, zHead]
theorem dec2_f2 {t : Text} {d : Decision} (ht : textB t = true) (hk : d.kind = 2) (hn : (!inAll [d.number] 1 999) = false) (g : d = Decision.mk d.number d.kind d.form d.at_ d.to 0) (e0 : lettersB d.form 1 = true) (e1 : ((if (textB t && placeB t d.at_) = true then (0 : Int) else if textB t = true then 12 else 10) = 0)) (e2 : headB d.to = false) : false = decisionB t d := by
 rw [inAll_one] at hn
 rw [dec_eq] at g
 try rw [at_ok ht] at e0
 try rw [at_ok ht] at e1
 try rw [at_ok ht] at e2
 simp_all [decisionB, wordB, zPlace, zHead]
theorem dec2_n {t : Text} {d : Decision} (ht : textB t = true) (hk : d.kind = 2) (hn : (!inAll [d.number] 1 999) = false) (g : ¬ d = Decision.mk d.number d.kind d.form d.at_ d.to 0) : false = decisionB t d := by
 rw [inAll_one] at hn
 rw [dec_eq] at g
 symm
 rw [Bool.eq_false_iff]
 intro q
 apply g
 simp [decisionB, hk, zPlace, zHead, Bool.and_eq_true] at q
 simp_all
theorem dec3_t {t : Text} {d : Decision} (ht : textB t = true) (hk : d.kind = 3) (hn : (!inAll [d.number] 1 999) = false) (g : d = Decision.mk d.number d.kind [] d.at_ d.to 0) (e0 : ((if (textB t && placeB t d.at_) = true then (0 : Int) else if textB t = true then 12 else 10) = 0)) (e1 : headB d.to = true) : true = decisionB t d := by
 rw [inAll_one] at hn
 rw [dec_eq] at g
 try rw [at_ok ht] at e0
 try rw [at_ok ht] at e1
 simp_all [decisionB, wordB, zPlace, zHead]
theorem dec3_f0 {t : Text} {d : Decision} (ht : textB t = true) (hk : d.kind = 3) (hn : (!inAll [d.number] 1 999) = false) (g : d = Decision.mk d.number d.kind [] d.at_ d.to 0) (e0 : ¬ ((if (textB t && placeB t d.at_) = true then (0 : Int) else if textB t = true then 12 else 10) = 0)) : false = decisionB t d := by
 rw [inAll_one] at hn
 rw [dec_eq] at g
 try rw [at_ok ht] at e0
 simp_all [decisionB, wordB, zPlace, zHead]
theorem dec3_f1 {t : Text} {d : Decision} (ht : textB t = true) (hk : d.kind = 3) (hn : (!inAll [d.number] 1 999) = false) (g : d = Decision.mk d.number d.kind [] d.at_ d.to 0) (e0 : ((if (textB t && placeB t d.at_) = true then (0 : Int) else if textB t = true then 12 else 10) = 0)) (e1 : headB d.to = false) : false = decisionB t d := by
 rw [inAll_one] at hn
 rw [dec_eq] at g
 try rw [at_ok ht] at e0
 try rw [at_ok ht] at e1
 simp_all [decisionB, wordB, zPlace, zHead]
theorem dec3_n {t : Text} {d : Decision} (ht : textB t = true) (hk : d.kind = 3) (hn : (!inAll [d.number] 1 999) = false) (g : ¬ d = Decision.mk d.number d.kind [] d.at_ d.to 0) : false = decisionB t d := by
 rw [inAll_one] at hn
 rw [dec_eq] at g
 symm
 rw [Bool.eq_false_iff]
 intro q
 apply g
 simp [decisionB, hk, zPlace, zHead, Bool.and_eq_true] at q
 simp_all
theorem dec4_t {t : Text} {d : Decision} (ht : textB t = true) (hk : d.kind = 4) (hn : (!inAll [d.number] 1 999) = false) (g : d = Decision.mk d.number d.kind [] (Place.mk 0 0 0) (Head.mk [] 0) d.of_) : inAll [d.of_] 1 (d.number - 1) = decisionB t d := by
 rw [inAll_one] at hn ⊢
 rw [dec_eq] at g
 simp_all [decisionB, wordB, zPlace, zHead]
theorem dec4_n {t : Text} {d : Decision} (ht : textB t = true) (hk : d.kind = 4) (hn : (!inAll [d.number] 1 999) = false) (g : ¬ d = Decision.mk d.number d.kind [] (Place.mk 0 0 0) (Head.mk [] 0) d.of_) : false = decisionB t d := by
 rw [inAll_one] at hn
 rw [dec_eq] at g
 symm
 rw [Bool.eq_false_iff]
 intro q
 apply g
 simp [decisionB, hk, zPlace, zHead, Bool.and_eq_true] at q
 have q1 := of_decide_eq_true q.2.1.1.2
 have q2 := of_decide_eq_true q.2.1.2
 have q3 := q.2.1.1.1
 simp_all
theorem line_le {h : Heap} {v : Value} {t : Text} (f : Sl LChapter h v t.chapters) (p : Place) : ((lineAt t p).getD []).length ≤ 281474976710656 := by
 cases e : lineAt t p with
 | none => simp
 | some l =>
  unfold lineAt at e
  split at e
  ·cases e2 : t.chapters[p.chapter.toNat]? with
   | none => rw [e2] at e; cases e
   | some c =>
    rw [e2, Option.bind_some] at e
    obtain ⟨_, _, _, _, _, hr⟩ := Sl.elem f e2
    obtain ⟨v1, rfl, f1⟩ := hr
    obtain ⟨_, _, _, _, _, hr2⟩ := Sl.elem f1 e
    obtain ⟨v2, rfl, f2⟩ := hr2
    exact f2.le
  ·cases e
theorem word_some {t : Text} {p : Place} {wd : Str} (hp : placeB t p = true) (hw : ((lineAt t p).getD [])[p.word.toNat]? = some wd) : wordAt t p = some wd := by
 unfold placeB wordAt at hp
 unfold wordAt
 split at hp
 ·rename_i h1
  rw [if_pos h1]
  cases e : lineAt t p with
  | none => rw [e] at hw; cases hw
  | some l => rw [e] at hw; exact hw
 ·cases hp
theorem word_none {t : Text} {p : Place} (hp : placeB t p = false) : wordAt t p = none := by
 unfold placeB at hp
 cases e : wordAt t p with
 | none => rfl
 | some l => rw [e] at hp; cases hp
/-- a pointer that is there just if c: to a box of its own, never turned again -/
def Box {α : Type} (L : Lay α) (h : Heap) (c : Bool) (x : α) (v : Value) : Prop := bif c then ∃ b vs, v = .pointer (some ⟨b, 0, none⟩) ∧ Cells h b 0 vs ∧ L.R h vs x else v = .pointer none
theorem Box.nil {α : Type} {L : Lay α} {h : Heap} {c : Bool} {x : α} (e : c = false) : Box L h c x (.pointer none) := by subst e; rfl
theorem Box.some {α : Type} {L : Lay α} {h : Heap} {c : Bool} {x : α} {b : Nat} {vs : List Value} (e : c = true) (hc : Cells h b 0 vs) (hr : L.R h vs x) : Box L h c x (.pointer (some ⟨b, 0, none⟩)) := by subst e; exact ⟨b, vs, rfl, hc, hr⟩
/-- what stem.Check asks of the k-th decision: its number is new, and it is valid -/
def decP (t : Text) (ds : List Decision) (k : Nat) : Bool := match ds[k]? with | some d => !(decide (d.number ∈ (ds.take k).map (·.number))) && decisionB t d | none => true
theorem decP_some {t : Text} {ds : List Decision} {k : Nat} {d : Decision} (h : ds[k]? = some d) : decP t ds k = (!(decide (d.number ∈ (ds.take k).map (·.number))) && decisionB t d) := by simp [decP, h]
theorem nodup_upto {α β : Type} {xs : List α} {f : α → β} (h : ∀ j y, xs[j]? = some y → f y ∉ (xs.take j).map f) : ∀ n, n ≤ xs.length → ((xs.take n).map f).Nodup
 | 0, _ => by simp
 | n + 1, hn => by
  have hy : xs[n]? = some xs[n] := List.getElem?_eq_getElem (by omega)
  rw [take_snoc hy, List.map_append, List.nodup_append]
  refine ⟨nodup_upto h n (by omega), by simp, ?_⟩
  intro a ha b hb e
  simp only [List.map_cons, List.map_nil, List.mem_singleton] at hb
  subst hb; subst e
  exact h n _ hy ha
theorem decisions_iff {t : Text} {ds : List Decision} {b : Bool} (h : b = true ↔ ∀ j, j < ds.length → decP t ds j = true) : b = (ds.all (decisionB t) && decide (ds.map (·.number)).Nodup) := by
 rw [Bool.eq_iff_iff, h, Bool.and_eq_true, decide_eq_true_eq, List.all_eq_true]
 constructor
 ·intro hall
  have h1 : ∀ j y, ds[j]? = some y → y.number ∉ (ds.take j).map (·.number) ∧ decisionB t y = true := by
   intro j y hy
   have := hall j (List.getElem?_eq_some_iff.1 hy).1
   rw [decP_some hy] at this
   simpa using this
  refine ⟨fun y hy => ?_, ?_⟩
  ·obtain ⟨j, hj⟩ := List.mem_iff_getElem?.1 hy
   exact (h1 j y hj).2
  ·have := nodup_upto (f := (·.number)) (fun j y hy => (h1 j y hy).1) ds.length (Nat.le_refl _)
   rwa [List.take_length] at this
 ·rintro ⟨h1, h2⟩ j hj
  have hy : ds[j]? = some ds[j] := List.getElem?_eq_getElem hj
  rw [decP_some hy, h1 _ (List.getElem_mem hj)]
  simp only [Bool.and_true, Bool.not_eq_true', decide_eq_false_iff_not]
  intro hm
  exact not_nodup_mem (f := (·.number)) hy hm h2
end Go.Pk

namespace Go.Pk
open Go Go.RowKit
theorem sub_flat {α : Type} {a b : List (List α)} (h : a.Sublist b) : a.flatten.Sublist b.flatten := by
 induction h with
 | slnil => exact List.Sublist.refl _
 | cons c _ ih => rw [List.flatten_cons]; exact ih.trans (List.sublist_append_right _ _)
 | cons_cons c _ ih => rw [List.flatten_cons, List.flatten_cons]; exact (List.Sublist.refl _).append ih
theorem St.sublist {h0 h : Heap} {w0 w : World} {own own' : Own} (st : St h0 w0 h w own) (hs : own'.Sublist own) : St h0 w0 h w own' := by
 have hsub : own'.flatten.Sublist own.flatten := sub_flat hs
 exact ⟨st.le, st.new, st.sub, st.below, fun p hp => st.mine p (hsub.subset hp), (hsub.map _).nodup st.nodup⟩
theorem heapOf_le {h : Heap} {w : World} (hs : Sub h w) : Le h (heapOf w) := fun b o hb => hs b o hb
theorem Rets.thaw {P : Program} {f : FuncId} {args : Array Value} {h : Heap} {w : World} {v : Value} (hs : Sub h w) (hc : Calls P f args w (Rets (heapOf w) w fun _ _ r => r = v)) : Calls P f args w (Rets h w fun _ _ r => r = v) := by
 refine hc.mono ?_
 rintro e w' ⟨h', r, rfl, s, rfl⟩
 exact ⟨h, _, rfl, St.thaw s hs, rfl⟩
section
variable {α : Type} {L : Lay α} {T : TypeId} {h : Heap} {v : Value} {xs : List α} {o : List (Nat × Obj)}
theorem OSl.cap {p : Option Addr} {n c : Nat} (e : OSl L T h v xs o) (hv : v = .slice p n c) : n = xs.length ∧ xs.length ≤ c := by
 have h1 := e.caps _ _ _ hv
 have h2 := e.len _ _ _ hv
 exact ⟨h2, h2 ▸ h1⟩
end
section
variable {P : Program} {n : Nat} {ops : Array Oper} {rest : List Oper} {K : Env → World → Prop} {σ : Env} {w w0 : World} {h0 h : Heap} {own : Own} {ty : TypeId} {pos : String} {aft : Array Edge}
end
theorem Box.up {α : Type} {L : Lay α} {h h' : Heap} {c : Bool} {x : α} {v : Value} (f : Box L h c x v) (hl : Le h h') : Box L h' c x v := by
 cases c with
 | false => exact f
 | true => obtain ⟨b, vs, e, hc, hr⟩ := f; exact ⟨b, vs, e, hc.up hl, L.up hr hl⟩
end Go.Pk

namespace Go.Pk
open Go Go.RowKit
theorem reads_Place {P : Program} {W : World} {t : TypeId} {fs : Array Field} (hu : P.underlying t = some (.struct fs)) (hc : P.cellsOf t = 3) {f0 : Field} (h0 : fs[0]? = some f0) (o0 : f0.offset = 0) (n0 : P.cellsOf f0.type = 1) (r0 : Reads P W f0.type LInt) {f1 : Field} (h1 : fs[1]? = some f1) (o1 : f1.offset = 1) (n1 : P.cellsOf f1.type = 1) (r1 : Reads P W f1.type LInt) {f2 : Field} (h2 : fs[2]? = some f2) (o2 : f2.offset = 2) (n2 : P.cellsOf f2.type = 1) (r2 : Reads P W f2.type LInt) : Reads P W t LPlace := by
 intro H enc sp held fuel cs d ps h hw
 obtain ⟨hl, hf⟩ := reads_fields hu hc h hw
 match cs, hl with
 | [c0, c1, c2], _ =>
 obtain ⟨x0, e0⟩ := hf 0 f0 h0 r0
 rw [o0, n0] at e0
 simp only [List.drop_succ_cons, List.drop_zero, List.take_succ_cons, List.take_zero] at e0
 cases (show [c0] = [_] from e0)
 obtain ⟨x1, e1⟩ := hf 1 f1 h1 r1
 rw [o1, n1] at e1
 simp only [List.drop_succ_cons, List.drop_zero, List.take_succ_cons, List.take_zero] at e1
 cases (show [c1] = [_] from e1)
 obtain ⟨x2, e2⟩ := hf 2 f2 h2 r2
 rw [o2, n2] at e2
 simp only [List.drop_succ_cons, List.drop_zero, List.take_succ_cons, List.take_zero] at e2
 cases (show [c2] = [_] from e2)
 exact ⟨⟨x0, x1, x2⟩, rfl⟩
theorem reads_Chapter {P : Program} {W : World} {t : TypeId} {fs : Array Field} (hu : P.underlying t = some (.struct fs)) (hc : P.cellsOf t = 2) {f0 : Field} (h0 : fs[0]? = some f0) (o0 : f0.offset = 0) (n0 : P.cellsOf f0.type = 1) (r0 : Reads P W f0.type LInt) {f1 : Field} (h1 : fs[1]? = some f1) (o1 : f1.offset = 1) (n1 : P.cellsOf f1.type = 1) (r1 : Reads P W f1.type (LSl (LSl LStr))) : Reads P W t LChapter := by
 intro H enc sp held fuel cs d ps h hw
 obtain ⟨hl, hf⟩ := reads_fields hu hc h hw
 match cs, hl with
 | [c0, c1], _ =>
 obtain ⟨x0, e0⟩ := hf 0 f0 h0 r0
 rw [o0, n0] at e0
 simp only [List.drop_succ_cons, List.drop_zero, List.take_succ_cons, List.take_zero] at e0
 cases (show [c0] = [_] from e0)
 obtain ⟨x1, e1⟩ := hf 1 f1 h1 r1
 rw [o1, n1] at e1
 simp only [List.drop_succ_cons, List.drop_zero, List.take_succ_cons, List.take_zero] at e1
 obtain ⟨v1, q1, g1⟩ := e1
 cases q1
 exact ⟨⟨x0, x1⟩, ⟨_, rfl, g1⟩⟩
theorem reads_Text {P : Program} {W : World} {t : TypeId} {fs : Array Field} (hu : P.underlying t = some (.struct fs)) (hc : P.cellsOf t = 1) {f0 : Field} (h0 : fs[0]? = some f0) (o0 : f0.offset = 0) (n0 : P.cellsOf f0.type = 1) (r0 : Reads P W f0.type (LSl LChapter)) : Reads P W t LText := by
 intro H enc sp held fuel cs d ps h hw
 obtain ⟨hl, hf⟩ := reads_fields hu hc h hw
 match cs, hl with
 | [c0], _ =>
 obtain ⟨x0, e0⟩ := hf 0 f0 h0 r0
 rw [o0, n0] at e0
 simp only [List.drop_succ_cons, List.drop_zero, List.take_succ_cons, List.take_zero] at e0
 obtain ⟨v0, q0, g0⟩ := e0
 cases q0
 exact ⟨⟨x0⟩, ⟨_, rfl, g0⟩⟩
theorem reads_Head {P : Program} {W : World} {t : TypeId} {fs : Array Field} (hu : P.underlying t = some (.struct fs)) (hc : P.cellsOf t = 2) {f0 : Field} (h0 : fs[0]? = some f0) (o0 : f0.offset = 0) (n0 : P.cellsOf f0.type = 1) (r0 : Reads P W f0.type LStr) {f1 : Field} (h1 : fs[1]? = some f1) (o1 : f1.offset = 1) (n1 : P.cellsOf f1.type = 1) (r1 : Reads P W f1.type LU8) : Reads P W t LHead := by
 intro H enc sp held fuel cs d ps h hw
 obtain ⟨hl, hf⟩ := reads_fields hu hc h hw
 match cs, hl with
 | [c0, c1], _ =>
 obtain ⟨x0, e0⟩ := hf 0 f0 h0 r0
 rw [o0, n0] at e0
 simp only [List.drop_succ_cons, List.drop_zero, List.take_succ_cons, List.take_zero] at e0
 obtain ⟨q0, g0⟩ := e0
 cases q0
 obtain ⟨x1, e1⟩ := hf 1 f1 h1 r1
 rw [o1, n1] at e1
 simp only [List.drop_succ_cons, List.drop_zero, List.take_succ_cons, List.take_zero] at e1
 obtain ⟨q1, g1⟩ := e1
 cases q1
 exact ⟨⟨x0, x1⟩, ⟨rfl, g0, g1⟩⟩
theorem reads_Rule {P : Program} {W : World} {t : TypeId} {fs : Array Field} (hu : P.underlying t = some (.struct fs)) (hc : P.cellsOf t = 3) {f0 : Field} (h0 : fs[0]? = some f0) (o0 : f0.offset = 0) (n0 : P.cellsOf f0.type = 1) (r0 : Reads P W f0.type LStr) {f1 : Field} (h1 : fs[1]? = some f1) (o1 : f1.offset = 1) (n1 : P.cellsOf f1.type = 1) (r1 : Reads P W f1.type LStr) {f2 : Field} (h2 : fs[2]? = some f2) (o2 : f2.offset = 2) (n2 : P.cellsOf f2.type = 1) (r2 : Reads P W f2.type LInt) : Reads P W t LRule := by
 intro H enc sp held fuel cs d ps h hw
 obtain ⟨hl, hf⟩ := reads_fields hu hc h hw
 match cs, hl with
 | [c0, c1, c2], _ =>
 obtain ⟨x0, e0⟩ := hf 0 f0 h0 r0
 rw [o0, n0] at e0
 simp only [List.drop_succ_cons, List.drop_zero, List.take_succ_cons, List.take_zero] at e0
 obtain ⟨q0, g0⟩ := e0
 cases q0
 obtain ⟨x1, e1⟩ := hf 1 f1 h1 r1
 rw [o1, n1] at e1
 simp only [List.drop_succ_cons, List.drop_zero, List.take_succ_cons, List.take_zero] at e1
 obtain ⟨q1, g1⟩ := e1
 cases q1
 obtain ⟨x2, e2⟩ := hf 2 f2 h2 r2
 rw [o2, n2] at e2
 simp only [List.drop_succ_cons, List.drop_zero, List.take_succ_cons, List.take_zero] at e2
 cases (show [c2] = [_] from e2)
 exact ⟨⟨x0, x1, x2⟩, ⟨rfl, g0, g1⟩⟩
theorem reads_Decision {P : Program} {W : World} {t : TypeId} {fs : Array Field} (hu : P.underlying t = some (.struct fs)) (hc : P.cellsOf t = 9) {f0 : Field} (h0 : fs[0]? = some f0) (o0 : f0.offset = 0) (n0 : P.cellsOf f0.type = 1) (r0 : Reads P W f0.type LInt) {f1 : Field} (h1 : fs[1]? = some f1) (o1 : f1.offset = 1) (n1 : P.cellsOf f1.type = 1) (r1 : Reads P W f1.type LU8) {f2 : Field} (h2 : fs[2]? = some f2) (o2 : f2.offset = 2) (n2 : P.cellsOf f2.type = 1) (r2 : Reads P W f2.type LStr) {f3 : Field} (h3 : fs[3]? = some f3) (o3 : f3.offset = 3) (n3 : P.cellsOf f3.type = 3) (r3 : Reads P W f3.type LPlace) {f4 : Field} (h4 : fs[4]? = some f4) (o4 : f4.offset = 6) (n4 : P.cellsOf f4.type = 2) (r4 : Reads P W f4.type LHead) {f5 : Field} (h5 : fs[5]? = some f5) (o5 : f5.offset = 8) (n5 : P.cellsOf f5.type = 1) (r5 : Reads P W f5.type LInt) : Reads P W t LDecision := by
 intro H enc sp held fuel cs d ps h hw
 obtain ⟨hl, hf⟩ := reads_fields hu hc h hw
 match cs, hl with
 | [c0, c1, c2, c3, c4, c5, c6, c7, c8], _ =>
 obtain ⟨x0, e0⟩ := hf 0 f0 h0 r0
 rw [o0, n0] at e0
 simp only [List.drop_succ_cons, List.drop_zero, List.take_succ_cons, List.take_zero] at e0
 cases (show [c0] = [_] from e0)
 obtain ⟨x1, e1⟩ := hf 1 f1 h1 r1
 rw [o1, n1] at e1
 simp only [List.drop_succ_cons, List.drop_zero, List.take_succ_cons, List.take_zero] at e1
 obtain ⟨q1, g1⟩ := e1
 cases q1
 obtain ⟨x2, e2⟩ := hf 2 f2 h2 r2
 rw [o2, n2] at e2
 simp only [List.drop_succ_cons, List.drop_zero, List.take_succ_cons, List.take_zero] at e2
 obtain ⟨q2, g2⟩ := e2
 cases q2
 obtain ⟨x3, e3⟩ := hf 3 f3 h3 r3
 rw [o3, n3] at e3
 simp only [List.drop_succ_cons, List.drop_zero, List.take_succ_cons, List.take_zero] at e3
 have q3 := e3
 cases (show [c3, c4, c5] = _ from q3)
 obtain ⟨x4, e4⟩ := hf 4 f4 h4 r4
 rw [o4, n4] at e4
 simp only [List.drop_succ_cons, List.drop_zero, List.take_succ_cons, List.take_zero] at e4
 obtain ⟨q4, g4_0, g4_1⟩ := e4
 cases (show [c6, c7] = _ from q4)
 obtain ⟨x5, e5⟩ := hf 5 f5 h5 r5
 rw [o5, n5] at e5
 simp only [List.drop_succ_cons, List.drop_zero, List.take_succ_cons, List.take_zero] at e5
 cases (show [c8] = [_] from e5)
 exact ⟨⟨x0, x1, x2, x3, x4, x5⟩, ⟨rfl, g1, g2, g4_0, g4_1⟩⟩
theorem reads_Lexicon {P : Program} {W : World} {t : TypeId} {fs : Array Field} (hu : P.underlying t = some (.struct fs)) (hc : P.cellsOf t = 2) {f0 : Field} (h0 : fs[0]? = some f0) (o0 : f0.offset = 0) (n0 : P.cellsOf f0.type = 1) (r0 : Reads P W f0.type (LSl LRule)) {f1 : Field} (h1 : fs[1]? = some f1) (o1 : f1.offset = 1) (n1 : P.cellsOf f1.type = 1) (r1 : Reads P W f1.type (LSl LDecision)) : Reads P W t LLexicon := by
 intro H enc sp held fuel cs d ps h hw
 obtain ⟨hl, hf⟩ := reads_fields hu hc h hw
 match cs, hl with
 | [c0, c1], _ =>
 obtain ⟨x0, e0⟩ := hf 0 f0 h0 r0
 rw [o0, n0] at e0
 simp only [List.drop_succ_cons, List.drop_zero, List.take_succ_cons, List.take_zero] at e0
 obtain ⟨v0, q0, g0⟩ := e0
 cases q0
 obtain ⟨x1, e1⟩ := hf 1 f1 h1 r1
 rw [o1, n1] at e1
 simp only [List.drop_succ_cons, List.drop_zero, List.take_succ_cons, List.take_zero] at e1
 obtain ⟨v1, q1, g1⟩ := e1
 cases q1
 exact ⟨⟨x0, x1⟩, ⟨_, _, rfl, g0, g1⟩⟩
theorem reads_Question {P : Program} {W : World} {t : TypeId} {fs : Array Field} (hu : P.underlying t = some (.struct fs)) (hc : P.cellsOf t = 4) {f0 : Field} (h0 : fs[0]? = some f0) (o0 : f0.offset = 0) (n0 : P.cellsOf f0.type = 3) (r0 : Reads P W f0.type LPlace) {f1 : Field} (h1 : fs[1]? = some f1) (o1 : f1.offset = 3) (n1 : P.cellsOf f1.type = 1) (r1 : Reads P W f1.type (LSl LHead)) : Reads P W t LQuestion := by
 intro H enc sp held fuel cs d ps h hw
 obtain ⟨hl, hf⟩ := reads_fields hu hc h hw
 match cs, hl with
 | [c0, c1, c2, c3], _ =>
 obtain ⟨x0, e0⟩ := hf 0 f0 h0 r0
 rw [o0, n0] at e0
 simp only [List.drop_succ_cons, List.drop_zero, List.take_succ_cons, List.take_zero] at e0
 have q0 := e0
 cases (show [c0, c1, c2] = _ from q0)
 obtain ⟨x1, e1⟩ := hf 1 f1 h1 r1
 rw [o1, n1] at e1
 simp only [List.drop_succ_cons, List.drop_zero, List.take_succ_cons, List.take_zero] at e1
 obtain ⟨v1, q1, g1⟩ := e1
 cases q1
 exact ⟨⟨x0, x1⟩, ⟨_, rfl, g1⟩⟩
theorem reads_Voter {P : Program} {W : World} {t : TypeId} {fs : Array Field} (hu : P.underlying t = some (.struct fs)) (hc : P.cellsOf t = 3) {f0 : Field} (h0 : fs[0]? = some f0) (o0 : f0.offset = 0) (n0 : P.cellsOf f0.type = 1) (r0 : Reads P W f0.type LInt) {f1 : Field} (h1 : fs[1]? = some f1) (o1 : f1.offset = 1) (n1 : P.cellsOf f1.type = 1) (r1 : Reads P W f1.type LInt) {f2 : Field} (h2 : fs[2]? = some f2) (o2 : f2.offset = 2) (n2 : P.cellsOf f2.type = 1) (r2 : Reads P W f2.type (LSl LInt)) : Reads P W t LVoter := by
 intro H enc sp held fuel cs d ps h hw
 obtain ⟨hl, hf⟩ := reads_fields hu hc h hw
 match cs, hl with
 | [c0, c1, c2], _ =>
 obtain ⟨x0, e0⟩ := hf 0 f0 h0 r0
 rw [o0, n0] at e0
 simp only [List.drop_succ_cons, List.drop_zero, List.take_succ_cons, List.take_zero] at e0
 cases (show [c0] = [_] from e0)
 obtain ⟨x1, e1⟩ := hf 1 f1 h1 r1
 rw [o1, n1] at e1
 simp only [List.drop_succ_cons, List.drop_zero, List.take_succ_cons, List.take_zero] at e1
 cases (show [c1] = [_] from e1)
 obtain ⟨x2, e2⟩ := hf 2 f2 h2 r2
 rw [o2, n2] at e2
 simp only [List.drop_succ_cons, List.drop_zero, List.take_succ_cons, List.take_zero] at e2
 obtain ⟨v2, q2, g2⟩ := e2
 cases q2
 exact ⟨⟨x0, x1, x2⟩, ⟨_, rfl, g2⟩⟩
theorem reads_Poll {P : Program} {W : World} {t : TypeId} {fs : Array Field} (hu : P.underlying t = some (.struct fs)) (hc : P.cellsOf t = 5) {f0 : Field} (h0 : fs[0]? = some f0) (o0 : f0.offset = 0) (n0 : P.cellsOf f0.type = 1) (r0 : Reads P W f0.type LText) {f1 : Field} (h1 : fs[1]? = some f1) (o1 : f1.offset = 1) (n1 : P.cellsOf f1.type = 2) (r1 : Reads P W f1.type LLexicon) {f2 : Field} (h2 : fs[2]? = some f2) (o2 : f2.offset = 3) (n2 : P.cellsOf f2.type = 1) (r2 : Reads P W f2.type (LSl LQuestion)) {f3 : Field} (h3 : fs[3]? = some f3) (o3 : f3.offset = 4) (n3 : P.cellsOf f3.type = 1) (r3 : Reads P W f3.type (LSl LVoter)) : Reads P W t LPoll := by
 intro H enc sp held fuel cs d ps h hw
 obtain ⟨hl, hf⟩ := reads_fields hu hc h hw
 match cs, hl with
 | [c0, c1, c2, c3, c4], _ =>
 obtain ⟨x0, e0⟩ := hf 0 f0 h0 r0
 rw [o0, n0] at e0
 simp only [List.drop_succ_cons, List.drop_zero, List.take_succ_cons, List.take_zero] at e0
 obtain ⟨w0_0, q0, g0_0⟩ := e0
 cases (show [c0] = _ from q0)
 obtain ⟨x1, e1⟩ := hf 1 f1 h1 r1
 rw [o1, n1] at e1
 simp only [List.drop_succ_cons, List.drop_zero, List.take_succ_cons, List.take_zero] at e1
 obtain ⟨w1_0, w1_1, q1, g1_0, g1_1⟩ := e1
 cases (show [c1, c2] = _ from q1)
 obtain ⟨x2, e2⟩ := hf 2 f2 h2 r2
 rw [o2, n2] at e2
 simp only [List.drop_succ_cons, List.drop_zero, List.take_succ_cons, List.take_zero] at e2
 obtain ⟨v2, q2, g2⟩ := e2
 cases q2
 obtain ⟨x3, e3⟩ := hf 3 f3 h3 r3
 rw [o3, n3] at e3
 simp only [List.drop_succ_cons, List.drop_zero, List.take_succ_cons, List.take_zero] at e3
 obtain ⟨v3, q3, g3⟩ := e3
 cases q3
 exact ⟨⟨x0, x1, x2, x3⟩, ⟨_, _, _, _, _, rfl, g0_0, g1_0, g1_1, g2, g3⟩⟩
end Go.Pk

namespace Go.Pk
open Go Go.RowKit Go.ChangeShapes Go.WideShapes Go.ChangeAt
def LU32 : Lay Int := { size := 1, R := fun _ vs x => vs = [.int .u32 x] ∧ 0 ≤ x ∧ x ≤ 4294967295, up := fun h _ => h, len := by rintro _ _ _ ⟨rfl, _⟩; rfl, one := by rintro _ _ _ ⟨rfl, _⟩ u hu; simp at hu; subst hu; rfl }
section
variable {P : Program} {W : World} {t : TypeId}
theorem reads_u32 (hu : P.underlying t = some (.int .u32)) : Reads P W t LU32 := by
 intro H enc sp held fuel cs d ps h _
 obtain ⟨n, rfl, _, hw⟩ := DataW.trod_int hu h
 simp [Lit.wf, IntKind.min, IntKind.max, IntKind.bits, IntKind.signed] at hw
 exact ⟨n, rfl, by omega⟩
end
end Go.Pk

namespace Go.Pk
open Go Go.RowKit Go.Proofs Go.Shelf Go.Lib Go.Sort
end Go.Pk

namespace Go.Pk
open Go Go.RowKit
def downD (x : Lexicon) : List Decision := x.decisions.mergeSort fun a b => decide (b.number ≤ a.number)
def pairD (d : Decision) : Int × Decision := (d.number, d)
def standM (x : Lexicon) : List (Int × Decision) := ((downD x).filter (standsB x)).map pairD
/-- what a valid lexicon's decisions are -/
def OkD (x : Lexicon) : Prop := (x.decisions.map (·.number)).Nodup ∧ ∀ v ∈ x.decisions, 1 ≤ v.number ∧ v.number ≤ 999 ∧ (v.kind = 4 → v.of_ < v.number)
/-- what the first k decisions, from the greatest number down, leave -/
def leftK (x : Lexicon) (k : Nat) (d : Decision) : Bool := ((downD x).take k).all fun v => !(decide (v.kind = 4) && decide (v.of_ = d.number) && standsB x v)
/-- one turn of a word: what it is then, whether it turned, and how many turns are left -/
def turnW (rs : List Rule) (left : Int) (w : Str) : Str := if left = 0 then w else (stepOf rs w).getD w
def turnB (rs : List Rule) (left : Int) (w : Str) : Bool := if left = 0 then false else (stepOf rs w).isSome
def turnL (left : Int) : Int := if left = 0 then 0 else left - 1
def hasSuf (s p : Str) : Bool := decide (p.length ≤ s.length) && decide (s.drop (s.length - p.length) = p)
/-- what is not great -/
def smallW (w : Str) : Bool := decide (w.length ≤ 40)
def smallL (l : List Str) : Bool := decide (l.length ≤ 15) && l.all smallW
def smallC (c : Chapter) : Bool := decide (c.lines.length ≤ 15) && c.lines.all smallL
def smallT (t : Text) : Bool := decide (t.chapters.length ≤ 10) && t.chapters.all smallC
def smallR (r : Rule) : Bool := decide (r.cut.length ≤ 100) && decide (r.put.length ≤ 100)
def smallD (d : Decision) : Bool := decide (d.form.length ≤ 100) && decide (d.to.stem.length ≤ 100)
def smallX (x : Lexicon) : Bool := decide (x.rules.length ≤ 20) && decide (x.decisions.length ≤ 25) && x.rules.all smallR && x.decisions.all smallD
theorem smallT_len {t : Text} (h : smallT t = true) : t.chapters.length ≤ 10 := by
 simp only [smallT, Bool.and_eq_true, decide_eq_true_eq] at h; exact h.1
theorem smallT_c {t : Text} (h : smallT t = true) {i : Nat} {c : Chapter} (hc : t.chapters[i]? = some c) : c.lines.length ≤ 15 := by
 simp only [smallT, Bool.and_eq_true, decide_eq_true_eq, List.all_eq_true] at h
 have := h.2 c (List.mem_of_getElem? hc)
 simp only [smallC, Bool.and_eq_true, decide_eq_true_eq] at this; exact this.1
theorem smallT_l {t : Text} (h : smallT t = true) {i k : Nat} {c : Chapter} {l : List Str} (hc : t.chapters[i]? = some c) (hl : c.lines[k]? = some l) : l.length ≤ 15 := by
 simp only [smallT, Bool.and_eq_true, decide_eq_true_eq, List.all_eq_true] at h
 have := h.2 c (List.mem_of_getElem? hc)
 simp only [smallC, Bool.and_eq_true, decide_eq_true_eq, List.all_eq_true] at this
 have := this.2 l (List.mem_of_getElem? hl)
 simp only [smallL, Bool.and_eq_true, decide_eq_true_eq] at this; exact this.1
theorem smallX_len {x : Lexicon} (h : smallX x = true) : x.rules.length ≤ 20 ∧ x.decisions.length ≤ 25 := by
 simp only [smallX, Bool.and_eq_true, decide_eq_true_eq] at h; exact h.1.1
end Go.Pk

namespace Go.Pk
open Go Go.RowKit
def cmpI (a b : Int) : Int := if a < b then -1 else if b < a then 1 else 0
def cmpL : List Int → List Int → Int
 | [], [] => 0
 | [], _ :: _ => -1
 | _ :: _, [] => 1
 | a :: az, b :: bs => if cmpI a b ≠ 0 then cmpI a b else cmpL az bs
def cmpS (a b : Str) : Int := Lib.compareBytes a b
def ordI (a b : Place) : Int := cmpL [a.chapter, a.line, a.word] [b.chapter, b.line, b.word]
def firstI (a b : Decision) : Int := if a.kind ≠ b.kind then a.kind - b.kind else if a.kind = 2 ∧ a.at_ ≠ b.at_ then ordI a.at_ b.at_ else a.number - b.number
def concB (d : Decision) (p : Place) (w : Str) : Bool :=
 if d.kind = 1 then decide (d.form = w) else if d.kind = 2 then decide (d.form = w) && !beforeB p d.at_ else if d.kind = 3 then decide (d.at_ = p) else false
def betterB (d e : Decision) : Bool := if d.kind ≠ e.kind then decide (d.kind > e.kind) else decide (d.kind ≠ 2) || !beforeB d.at_ e.at_
def cmpHead (a b : Head) : Int := if cmpS a.stem b.stem ≠ 0 then cmpS a.stem b.stem else a.mark - b.mark
def sLt (a b : Str) : Bool := Op.bytesLess a b
def headLt (a b : Head) : Bool := sLt a.stem b.stem || (decide (a.stem = b.stem) && decide (a.mark < b.mark))
theorem cmpL_step {a b : List Int} {k : Nat} {x y : Int} (ha : a[k]? = some x) (hb : b[k]? = some y) : cmpL (a.drop k) (b.drop k) = if cmpI x y ≠ 0 then cmpI x y else cmpL (a.drop (k + 1)) (b.drop (k + 1)) := by
 rw [drop_cons ha, drop_cons hb]; rfl
theorem cmpL_nil_cons {a b : List Int} (ha : a = []) (hb : b ≠ []) : cmpL a b = -1 := by
 subst ha; cases b with
 | nil => exact absurd rfl hb
 | cons => rfl
theorem cmpL_cons_nil {a b : List Int} (hb : b = []) (ha : a ≠ []) : cmpL a b = 1 := by
 subst hb; cases a with
 | nil => exact absurd rfl ha
 | cons => rfl
theorem snoc_ind {α : Type} {m : List α → Prop} (nil : m []) (snoc : ∀ l a, m l → m (l ++ [a])) (l : List α) : m l := by
 have h : ∀ r : List α, m r.reverse := by
  intro r
  induction r with
  | nil => exact nil
  | cons a r ih => rw [List.reverse_cons]; exact snoc _ _ ih
 have := h l.reverse
 rwa [List.reverse_reverse] at this
def bestStep (b d : Decision) : Decision := if b.number = 0 ∨ firstI d b > 0 then d else b
def bestOf (l : List Decision) : Decision := l.foldl bestStep zDecision
/-- the order of decisions, as a comparison of numbers -/
def lexD (a b : Decision) : Prop := a.kind < b.kind ∨ (a.kind = b.kind ∧ ((a.kind = 2 ∧ (a.at_.chapter < b.at_.chapter ∨ (a.at_.chapter = b.at_.chapter ∧ (a.at_.line < b.at_.line ∨ (a.at_.line = b.at_.line ∧ a.at_.word < b.at_.word))))) ∨ ((a.kind = 2 → a.at_ = b.at_) ∧ a.number < b.number)))
def wordD (t : Text) (p : Place) : Str := (wordAt t p).getD []
def conD (x : Lexicon) (p : Place) (wd : Str) : List Decision := ((standM x).map (·.2)).filter fun d => concB d p wd
def winD (x : Lexicon) (p : Place) (wd : Str) : Decision :=
 if (bestOf (conD x p wd)).number = 0 then { zDecision with to := ⟨((stepsN x.rules 4 wd).getLast?).getD [], 0⟩ } else bestOf (conD x p wd)
def OkO (o : Office) : Prop := checkN o.text o.lex = 0 ∧ o.stands = standM o.lex
theorem check_text {t : Text} {x : Lexicon} (h : checkN t x = 0) : textB t = true := by
 unfold checkN at h
 split at h
 ·cases h
 ·rename_i h1; simpa using h1
end Go.Pk

namespace Go.Pk
open Go Go.RowKit
def linesAt (t : Text) (k : Nat) : List (List Str) := ((t.chapters[k]?).map (·.lines)).getD []
def wordsAt (t : Text) (k n : Nat) : List Str := ((linesAt t k)[n]?).getD []
def mkP (k n w : Nat) : Place := ⟨k, n, w⟩
def lineP (t : Text) (k n : Nat) : List Place := (List.range (wordsAt t k n).length).map (mkP k n)
def chapP (t : Text) (k : Nat) : List Place := (List.range (linesAt t k).length).flatMap (lineP t k)
/-- all places, in order -/
def placesT (t : Text) : List Place := (List.range t.chapters.length).flatMap (chapP t)
theorem range_flat_succ {α : Type} (f : Nat → List α) (n : Nat) : (List.range (n + 1)).flatMap f = (List.range n).flatMap f ++ f n := by
 rw [List.range_succ, List.flatMap_append]; simp
/-- the head of a place, and all entries -/
def headAt (t : Text) (x : Lexicon) (p : Place) : Head := (winD x p (wordD t p)).to
def entryAt (t : Text) (x : Lexicon) (p : Place) : Entry := ⟨p, wordD t p, headAt t x p⟩
def entriesL (t : Text) (x : Lexicon) : List Entry := (placesT t).map (entryAt t x)
def headsL (t : Text) (x : Lexicon) : List Head := (placesT t).map (headAt t x)
/-- the document's way to a place's decision -/
def headR0 (x : Lexicon) (wd : Str) : Decision := { zDecision with to := ⟨((stepsN x.rules 4 wd).getLast?).getD [], 0⟩ }
def stepR (p : Place) (wd : Str) (b d : Decision) : Decision := if concB d p wd = true ∧ (b.number = 0 ∨ betterB d b = true) then d else b
def headR (x : Lexicon) (l : List Decision) (p : Place) (wd : Str) : Decision := l.foldl (stepR p wd) (headR0 x wd)
def askR (t : Text) (x : Lexicon) (p : Place) : Decision := if checkN t x = 0 ∧ placeB t p = true then winD x p (wordD t p) else zDecision
def askE (t : Text) (x : Lexicon) (p : Place) : Int := if checkN t x = 0 then (if placeB t p = true then 0 else 12) else checkN t x
end Go.Pk

namespace Go.Pk
open Go Go.RowKit
section
variable {α : Type}
/-- slices.DeleteFunc, part way -/
structure DelF (q : α → Bool) (s ys : List α) (i j : Nat) : Prop where
 len : ys.length = s.length
 le : i ≤ j
 le2 : j ≤ s.length
 head : ys.take i = (s.take j).filter fun x => !q x
 tail : ys.drop j = s.drop j
theorem DelF.get {q : α → Bool} {s ys : List α} {i j : Nat} (d : DelF q s ys i j) {y : α} (h : ys[j]? = some y) : s[j]? = some y := by
 have h1 := congrArg (fun l : List α => l[0]?) d.tail
 simp only [List.getElem?_drop, Nat.add_zero] at h1
 rw [← h1]; exact h
theorem DelF.start {q : α → Bool} {s : List α} {k : Nat} (h1 : ∀ j x, j < k → s[j]? = some x → q x = false) (h2 : ∀ x, s[k]? = some x → q x = true) (hk : k < s.length) : DelF q s s k (k + 1) := by
 refine ⟨rfl, by omega, by omega, ?_, rfl⟩
 have hx : s[k]? = some s[k] := List.getElem?_eq_getElem hk
 rw [take_snoc hx, List.filter_append]
 have e1 : (s.take k).filter (fun x => !q x) = s.take k := by
  rw [List.filter_eq_self]
  intro x hx
  obtain ⟨j, hj⟩ := List.mem_iff_getElem?.1 hx
  rw [List.getElem?_take] at hj
  split at hj
  ·rename_i hjk; simp [h1 j x hjk hj]
  ·cases hj
 simp [e1, h2 _ hx]
theorem DelF.keep {q : α → Bool} {s ys : List α} {i j : Nat} (d : DelF q s ys i j) {y : α} (h : ys[j]? = some y) (hq : q y = false) : DelF q s (ys.set i y) (i + 1) (j + 1) := by
 obtain ⟨h1, _⟩ := List.getElem?_eq_some_iff.1 h
 have hl := d.len; have hle := d.le
 refine ⟨by rw [List.length_set]; exact d.len, by omega, by omega, ?_, ?_⟩
 ·rw [take_snoc (d.get h), List.filter_append, ← d.head]
  have e : (ys.set i y)[i]? = some y := by rw [List.getElem?_set]; simp; omega
  rw [take_snoc e, List.take_set_of_le (Nat.le_refl i)]
  simp [hq]
 ·rw [List.drop_set_of_lt (by omega)]
  have := congrArg (List.drop 1) d.tail
  simpa [List.drop_drop] using this
theorem DelF.skip {q : α → Bool} {s ys : List α} {i j : Nat} (d : DelF q s ys i j) {y : α} (h : ys[j]? = some y) (hq : q y = true) : DelF q s ys i (j + 1) := by
 obtain ⟨h1, _⟩ := List.getElem?_eq_some_iff.1 h
 have hl := d.len; have hle := d.le
 refine ⟨d.len, by omega, by omega, ?_, ?_⟩
 ·rw [take_snoc (d.get h), List.filter_append, ← d.head]
  simp [hq]
 ·have := congrArg (List.drop 1) d.tail
  simpa [List.drop_drop] using this
theorem DelF.fin {q : α → Bool} {s ys : List α} {i j : Nat} (d : DelF q s ys i j) (h : s.length ≤ j) : ys.take i = s.filter fun x => !q x := by
 rw [d.head, List.take_of_length_le h]
variable [DecidableEq α]
/-- slices.Compact -/
def compStep (acc : List α) (x : α) : List α := if acc.getLast? = some x then acc else acc ++ [x]
def compactL (l : List α) : List α := l.foldl compStep []
theorem compactL_snoc (l : List α) (x : α) : compactL (l ++ [x]) = compStep (compactL l) x := by simp [compactL]
theorem compactL_last (l : List α) : (compactL l).getLast? = l.getLast? := by
 induction l using snoc_ind with
 | nil => rfl
 | snoc l d ih =>
  rw [compactL_snoc, compStep]
  split
  ·rename_i h; rw [h]; simp
  ·simp
theorem compactL_succ {s : List α} {k : Nat} {y z : α} (hz : s[k]? = some z) (hy : s[k + 1]? = some y) : compactL (s.take (k + 2)) = if z = y then compactL (s.take (k + 1)) else compactL (s.take (k + 1)) ++ [y] := by
 have e : (s.take (k + 1)).getLast? = some z := by rw [take_snoc hz]; simp
 rw [take_snoc hy, compactL_snoc, compStep, compactL_last, e]
 simp only [Option.some.injEq]
structure Comp (s ys : List α) (i j : Nat) : Prop where
 len : ys.length = s.length
 le : i + 1 ≤ j
 le2 : j ≤ s.length
 head : ys.take i = compactL (s.take j)
 tail : ys.drop (j - 1) = s.drop (j - 1)
theorem Comp.start {s : List α} {k : Nat} {y z : α} (hz : s[k - 1]? = some z) (hy : s[k]? = some y) (hk : 1 ≤ k) (h : compactL (s.take k) = s.take k) (he : y = z) : Comp s s k (k + 1) := by
 obtain ⟨h1, _⟩ := List.getElem?_eq_some_iff.1 hy
 refine ⟨rfl, Nat.le_refl _, by omega, ?_, rfl⟩
 obtain ⟨m, rfl⟩ : ∃ m, k = m + 1 := ⟨k - 1, by omega⟩
 rw [Nat.add_sub_cancel] at hz
 rw [show m + 1 + 1 = m + 2 from rfl, compactL_succ hz hy, if_pos he.symm, h]
theorem Comp.get {s ys : List α} {i j : Nat} (d : Comp s ys i j) {y : α} {n : Nat} (hn : j - 1 ≤ n) (h : ys[n]? = some y) : s[n]? = some y := by
 have h1 := congrArg (fun l : List α => l[n - (j - 1)]?) d.tail
 simp only [List.getElem?_drop] at h1
 rw [show j - 1 + (n - (j - 1)) = n by omega] at h1
 rw [← h1]; exact h
theorem Comp.keep {s ys : List α} {i j : Nat} (d : Comp s ys i j) {y z : α} (h : ys[j]? = some y) (hz : ys[j - 1]? = some z) (hne : ¬ y = z) : Comp s (ys.set i y) (i + 1) (j + 1) := by
 obtain ⟨h1, _⟩ := List.getElem?_eq_some_iff.1 h
 have hl := d.len; have hle := d.le; have hle2 := d.le2
 have g1 := d.get (by omega) h
 have g2 := d.get (Nat.le_refl _) hz
 refine ⟨by rw [List.length_set]; exact d.len, by omega, by omega, ?_, ?_⟩
 ·obtain ⟨m, rfl⟩ : ∃ m, j = m + 1 := ⟨j - 1, by omega⟩
  rw [Nat.add_sub_cancel] at g2
  rw [show m + 1 + 1 = m + 2 from rfl, compactL_succ g2 g1, if_neg (fun e => hne e.symm), ← d.head]
  have e : (ys.set i y)[i]? = some y := by rw [List.getElem?_set]; simp; omega
  rw [take_snoc e, List.take_set_of_le (Nat.le_refl i)]
 ·rw [Nat.add_sub_cancel, List.drop_set_of_lt (by omega)]
  have := congrArg (List.drop 1) d.tail
  rw [List.drop_drop, List.drop_drop, show j - 1 + 1 = j by omega] at this
  exact this
theorem Comp.skip {s ys : List α} {i j : Nat} (d : Comp s ys i j) {y z : α} (h : ys[j]? = some y) (hz : ys[j - 1]? = some z) (he : y = z) : Comp s ys i (j + 1) := by
 obtain ⟨h1, _⟩ := List.getElem?_eq_some_iff.1 h
 have hl := d.len; have hle := d.le; have hle2 := d.le2
 have g1 := d.get (by omega) h
 have g2 := d.get (Nat.le_refl _) hz
 refine ⟨d.len, by omega, by omega, ?_, ?_⟩
 ·obtain ⟨m, rfl⟩ : ∃ m, j = m + 1 := ⟨j - 1, by omega⟩
  rw [Nat.add_sub_cancel] at g2
  rw [show m + 1 + 1 = m + 2 from rfl, compactL_succ g2 g1, if_pos he.symm, ← d.head]
 ·have := congrArg (List.drop 1) d.tail
  rw [List.drop_drop, List.drop_drop, show j - 1 + 1 = j by omega] at this
  rw [Nat.add_sub_cancel]; exact this
theorem Comp.fin {s ys : List α} {i j : Nat} (d : Comp s ys i j) (h : s.length ≤ j) : ys.take i = compactL s := by
 rw [d.head, List.take_of_length_le h]
end
end Go.Pk

namespace Go.Pk
open Go Go.RowKit
section
variable {α : Type} [DecidableEq α]
structure TLt (lt : α → α → Bool) : Prop where
 irrefl : ∀ a, lt a a = false
 trans : ∀ a b c, lt a b = true → lt b c = true → lt a c = true
 total : ∀ a b, a ≠ b → lt a b = true ∨ lt b a = true
def insBy (lt : α → α → Bool) (l : List α) (x : α) : List α := if (l.dropWhile fun a => lt a x).head? = some x then l else (l.takeWhile fun a => lt a x) ++ [x] ++ (l.dropWhile fun a => lt a x)
/-- in order, each once -/
def setL (lt : α → α → Bool) (l : List α) : List α := l.foldl (insBy lt) []
variable {lt : α → α → Bool}
end
/-- the lists of the document -/
def headsN (t : Text) (x : Lexicon) : List Head := if checkN t x = 0 then setL headLt (headsL t x) else []
def underP (t : Text) (x : Lexicon) (hd : Head) : List Place := (placesT t).filter fun p => decide (headAt t x p = hd)
def underE (t : Text) (x : Lexicon) (hd : Head) : Int := if checkN t x = 0 then (if headB hd = true then (if underP t x hd = [] then 6 else 0) else 2) else checkN t x
def underR (t : Text) (x : Lexicon) (hd : Head) : List Place := if underE t x hd = 0 then underP t x hd else []
def underN (t : Text) (x : Lexicon) (hd : Head) : List Entry := if underE t x hd = 0 then (entriesL t x).filter fun y => !decide (y.head ≠ hd) else []
def formsR (t : Text) (x : Lexicon) (hd : Head) : List Str := if underE t x hd = 0 then setL sLt ((underP t x hd).map (wordD t)) else []
end Go.Pk

namespace Go.Pk
open Go Go.RowKit
/-- the head that a word had first -/
def hdFirst (es : List Entry) (w : Str) : Option Head := (es.find? fun y => decide (y.word = w)).map (·.head)
def homAt (es : List Entry) (y : Entry) : List Str := match hdFirst es y.word with
 | some h => if h ≠ y.head then [y.word] else []
 | none => []
def homsN (es : List Entry) : Nat → List Str
 | 0 => []
 | n + 1 => homsN es n ++ (match es[n]? with
  | some y => homAt (es.take n) y
  | none => [])
/-- two places of a word whose heads differ -/
def pairAt (es : List Entry) (i j : Nat) : List Str := match es[i]?, es[j]? with
 | some a, some b => if a.word = b.word ∧ a.head ≠ b.head then [a.word] else []
 | _, _ => []
def pairRow (es : List Entry) (i : Nat) : List Str := (List.range i).flatMap (pairAt es i)
def pairsN (es : List Entry) (n : Nat) : List Str := (List.range n).flatMap (pairRow es)
def homR (t : Text) (x : Lexicon) : List Str := if checkN t x = 0 then setL sLt (homsN (entriesL t x) (entriesL t x).length) else []
/-- a lexicon without the decision with a Number -/
def lessX (x : Lexicon) (n : Int) : Lexicon := { x with decisions := x.decisions.filter fun d => decide (d.number ≠ n) }
def idleB (t : Text) (x : Lexicon) (n : Int) : Bool := decide ((lessX x n).decisions.length < x.decisions.length) && decide (headsL t (lessX x n) = headsL t x)
def natI (k : Nat) : Int := (k : Int) + 1
def idleK (t : Text) (x : Lexicon) (k : Nat) : List Int := ((List.range k).map natI).filter (idleB t x)
def idleR (t : Text) (x : Lexicon) : List Int := idleK t x 999
def idleN (t : Text) (x : Lexicon) : List Int := if checkN t x = 0 then idleR t x else []
/-- the decisions, from the first on, without which all heads are the same -/
def idleP (t : Text) (x : Lexicon) (d : Decision) : Bool := decide (entriesL t (lessX x d.number) = entriesL t x)
/-- a decision more -/
def moreX (x : Lexicon) (d : Decision) : Lexicon := { x with decisions := x.decisions ++ [d] }
def ascD (l : List Decision) : List Decision := l.mergeSort fun a b => decide (a.number ≤ b.number)
def addX (x : Lexicon) (d : Decision) : Lexicon := { x with decisions := ascD (x.decisions ++ [d]) }
def addE (t : Text) (x : Lexicon) (d : Decision) : Int := if checkN t x ≠ 0 then checkN t x else if x.decisions.length = 20 then 9 else if checkN t (moreX x d) ≠ 0 then 41 else 0
def zLexicon : Lexicon := ⟨[], []⟩
def addN (t : Text) (x : Lexicon) (d : Decision) : Lexicon := if addE t x d = 0 then addX x d else zLexicon
def changesP (t : Text) (x : Lexicon) (d : Decision) : List Place := (placesT t).filter fun p => decide (headAt t (addX x d) p ≠ headAt t x p)
def changesR (t : Text) (x : Lexicon) (d : Decision) : List Place := if addE t x d = 0 then changesP t x d else []
end Go.Pk

namespace Go.Pk
open Go Go.RowKit
/-- the i-th decision on its way to the left, now at k -/
def insK (ds : List Decision) (i k : Nat) (y : Decision) : List Decision := ds.take k ++ y :: ((ds.take i).drop k ++ ds.drop (i + 1))
/-- part way: the first i in order -/
def sortedTo (ds : List Decision) (i : Nat) : Prop := (ds.take i).Pairwise fun a b => a.number ≤ b.number
end Go.Pk

namespace Go.Pk
open Go Go.RowKit
/-- a place's decision, without a sort -/
def winV (x : Lexicon) (p : Place) (wd : Str) : Decision :=
 if (bestOf ((x.decisions.filter (standsB x)).filter fun d => concB d p wd)).number = 0 then { zDecision with to := ⟨((stepsN x.rules 4 wd).getLast?).getD [], 0⟩ } else bestOf ((x.decisions.filter (standsB x)).filter fun d => concB d p wd)
def headV (t : Text) (x : Lexicon) (p : Place) : Head := (winV x p (wordD t p)).to
def entryV (t : Text) (x : Lexicon) (p : Place) : Entry := ⟨p, wordD t p, headV t x p⟩
def headsV (t : Text) (x : Lexicon) : List Head := (placesT t).map (headV t x)
def entriesV (t : Text) (x : Lexicon) : List Entry := (placesT t).map (entryV t x)
def underV (t : Text) (x : Lexicon) (hd : Head) : List Place := (placesT t).filter fun p => decide (headV t x p = hd)
def homV (t : Text) (x : Lexicon) : List Str := setL sLt (homsN (entriesV t x) (placesT t).length)
def idleV (t : Text) (x : Lexicon) (n : Int) : Bool := decide ((lessX x n).decisions.length < x.decisions.length) && decide (headsV t (lessX x n) = headsV t x)
def changesV (t : Text) (x y : Lexicon) : List Place := (placesT t).filter fun p => decide (headV t y p ≠ headV t x p)
/-- the chapter's text and lexicon -/
def wThe : Str := [116, 104, 101]
def wSea : Str := [115, 101, 97]
def wSee : Str := [115, 101, 101]
def wIs : Str := [105, 115]
def wOld : Str := [111, 108, 100]
def wOlde : Str := [111, 108, 100, 101]
def wAnd : Str := [97, 110, 100]
def wAge : Str := [97, 103, 101]
def textE : Text := ⟨[⟨7, [[wThe, wSea, wIs, wOld], [wOld, wThe, wSea]]⟩, ⟨3, [[wSea, wAnd, wSea]]⟩]⟩
def rulesE : List Rule := [⟨[115], [], 2⟩, ⟨[108, 100], [108, 100, 101], 1⟩]
def d1E : Decision := ⟨1, 1, wSea, zPlace, ⟨wSea, 1⟩, 0⟩
def d2E : Decision := ⟨2, 2, wOld, ⟨0, 1, 0⟩, ⟨wAge, 3⟩, 0⟩
def d3E : Decision := ⟨3, 3, [], ⟨1, 0, 2⟩, ⟨wSee, 2⟩, 0⟩
def d4E : Decision := ⟨4, 1, wSea, zPlace, ⟨wSee, 2⟩, 0⟩
def d5E : Decision := ⟨5, 4, [], zPlace, zHead, 3⟩
def lexE (more : List Decision) : Lexicon := ⟨rulesE, [d1E, d2E, d3E] ++ more⟩
end Go.Pk

namespace Go.Pk
open Go Go.RowKit
/-- which decisions count at a place -/
def countV (x : Lexicon) (p : Place) (wd : Str) : List Decision := (x.decisions.filter (standsB x)).filter fun d => concB d p wd
end Go.Pk

namespace Go.Pk
open Go Go.RowKit
/-- the numbers of the decisions that stand -/
def standS (x : Lexicon) : List Int := (standingR x).map (·.number)
/-- what is taken out of a list, in step with it -/
def cntQ {α : Type} (q : α → Bool) (l : List α) (i : Nat) : Nat := ((l.take i).filter q).length
end Go.Pk

namespace Go.Pk
open Go Go.RowKit
def voidD (n o : Int) : Decision := ⟨n, 4, [], zPlace, zHead, o⟩
section
variable {t : Text} {x : Lexicon} {d : Decision} {most : Int}
end
end Go.Pk

namespace Go.Pk
open Go Go.RowKit
def zRule : Rule := ⟨[], [], 0⟩
/-- the i-th of a list that goes round -/
def chooseN (l : List Int) (i : Nat) : Int := (l[i % l.length]?).getD 0
end Go.Pk

namespace Go.Pk
open Go Go.RowKit
/-- a map that says true of each number of a list -/
def trM (l : List Int) : List (Int × Bool) := l.map fun n => (n, true)
/-- the last one with a number -/
def wonF (l : List Decision) (n : Int) : Decision := l.foldl (fun a d => if d.number = n then d else a) zDecision
theorem any_snoc {α : Type} {q : α → Bool} {l : List α} {k : Nat} {a : α} (h : l[k]? = some a) : (l.take (k + 1)).any q = ((l.take k).any q || q a) := by rw [take_snoc h, List.any_append]; simp
/-- some decision that stands concerns a place -/
def someS (x : Lexicon) (p : Place) (wd : Str) (d : Decision) : Bool := decide (d.number ∈ standS x) && concB d p wd
/-- the greatest number -/
def mostN (l : List Decision) : Int := l.foldl (fun a d => max a d.number) 0
theorem all_snoc {α : Type} {P : α → Prop} {l : List α} {k : Nat} {a : α} (h : ∀ o ∈ l.take k, P o) (ha : l[k]? = some a) (hp : P a) : ∀ o ∈ l.take (k + 1), P o := by
 intro o ho
 rw [take_snoc ha, List.mem_append] at ho
 rcases ho with ho | ho
 ·exact h o ho
 ·simp at ho; rw [ho]; exact hp
/-- what a decision changes, place by place -/
def chQ (t : Text) (x : Lexicon) (d : Decision) (p : Place) : Bool := decide (headAt t (addX x d) p ≠ headAt t x p)
section
variable {t : Text} {x : Lexicon} {d : Decision}
def cdQ (x y : Lexicon) (p : Place) (wd : Str) (o : Decision) : Bool := (decide (o.number ∈ standS x) != decide (o.number ∈ standS y)) && concB o p wd
end
end Go.Pk

namespace Go.Pk
open Go Go.RowKit
theorem St.setAt {h0 h : Heap} {w0 w : World} {A C : Own} {b : Nat} {o : Obj} (st : St h0 w0 h w (A ++ [(b, o)] :: C)) (o' : Obj) : St h0 w0 h (w.putObj b o') (A ++ [(b, o')] :: C) := by
 have := st.set (k := A.length) (b := b) (o := o) o' (by simp)
 have e : (A ++ [(b, o)] :: C).set A.length [(b, o')] = A ++ [(b, o')] :: C := by
  rw [List.set_append_right _ _ (Nat.le_refl _), Nat.sub_self, List.set_cons_zero]
 rw [e] at this; exact this
theorem St.at {h0 h : Heap} {w0 w : World} {A C : Own} {b : Nat} {o : Obj} (st : St h0 w0 h w (A ++ [(b, o)] :: C)) : w.heap[b]? = some o := st.get (k := A.length) (by simp)
/-- a round that is asked for: what yield comes to -/
def Yields (P : Program) (l : Nat) (args : Array Value) (w : World) (R : Value → World → Prop) : Prop :=
 ∃ fn tmps assign body, (Instr.yield l args).run P w = .ok (.round l fn tmps assign body) w ∧ RoundIn Fence.wide 0 P l fn tmps assign body w fun e w' => ∃ v, e = .returned v ∧ R v w'
theorem OpsL.yields {P : Program} {n : Nat} {ops : Array Oper} {rest : List Oper} {K : Env → World → Prop} {σ : Env} {w : World} {o : Oper} {x : Operand} {args : Array Operand} {ats : Array TypeId} {l : Nat} {vs : List Value}
  (ho : o.op = .call ⟨.value x, args, ats⟩) (hg : o.guard = none) (hd : dstOk n o.dst = true) (hx : ev σ x = .func (.yield l) #[] #[]) (hv : args.toList.map (ev σ) = vs)
  (h : Yields P l vs.toArray w fun v w' => OpsL P n ops rest K (updO σ o.dst v) w') : OpsL P n ops (o :: rest) K σ w := by
 obtain ⟨fn, tmps, assign, body, hr, hR⟩ := h
 refine OpsL.round (l := l) (f := fn) (tmps := tmps) (assign := assign) (body := body) (w' := w) hg hd ?_ hR
 subst hv
 have e : args.map (ev σ) = (args.toList.map (ev σ)).toArray := amap (ev σ) args
 rw [← e] at hr
 unfold execOp
 simp [ho, resolve, hx, invoke, callFunc, hr, go_sem]
theorem St.tl {h0 h : Heap} {w0 w : World} {o : List (Nat × Obj)} {own : Own} (st : St h0 w0 h w (o :: own)) : St h0 w0 h w own := by
 have s := st.drop 0
 rw [List.set_cons_zero] at s
 exact ⟨s.le, s.new, s.sub, s.below, fun p hp => s.mine p (by simpa using hp), by simpa using s.nodup⟩
theorem Yields.mono {P : Program} {l : Nat} {args : Array Value} {w : World} {R R' : Value → World → Prop} (h : Yields P l args w R) (hr : ∀ v w', R v w' → R' v w') : Yields P l args w R' := by
 obtain ⟨fn, tmps, assign, body, hrun, hR⟩ := h
 exact ⟨fn, tmps, assign, body, hrun, RoundIn.mono hR fun e w' ⟨v, he, h⟩ => ⟨v, he, hr v w' h⟩⟩
theorem OpsL.yieldsJ {P : Program} {n : Nat} {ops : Array Oper} {rest : List Oper} {K : Env → World → Prop} {σ : Env} {w : World} {o : Oper} {x : Operand} {args : Array Operand} {ats : Array TypeId} {l : Nat} {vs : List Value} {h0 h1 : Heap} {w0 : World} {B : Own} {J1 J2 : Heap → Own → Prop}
  (ho : o.op = .call ⟨.value x, args, ats⟩) (hg : o.guard = none) (hd : dstOk n o.dst = true) (hx : ev σ x = .func (.yield l) #[] #[]) (hv : args.toList.map (ev σ) = vs)
  (h : Yields P l vs.toArray w fun v w2 => ∃ h2 rest2, Le h1 h2 ∧ St h0 w0 h2 w2 (B ++ rest2) ∧ ((v = .bool true ∧ J1 h2 rest2) ∨ (v = .bool false ∧ J2 h2 rest2)))
  (hk : ∀ b w2 h2 rest2, Le h1 h2 → St h0 w0 h2 w2 (B ++ rest2) → (b = true → J1 h2 rest2) → (b = false → J2 h2 rest2) → OpsL P n ops rest K (updO σ o.dst (.bool b)) w2) : OpsL P n ops (o :: rest) K σ w := by
 refine OpsL.yields ho hg hd hx hv (h.mono ?_)
 rintro v w2 ⟨h2, rest2, le, st, ⟨rfl, hj⟩ | ⟨rfl, hj⟩⟩
 ·exact hk true w2 h2 rest2 le st (fun _ => hj) (fun e => by cases e)
 ·exact hk false w2 h2 rest2 le st (fun e => by cases e) (fun _ => hj)
theorem OpsL.callFV {P : Program} {n : Nat} {ops : Array Oper} {rest : List Oper} {K : Env → World → Prop} {σ : Env} {w w0 : World} {h0 h : Heap} {own : Own} {o : Oper} {f : FuncId} {x : Operand} {fs cs : List Value} {args : Array Operand} {ats : Array TypeId} {vs : List Value} {Φ : Heap → World → Value → Prop} (st : St h0 w0 h w own) (ho : o.op = .call ⟨.value x, args, ats⟩) (hx : ev σ x = .func (.func f) fs.toArray cs.toArray) (hg : o.guard = none) (hd : dstOk n o.dst = true) (hf : ∀ a w, (callFunc f a).run P w = .ok (.enter f a) w)
  (hv : fs ++ args.toList.map (ev σ) ++ cs = vs) (hc : Calls P f vs.toArray w (Rets h w Φ))
  (hk : ∀ v w' h', Le h h' → St h0 w0 h' w' own → Φ h' w' v → OpsL P n ops rest K (updO σ o.dst v) w') : OpsL P n ops (o :: rest) K σ w := by
 refine zX hg hd (zac ho hx hf hv) (hc.mono ?_)
 rintro e w' ⟨h', v, rfl, s, hΦ⟩
 exact ⟨v, rfl, hk v w' h' s.le (st.call0 s) hΦ⟩
/-- an iterator's contract: S says what all that comes can be -/
def Gives {α : Type} (P : Program) (gf : FuncId) (caps : List Value) (A : Heap → Value → α → Prop) (S : List α → Prop) (h0 : Heap) (w0 : World) (h : Heap) : Prop :=
 ∀ (l : Nat) (J Jx : List α → Heap → Own → Prop),
  (∀ xs h1 h2 o, J xs h1 o → Le h1 h2 → J xs h2 o) → (∀ xs h1 h2 o, Jx xs h1 o → Le h1 h2 → Jx xs h2 o) →
  (∀ pre x h1 w1 B rest u, Le h h1 → J pre h1 rest → St h0 w0 h1 w1 (B ++ rest) → A h1 u x → Yields P l #[u] w1 fun v w2 => ∃ h2 rest2, Le h1 h2 ∧ St h0 w0 h2 w2 (B ++ rest2) ∧ ((v = .bool true ∧ J (pre ++ [x]) h2 rest2) ∨ (v = .bool false ∧ Jx (pre ++ [x]) h2 rest2))) →
  ∀ h1 w rest, Le h h1 → J [] h1 rest → St h0 w0 h1 w rest →
   Calls P gf (.func (.yield l) #[] #[] :: caps).toArray w fun e w' => ∃ h' rest' v, e = .returned v ∧ Le h1 h' ∧ St h0 w0 h' w' rest' ∧ ((∃ xs, S xs ∧ J xs h' rest') ∨ (∃ pre, Jx pre h' rest'))

structure FitsD (ds : List Deferred) (n : Nat) (a : Act) (σ : Env) : Prop where
 size : a.tmps.size = n
 defers : a.defers = ds
 at_ : ∀ i, a.tmps.getD i undef = σ i
abbrev VS := List Deferred × Env
theorem FitsD.bare {ds : List Deferred} {n : Nat} {a : Act} {σ : Env} (h : FitsD ds n a σ) : Fits n { a with defers := [] } σ := ⟨h.size, rfl, h.at_⟩
theorem FitsD.eval {ds : List Deferred} {n : Nat} {a : Act} {σ : Env} (h : FitsD ds n a σ) : a.eval = ev σ := by
 funext x; cases x <;> simp only [Act.eval, ev]; exact h.at_ _
/-- what a piece of code does, where the frame may be a round's, or bear marks -/
def V (F : Fence) (P : Program) (n : Nat) (c : Code) (Q : Exit → VS → World → Prop) (s : VS) (w : World) : Prop :=
 ∀ k a, FitsD s.1 n a s.2 → c.wpIn F k P (fun e a' w' => ∃ s' : VS, FitsD s'.1 n a' s'.2 ∧ Q e s' w') a w
def ThenV (K : VS → World → Prop) (Q : Exit → VS → World → Prop) : Exit → VS → World → Prop
 | .normal, σ, w => K σ w
 | e, σ, w => Q e σ w
def BlkV (id : Nat) (Q : Exit → VS → World → Prop) : Exit → VS → World → Prop
 | .exit id', σ, w => if id' = id then Q .normal σ w else Q (.exit id') σ w
 | e, σ, w => Q e σ w
theorem zY {K : VS → World → Prop} {Q : Exit → VS → World → Prop} {s : VS} {w : World} (h : K s w) : ThenV K Q .normal s w := h
theorem ThenV.exit {K : VS → World → Prop} {Q : Exit → VS → World → Prop} {s : VS} {w : World} {id : Nat} (h : Q (.exit id) s w) : ThenV K Q (.exit id) s w := h
theorem ThenV.ret {K : VS → World → Prop} {Q : Exit → VS → World → Prop} {s : VS} {w : World} (h : Q .ret s w) : ThenV K Q .ret s w := h
theorem BlkV.norm {id : Nat} {Q : Exit → VS → World → Prop} {s : VS} {w : World} (h : Q .normal s w) : BlkV id Q .normal s w := h
theorem BlkV.ret {id : Nat} {Q : Exit → VS → World → Prop} {s : VS} {w : World} (h : Q .ret s w) : BlkV id Q .ret s w := h
section
variable {F : Fence} {P : Program} {n : Nat} {Q : Exit → VS → World → Prop} {s : VS} {w : World}
theorem V.skip (h : Q .normal s w) : V F P n .skip Q s w := fun _ _ ha => wpIn_skip ⟨s, ha, h⟩
theorem V.label {l : Nat} (h : Q .normal s w) : V F P n (.label l) Q s w := fun _ _ ha => wpIn_label ⟨s, ha, h⟩
theorem V.exit {id : Nat} (h : Q (.exit id) s w) : V F P n (.exit id) Q s w := fun _ _ ha => wpIn_exit ⟨s, ha, h⟩
theorem V.ret (h : Q .ret s w) : V F P n .ret Q s w := fun _ _ ha => wpIn_ret ⟨s, ha, h⟩
theorem V.seq {x y : Code} (h : V F P n x (ThenV (V F P n y Q) Q) s w) : V F P n (.seq x y) Q s w := by
 intro k a ha
 refine wpIn_seq (wpIn_mono (h k a ha) ?_)
 rintro e a' w' ⟨s', hf, q⟩
 cases e <;> first | exact q k a' hf | exact ⟨s', hf, q⟩
theorem V.block {id : Nat} {c : Code} (h : V F P n c (BlkV id Q) s w) : V F P n (.block id c) Q s w := by
 intro k a ha
 refine wpIn_block (wpIn_mono (h k a ha) ?_)
 rintro e a' w' ⟨s', hf, q⟩
 cases e with
 | exit id' =>
  simp only [BlkV] at q
  simp only [Exit.inBlock]
  split
  ·rename_i h; rw [if_pos h] at q; exact ⟨s', hf, q⟩
  ·rename_i h; rw [if_neg h] at q; exact ⟨s', hf, q⟩
 | _ => exact ⟨s', hf, q⟩
theorem V.cond {c : Operand} {x y : Code} {t : Bool} (hc : ev s.2 c = .bool t) (ht : t = true → V F P n x Q s w) (hf : t = false → V F P n y Q s w) : V F P n (.cond c x y) Q s w := by
 intro k a ha
 exact wpIn_cond_split (t := t) (by rw [ha.eval]; exact hc) (fun e => ht e k a ha) (fun e => hf e k a ha)
def noDefer : List Oper → Bool
 | [] => true
 | o :: l => (match o.op with | .defer _ => false | _ => true) && noDefer l
theorem noDefer_one {o : Oper} (h : (match o.op with | .defer _ => false | _ => true) = true) : ∀ c, o.op ≠ .defer c := by
 intro c e; rw [e] at h; cases h
theorem listIn_of {ops : Array Oper} {ds : List Deferred} {q : Exit → Act → World → Prop} {q' : Exit → Act → World → Prop} {r : Option Nat} (hq : ∀ e a1 a2 w, a2.tmps = a1.tmps → a2.defers = a1.defers ++ ds → q e a1 w → q' e a2 w) (hn : ∀ e a w, q e a w → e = .normal) {k : Nat} :
  ∀ (l : List Oper) (a1 a2 : Act) (w : World), noDefer l = true → a2.tmps = a1.tmps → a2.defers = a1.defers ++ ds → wpListIn Fence.wide 0 P ops q l a1 w → wpListIn { Fence.wide with round := r } k P ops q' l a2 w
 | [], a1, a2, w, _, h1, h2, h => hq _ _ _ _ h1 h2 h
 | o :: l, a1, a2, w, hd, h1, h2, h => by
  simp only [noDefer, Bool.and_eq_true] at hd
  have ih := fun a1 a2 w => listIn_of (r := r) (ops := ops) hq hn (k := k) l a1 a2 w hd.2
  have hev : a2.eval = a1.eval := by funext x; cases x <;> simp only [Act.eval, h1]
  unfold wpListIn at h ⊢
  rw [h1]
  have hp1 : ∀ (d : Option Tmp) (v : Value), (a2.put d v).tmps = (a1.put d v).tmps := by
   intro d v; cases d <;> simp [Act.put, h1]
  have hp2 : ∀ (d : Option Tmp) (v : Value), (a2.put d v).defers = (a1.put d v).defers ++ ds := by
   intro d v; cases d <;> simp [Act.put, h2]
  split
  ·rename_i hw
   rw [if_pos hw] at h
   obtain ⟨_, h⟩ := h
   refine ⟨fun _ _ => trivial, ?_⟩
   rw [Oper.semAt_eq _ _ _ (noDefer_one hd.1), hev]
   have h : o.uponIn Fence.wide 0 P a1 _ _ ((execOp a1.eval o).run P w) := h
   cases hr : (execOp a1.eval o).run P w with
   | ok nx w' =>
    rw [hr] at h
    cases nx with
    | value v => exact ih _ _ _ (hp1 _ _) (hp2 _ _) h
    | skip => exact ih _ _ _ (hp1 _ _) (hp2 _ _) h
    | defer d =>
     refine ih _ _ _ ?_ ?_ h
     ·cases o.dst <;> simp [Act.put, h1]
     ·cases o.dst <;> simp [Act.put, h2]
    | enter f args =>
     refine ⟨fun hh => absurd hh (by simp [Fence.wide]), ?_⟩
     have h2' := (callsIn_wide (n := k - 1)).2 (callsIn_wide.1 h.2)
     have h3 : CallsIn { Fence.wide with round := r } (k - 1) P f args w' _ := h2'
     refine CallsIn.mono h3 ?_
     intro e w'' he
     cases e with
     | returned v => exact ih _ _ _ (hp1 _ _) (hp2 _ _) he
     | panicked c => exact absurd (hn _ _ _ he) (by simp)
     | outgrown => obtain ⟨_, _, he⟩ := he; exact absurd (hn _ _ _ he) (by simp)
    | round l f tmps assign body =>
     refine ⟨fun hh => absurd hh (by simp [Fence.wide]), ?_⟩
     have h3 : RoundIn { Fence.wide with round := r } (k - 1) P l f tmps assign body w' _ := ⟨trivial, fun c cs _ => h.2.2 c cs (room_wide _)⟩
     refine RoundIn.mono h3 ?_
     intro e w'' he
     cases e with
     | returned v => exact ih _ _ _ (hp1 _ _) (hp2 _ _) he
     | panicked c => exact absurd (hn _ _ _ he) (by simp)
     | outgrown => obtain ⟨_, _, he⟩ := he; exact absurd (hn _ _ _ he) (by simp)
    | row rw_ args =>
     refine ⟨fun hh => absurd hh (by simp [Fence.wide]), ?_⟩
     have h3 : RowsIn { Fence.wide with round := r } (k - 1) P rw_ args w' _ := fun c cs _ => h.2 c cs (room_wide _)
     refine RowsIn.mono h3 ?_
     intro v w'' he
     exact ih _ _ _ (hp1 _ _) (hp2 _ _) he
    | _ => exact h.elim
   | halt x w' =>
    rw [hr] at h
    cases x with
    | panic v => exact absurd (hn _ _ _ h) (by simp)
    | _ => exact h.elim
  ·rename_i hw
   rw [if_neg hw] at h
   obtain ⟨_, h⟩ := h
   exact ⟨fun _ _ => trivial, ih _ _ _ (hp1 _ _) (hp2 _ _) h⟩
theorem V.region {r : Option Nat} {ds : List Deferred} {σ : Env} {id : Nat} {l : List Oper} (hnd : noDefer l = true) (h : OpsL P n l.toArray l (fun σ w => Q .normal (ds, σ) w) σ w) : V { Fence.wide with round := r } P n (.region id l.toArray false) Q (ds, σ) w := by
 intro k a ha
 refine wpIn_region_lit (listIn_of (ds := ds) ?_ ?_ l { a with defers := [] } a w hnd rfl (by simpa using ha.defers) (h _ ha.bare))
 ·rintro e a1 a2 w h1 h2 ⟨rfl, σ', hf, q⟩
  refine ⟨(ds, σ'), ⟨by rw [h1]; exact hf.size, by rw [h2, hf.defers]; rfl, by rw [h1]; exact hf.at_⟩, q⟩
 ·rintro e a w ⟨rfl, _⟩; rfl
end
theorem V.mono {F : Fence} {P : Program} {n : Nat} {Q Q' : Exit → VS → World → Prop} {s : VS} {w : World} {c : Code} (h : V F P n c Q s w) (hq : ∀ e s w, Q e s w → Q' e s w) : V F P n c Q' s w :=
 fun k a ha => wpIn_mono (h k a ha) fun _ _ _ ⟨s', hf, q⟩ => ⟨s', hf, hq _ _ _ q⟩
/-- how a round is left -/
def RPost {α : Type} (I : List α → Heap → Own → Prop) (Ix : Code → List α → Heap → Own → Prop) (h0 : Heap) (w0 : World) (h2 : Heap) (xs : List α) (tail : Own) : Exit → VS → World → Prop := fun e _ w4 =>
 ∃ h3 own3, Le h2 h3 ∧ St h0 w0 h3 w4 (own3 ++ tail) ∧ (match e with
  | .normal => I xs h3 own3
  | .ret => Ix .ret xs h3 own3
  | .exit id => Ix (.exit id) xs h3 own3
  | .goto t => Ix (.goto t) xs h3 own3
  | _ => False)
/-- behind the assignment to the loop's variables: the body, whatever has turned elsewhere -/
def APost {α : Type} (F : Fence) (P : Program) (n : Nat) (body : Code) (I : List α → Heap → Own → Prop) (Ix : Code → List α → Heap → Own → Prop) (h0 : Heap) (w0 : World) (h1 : Heap) (xs : List α) (tail : Own) : Exit → VS → World → Prop := fun e s w2 =>
 e = .normal ∧ ∃ h2 own2, Le h1 h2 ∧ St h0 w0 h2 w2 (own2 ++ tail) ∧ ∀ tail' w3, St h0 w0 h2 w3 (own2 ++ tail') → V F P n body (RPost I Ix h0 w0 h2 xs tail') s w3
theorem APost.mk {α : Type} {F : Fence} {P : Program} {n : Nat} {body : Code} {I : List α → Heap → Own → Prop} {Ix : Code → List α → Heap → Own → Prop} {h0 h1 h2 : Heap} {w0 : World} {xs : List α} {own2 tail : Own} {s : VS} {w2 : World} (le : Le h1 h2) (st : St h0 w0 h2 w2 (own2 ++ tail))
  (hb : ∀ tail' w3, St h0 w0 h2 w3 (own2 ++ tail') → V F P n body (RPost I Ix h0 w0 h2 xs tail') s w3) : APost F P n body I Ix h0 w0 h1 xs tail .normal s w2 := ⟨rfl, h2, own2, le, st, hb⟩
theorem RPost.norm {α : Type} {I : List α → Heap → Own → Prop} {Ix : Code → List α → Heap → Own → Prop} {h0 h2 h3 : Heap} {w0 : World} {xs : List α} {own3 tail : Own} {s : VS} {w4 : World} (le : Le h2 h3) (st : St h0 w0 h3 w4 (own3 ++ tail)) (hI : I xs h3 own3) : RPost I Ix h0 w0 h2 xs tail .normal s w4 := ⟨h3, own3, le, st, hI⟩
theorem RPost.exit {α : Type} {I : List α → Heap → Own → Prop} {Ix : Code → List α → Heap → Own → Prop} {h0 h2 h3 : Heap} {w0 : World} {xs : List α} {own3 tail : Own} {s : VS} {w4 : World} {id : Nat} (le : Le h2 h3) (st : St h0 w0 h3 w4 (own3 ++ tail)) (hI : Ix (.exit id) xs h3 own3) : RPost I Ix h0 w0 h2 xs tail (.exit id) s w4 := ⟨h3, own3, le, st, hI⟩
theorem perm_end {α : Type} (A B C : List α) : (B ++ (A ++ C)).Perm (A ++ (C ++ B)) := by
 rw [← List.append_assoc A C B]; exact List.perm_append_comm
/-- an iterator that yields any number of values at a time -/
def GivesG {α : Type} (P : Program) (gf : FuncId) (caps : List Value) (A : List α → Heap → List Value → α → Prop) (S : List α → Prop) (h0 : Heap) (w0 : World) (h : Heap) : Prop :=
 ∀ (l : Nat) (J Jx : List α → Heap → Own → Prop),
  (∀ xs h1 h2 o, J xs h1 o → Le h1 h2 → J xs h2 o) → (∀ xs h1 h2 o, Jx xs h1 o → Le h1 h2 → Jx xs h2 o) →
  (∀ pre x h1 w1 B rest us, Le h h1 → J pre h1 rest → St h0 w0 h1 w1 (B ++ rest) → A pre h1 us x → Yields P l us.toArray w1 fun v w2 => ∃ h2 rest2, Le h1 h2 ∧ St h0 w0 h2 w2 (B ++ rest2) ∧ ((v = .bool true ∧ J (pre ++ [x]) h2 rest2) ∨ (v = .bool false ∧ Jx (pre ++ [x]) h2 rest2))) →
  ∀ h1 w rest, Le h h1 → J [] h1 rest → St h0 w0 h1 w rest →
   Calls P gf (.func (.yield l) #[] #[] :: caps).toArray w fun e w' => ∃ h' rest' v, e = .returned v ∧ Le h1 h' ∧ St h0 w0 h' w' rest' ∧ ((∃ xs, S xs ∧ J xs h' rest') ∨ (∃ pre, Jx pre h' rest'))
/-- a range over a function -/
theorem V.rangeFuncG {α : Type} {P : Program} {n : Nat} {Q : Exit → VS → World → Prop} {A : List α → Heap → List Value → α → Prop} {g : Operand} {ps : Array Tmp} {up : List Value → Env} {assign body : Code} {σ : Env} {w : World} {gf : FuncId} {caps : List Value} {S : List α → Prop} {h0 h : Heap} {w0 : World} {own : Own}
  (st : St h0 w0 h w own) (hg : ev σ g = .func (.func gf) #[] caps.toArray) (eg : ∀ a w, (callFunc gf a).run P w = .ok (.enter gf a) w) (hput : ∀ (a : Act) pre us h x, FitsD [] n a σ → A pre h us x → FitsD [] n ({ tmps := (ps.zip us.toArray).foldl (fun tmps (x : Nat × Value) => tmps.setIfInBounds x.1 x.2) a.tmps, defers := [] } : Act) (up us)) (hsz : ∀ pre us h x, A pre h us x → us.toArray.size = ps.size)
  (seq : GivesG P gf caps A S h0 w0 h) (I : List α → Heap → Own → Prop) (Ix : Code → List α → Heap → Own → Prop)
  (hI : ∀ xs h1 h2 o, I xs h1 o → Le h1 h2 → I xs h2 o) (hIx : ∀ c xs h1 h2 o, Ix c xs h1 o → Le h1 h2 → Ix c xs h2 o) (h00 : I [] h own)
  (hround : ∀ (l : Nat) pre x h1 w1 own1 tail us, Le h h1 → I pre h1 own1 → St h0 w0 h1 w1 (own1 ++ tail) → A pre h1 us x →
   V { Fence.wide with round := some l } P n assign (APost { Fence.wide with round := some l } P n body I Ix h0 w0 h1 (pre ++ [x]) tail) ([], up us) w1)
  (hdone : ∀ D xs h' w' own', Le h h' → S xs → I xs h' own' → St h0 w0 h' w' (own' ++ [[(D, .deferred (some []))]]) → Q .normal ([{ target := .collected D, args := #[] }], σ) w')
  (hstop : ∀ D c pre h' w' own', Le h h' → Ix c pre h' own' → St h0 w0 h' w' (own' ++ [[(D, .deferred (some []))]]) → V Fence.wide P n c Q ([{ target := .collected D, args := #[] }], σ) w') :
  V Fence.wide P n (.rangeFunc g ps assign body) Q ([], σ) w := by
 intro k a ha
 refine wpIn_rangeFunc ?_
 intro fn _
 obtain ⟨D, hD⟩ : ∃ D, D = w.heap.size := ⟨_, rfl⟩
 obtain ⟨l, hl⟩ : ∃ l, l = w.heap.size + 1 := ⟨_, rfl⟩
 obtain ⟨rec, hrec⟩ : ∃ rec : LoopState → Option Code → Loop, rec = fun st pe => { state := st, pending := pe, fn, tmps := a.tmps, params := ps, assign, body, defers := D } := ⟨_, rfl⟩
 have st1 := (st.alloc (.deferred (some []))).alloc (.loop (rec .ready none))
 have hsz' : (w.alloc (.deferred (some []))).heap.size = l := by rw [hl]; simp
 rw [hsz', ← hD] at st1
 have hxa : a.eval = ev σ := ha.eval
 obtain ⟨w1, ew1⟩ : ∃ w1, w1 = (w.alloc (.deferred (some []))).alloc (.loop (rec .ready none)) := ⟨_, rfl⟩
 rw [← ew1] at st1
 have e1 : (Instr.enterLoop fn a.tmps ps assign body none).run P w = .ok (l, [({ target := .collected D, args := #[] } : Deferred)]) w1 := by
  rw [ew1, hrec, hl, hD]; exact run_enterLoop_outer _ _ _ _ _
 refine ⟨l, [({ target := .collected D, args := #[] } : Deferred)], w1, ({ target := .fn (.func gf) caps.toArray, args := #[.func (.yield l) #[] #[]] } : Deferred), w1, gf, #[.func (.yield l) #[] #[]] ++ caps.toArray, w1, ?_, ?_, fun _ _ => trivial, ?_, fun hh => absurd hh (by simp [Fence.wide]), ?_⟩
 ·exact e1
 ·simp only [resolve, hxa, hg]
  simp [go_sem, rangeCall, ev]
 ·simp [invoke, go_sem, eg]
 ·
  have con := seq l (fun pre h1 rest => ∃ own1, I pre h1 own1 ∧ rest = own1 ++ [[(D, .deferred (some []))], [(l, .loop (rec .ready none))]])
   (fun pre h1 rest => ∃ own1 c, Ix c pre h1 own1 ∧ rest = own1 ++ [[(D, .deferred (some []))], [(l, .loop (rec .done (some c)))]])
   (by rintro xs h1 h2 o ⟨own1, hi, rfl⟩ le; exact ⟨own1, hI _ _ _ _ hi le, rfl⟩) (by rintro xs h1 h2 o ⟨own1, c, hi, rfl⟩ le; exact ⟨own1, c, hIx _ _ _ _ _ hi le, rfl⟩) ?_ h _ _ (Le.refl h) ⟨own, h00, rfl⟩ (by simpa using st1)
  ·refine (callsIn_wide.2 ?_)
   have e0 : (.func (.yield l) #[] #[] :: caps : List Value).toArray = #[.func (.yield l) #[] #[]] ++ caps.toArray := by simp
   rw [e0] at con
   refine con.mono ?_
   rintro e w2 ⟨h', rest', v, rfl, le, st2, hout⟩
   have tk : ∀ {own1 : Own} {r : Loop}, St h0 w0 h' w2 (own1 ++ [[(D, .deferred (some []))], [(l, .loop r)]]) → ∀ o', St h0 w0 h' (w2.putObj l o') (own1 ++ [[(D, .deferred (some []))]]) := by
    intro own1 r s o'
    have s2 : St h0 w0 h' w2 ((own1 ++ [[(D, .deferred (some []))]]) ++ [(l, .loop r)] :: []) := by simpa using s
    have s3 := (s2.setAt o').take (own1 ++ [[(D, Obj.deferred (some []))]]).length
    rwa [List.take_left'] at s3
    rfl
   rcases hout with ⟨xs, hS, own1, hi, rfl⟩ | ⟨pre, own1, c, hi, rfl⟩
   ·have hlr : w2.heap[l]? = some (.loop (rec .ready none)) := St.at (A := own1 ++ [[(D, .deferred (some []))]]) (C := []) (by simpa using st2)
    have hend := run_endLoop (P := P) hlr (by rw [hrec]; simp)
    rw [hrec] at hend
    refine ⟨none, _, hend, ⟨([{ target := .collected D, args := #[] }], σ), ⟨ha.size, by simp [ha.defers], ha.at_⟩, hdone D xs h' _ own1 le hS hi (tk st2 _)⟩⟩
   ·have hlr : w2.heap[l]? = some (.loop (rec .done (some c))) := St.at (A := own1 ++ [[(D, .deferred (some []))]]) (C := []) (by simpa using st2)
    have hend := run_endLoop (P := P) hlr (by rw [hrec]; simp)
    rw [hrec] at hend
    refine ⟨some c, _, hend, ?_⟩
    exact hstop D c pre h' _ own1 le hi (tk st2 _) k _ ⟨ha.size, by simp [ha.defers], ha.at_⟩
  ·rintro pre x h1 w1 B rest us le ⟨own1, hi, rfl⟩ s1 hA
   have hlr : w1.heap[l]? = some (.loop (rec .ready none)) := St.at (A := B ++ (own1 ++ [[(D, .deferred (some []))]])) (C := []) (by simpa using s1)
   have hy := run_yield (P := P) (args := us.toArray) hlr (by rw [hrec]; exact hsz pre us h1 x hA)
   rw [hrec] at hy
   refine ⟨fn, _, assign, body, hy, roundIn_of_wpIn trivial ?_⟩
   -- the caller's entries first
   have s2 : St h0 w0 h1 w1 (own1 ++ ([[(D, .deferred (some []))], [(l, .loop (rec .ready none))]] ++ B)) := s1.perm (perm_end own1 B _)
   have hfit := hput { tmps := a.tmps, defers := [] } pre us h1 x ⟨ha.size, rfl, ha.at_⟩ hA
   have hr := hround l pre x h1 w1 own1 _ us le hi s2 hA 0 _ hfit
   refine wpIn_mono hr ?_
   rintro e a2 w2 ⟨s', hf2, rfl, h2, own2, le2, s3, hbody⟩
   have s3' : St h0 w0 h2 w2 ((own2 ++ [[(D, .deferred (some []))]]) ++ [(l, .loop (rec .ready none))] :: B) := by simpa using s3
   have hl2 := s3'.at
   have hbr := run_beginRound (P := P) hl2 (by rw [hrec])
   refine ⟨_, hbr, ?_⟩
   have s4 := s3'.setAt (.loop { rec .ready none with state := .busy })
   have s4' := s4
   rw [show (own2 ++ [[(D, .deferred (some []))]]) ++ [(l, .loop { rec .ready none with state := .busy })] :: B = own2 ++ ([[(D, .deferred (some []))], [(l, .loop { rec .ready none with state := .busy })]] ++ B) by simp] at s4'
   refine wpIn_mono (hbody _ _ s4' 0 a2 hf2) ?_
   have fin : ∀ (jump : Option Code) (h3 : Heap) (own3 : Own) (w4 : World), St h0 w0 h3 w4 (own3 ++ ([[(D, .deferred (some []))], [(l, .loop { rec .ready none with state := .busy })]] ++ B)) →
     ∃ w5, (Instr.endRound l jump).run P w4 = .ok (.bool jump.isNone) w5 ∧ St h0 w0 h3 w5 (B ++ (own3 ++ [[(D, .deferred (some []))], [(l, .loop (rec (if jump.isNone then .ready else .done) jump))]])) := by
    intro jump h3 own3 w4 s5
    have s5' : St h0 w0 h3 w4 ((own3 ++ [[(D, .deferred (some []))]]) ++ [(l, .loop { rec .ready none with state := .busy })] :: B) := by simpa using s5
    refine ⟨_, run_endRound (P := P) jump s5'.at, ?_⟩
    have s6 := s5'.setAt (.loop (rec (if jump.isNone then .ready else .done) jump))
    rw [show (own3 ++ [[(D, .deferred (some []))]]) ++ [(l, .loop (rec (if jump.isNone then .ready else .done) jump))] :: B = own3 ++ ([[(D, .deferred (some []))], [(l, .loop (rec (if jump.isNone then .ready else .done) jump))]] ++ B) by simp] at s6
    have s7 := s6.perm (perm_end own3 B _).symm
    rw [hrec] at s7 ⊢
    exact s7
   rintro e a4 w4 ⟨s'', hf4, h3, own3, le3, s5, hm⟩
   cases e with
   | normal =>
    obtain ⟨w5, hr5, s6⟩ := fin none h3 own3 w4 s5
    exact ⟨_, w5, hr5, _, rfl, h3, _, le2.trans le3, s6, .inl ⟨rfl, own3, hm, rfl⟩⟩
   | ret =>
    obtain ⟨w5, hr5, s6⟩ := fin (some .ret) h3 own3 w4 s5
    exact ⟨_, w5, hr5, _, rfl, h3, _, le2.trans le3, s6, .inr ⟨rfl, own3, .ret, hm, rfl⟩⟩
   | exit id =>
    obtain ⟨w5, hr5, s6⟩ := fin (some (.exit id)) h3 own3 w4 s5
    exact ⟨_, w5, hr5, _, rfl, h3, _, le2.trans le3, s6, .inr ⟨rfl, own3, .exit id, hm, rfl⟩⟩
   | goto t =>
    obtain ⟨w5, hr5, s6⟩ := fin (some (.goto t)) h3 own3 w4 s5
    exact ⟨_, w5, hr5, _, rfl, h3, _, le2.trans le3, s6, .inr ⟨rfl, own3, .goto t, hm, rfl⟩⟩
   | panic ch => exact hm.elim
   | outgrown => exact hm.elim
theorem V.rangeFunc {α : Type} {P : Program} {n : Nat} {Q : Exit → VS → World → Prop} {A : Heap → Value → α → Prop} {g : Operand} {p : Tmp} {assign body : Code} {σ : Env} {w : World} {gf : FuncId} {caps : List Value} {S : List α → Prop} {h0 h : Heap} {w0 : World} {own : Own}
  (st : St h0 w0 h w own) (hg : ev σ g = .func (.func gf) #[] caps.toArray) (eg : ∀ a w, (callFunc gf a).run P w = .ok (.enter gf a) w) (hp : Nat.blt p n = true)
  (seq : Gives P gf caps A S h0 w0 h) (I : List α → Heap → Own → Prop) (Ix : Code → List α → Heap → Own → Prop)
  (hI : ∀ xs h1 h2 o, I xs h1 o → Le h1 h2 → I xs h2 o) (hIx : ∀ c xs h1 h2 o, Ix c xs h1 o → Le h1 h2 → Ix c xs h2 o) (h00 : I [] h own)
  (hround : ∀ (l : Nat) pre x h1 w1 own1 tail u, Le h h1 → I pre h1 own1 → St h0 w0 h1 w1 (own1 ++ tail) → A h1 u x →
   V { Fence.wide with round := some l } P n assign (APost { Fence.wide with round := some l } P n body I Ix h0 w0 h1 (pre ++ [x]) tail) ([], upd σ p u) w1)
  (hdone : ∀ D xs h' w' own', Le h h' → S xs → I xs h' own' → St h0 w0 h' w' (own' ++ [[(D, .deferred (some []))]]) → Q .normal ([{ target := .collected D, args := #[] }], σ) w')
  (hstop : ∀ D c pre h' w' own', Le h h' → Ix c pre h' own' → St h0 w0 h' w' (own' ++ [[(D, .deferred (some []))]]) → V Fence.wide P n c Q ([{ target := .collected D, args := #[] }], σ) w') :
  V Fence.wide P n (.rangeFunc g #[p] assign body) Q ([], σ) w := by
 refine V.rangeFuncG (A := fun _ h us x => ∃ u, us = [u] ∧ A h u x) (up := fun us => upd σ p (us.headD undef)) st hg eg ?_ (by rintro _ _ _ _ ⟨u, rfl, _⟩; rfl) ?_ I Ix hI hIx h00 ?_ hdone hstop
 ·rintro a pre us h x hf ⟨u, rfl, _⟩
  have h2 := hf.bare.put (d := some p) (by exact hp) u
  have e1 : (#[p].zip [u].toArray).foldl (fun tmps (x : Nat × Value) => tmps.setIfInBounds x.1 x.2) a.tmps = a.tmps.setIfInBounds p u := by simp
  show FitsD [] n ({ tmps := (#[p].zip [u].toArray).foldl (fun tmps (x : Nat × Value) => tmps.setIfInBounds x.1 x.2) a.tmps, defers := [] } : Act) (upd σ p u)
  rw [e1]; exact ⟨h2.size, rfl, h2.at_⟩
 ·intro l J Jx hm hxm hY
  exact seq l J Jx hm hxm fun pre x h1 w1 B rest u a b c d => hY pre x h1 w1 B rest [u] a b c ⟨u, rfl, d⟩
 ·rintro l pre x h1 w1 own1 tail us a b c ⟨u, rfl, d⟩
  exact hround l pre x h1 w1 own1 tail u a b c d
/-- what a function's body has to show, the marks taken in -/
def Taken (P : Program) : List Deferred → World → (World → Prop) → Prop
 | [], w, K => K w
 | d :: ds, w, K => ∃ D, d.target = .collected D ∧ w.heap[D]? = some (.deferred (some [])) ∧ Taken P ds (w.putObj D (.deferred none)) K
def PostV (fn : Func) (P : Program) (R : Ending → World → Prop) : Exit → VS → World → Prop
 | .normal, s, w | .ret, s, w => Taken P s.1 w fun w' => Post fn P R .ret s.2 w'
 | _, _, _ => False
theorem V.calls {P : Program} {f : FuncId} {fn : Func} {c : Code} {n : Nat} {args : List Value} {w : World} {R : Ending → World → Prop}
  (hf : P.funcs[f]? = some fn) (hb : fn.body = some c) (hn : fn.ntmps = n) (hl : Nat.ble args.length n = true)
  (h : V Fence.wide P n c (PostV fn P R) ([], start args) w) : Calls P f args.toArray w R := by
 have hl' : args.length ≤ n := by simpa using hl
 refine (callsIn_wide (n := 0)).1 (callsIn_of_wp_marks hf hb trivial ?_)
 have hfit : FitsD [] n { tmps := args.toArray ++ Array.replicate (fn.ntmps - args.toArray.size) undef, defers := [] } (start args) := by
  refine ⟨by simp [hn]; omega, rfl, fun i => ?_⟩
  rw [← start_eq]
  simp only [Array.getD_eq_getD_getElem?, List.getD_eq_getElem?_getD]
  by_cases hi : i < args.length
  ·rw [Array.getElem?_append_left (by simpa using hi)]; simp
  ·rw [Array.getElem?_append_right (by simpa using hi), List.getElem?_eq_none (by omega)]
   by_cases hj : i - args.toArray.size < fn.ntmps - args.toArray.size
   ·rw [Array.getElem?_replicate, if_pos hj]; rfl
   ·rw [Array.getElem?_replicate, if_neg hj]
 have key : ∀ (ds : List Deferred) (w : World) (tmps : Array Value) (σ : Env), (∀ i, tmps.getD i undef = σ i) → Taken P ds w (fun w' => Post fn P R .ret σ w') → LeavesInM Fence.wide 0 P fn tmps R ds .returning w := by
  intro ds
  induction ds with
  | nil =>
   intro w tmps σ ht h
   exact h tmps ht
  | cons d ds ih =>
   intro w tmps σ ht h
   obtain ⟨D, hd, hD, h⟩ := h
   exact ⟨by simp, .inl ⟨D, _, hd, run_takeDeferred hD, ih _ _ _ ht h⟩⟩
 refine wpIn_mono (h 0 _ hfit) ?_
 rintro e a' w' ⟨s', hf', hq⟩
 cases e with
 | normal => show LeavesInM _ _ _ _ _ _ a'.defers _ _; rw [hf'.defers]; exact key _ _ _ _ hf'.at_ hq
 | ret => show LeavesInM _ _ _ _ _ _ a'.defers _ _; rw [hf'.defers]; exact key _ _ _ _ hf'.at_ hq
 | exit id => exact hq.elim
 | goto l => exact hq.elim
 | panic ch => exact hq.elim
 | outgrown => exact hq.elim
theorem PostV.zero {fn : Func} {P : Program} {R : Ending → World → Prop} {σ : Env} {w : World} (h : Post fn P R .ret σ w) : PostV fn P R .ret ([], σ) w := h
theorem PostV.one {fn : Func} {P : Program} {R : Ending → World → Prop} {σ : Env} {w w0 : World} {h0 h : Heap} {own : Own} {D : Nat} (st : St h0 w0 h w (own ++ [[(D, .deferred (some []))]])) (hk : ∀ w', St h0 w0 h w' own → Post fn P R .ret σ w') : PostV fn P R .ret ([{ target := .collected D, args := #[] }], σ) w := by
 have s2 : St h0 w0 h w (own ++ [(D, .deferred (some []))] :: []) := st
 refine ⟨D, rfl, s2.at, hk _ ?_⟩
 have s3 := (s2.setAt (.deferred none)).take own.length
 rwa [List.take_left'] at s3
 rfl
end Go.Pk

namespace Go.Pk
open Go Go.RowKit
theorem St.mid {h0 h : Heap} {w0 w : World} {A rest : Own} {o : List (Nat × Obj)} (st : St h0 w0 h w ((A ++ rest) ++ [o])) : St h0 w0 h w (A ++ o :: rest) := by
 refine st.perm ?_
 rw [List.append_assoc]
 exact (List.perm_append_comm (l₁ := rest) (l₂ := [o])).append_left A
theorem St.over {h0 h h' : Heap} {w0 w w' : World} {own rest : Own} (a : St h0 w0 h w rest) (b : St h w h' w' own) : St h0 w0 h' w' rest := a.call0 (b.take 0)
theorem St.keep {h0 h h' : Heap} {w0 w w' : World} {own rest : Own} (a : St h0 w0 h w rest) (b : St h w h' w' own) : St h0 w0 h' w' (own ++ rest) := (a.call b).perm List.perm_append_comm
/-- an iterator, at whatever memory -/
def GivesA {α : Type} (P : Program) (gf : FuncId) (caps : List Value) (A : List α → Heap → Value → α → Prop) (S : List α → Prop) (h : Heap) : Prop :=
 ∀ h0 w0 h', Le h h' → GivesG P gf caps (fun pre h us x => ∃ u, us = [u] ∧ A pre h u x) S h0 w0 h'
theorem GivesA.up {α : Type} {P : Program} {gf : FuncId} {caps : List Value} {A : List α → Heap → Value → α → Prop} {S : List α → Prop} {h h' : Heap} (g : GivesA P gf caps A S h) (le : Le h h') : GivesA P gf caps A S h' :=
 fun h0 w0 h1 l1 => g h0 w0 h1 (le.trans l1)
theorem V.rangeFuncP {α : Type} {P : Program} {n : Nat} {Q : Exit → VS → World → Prop} {A : List α → Heap → Value → α → Prop} {g : Operand} {p : Tmp} {assign body : Code} {σ : Env} {w : World} {gf : FuncId} {caps : List Value} {S : List α → Prop} {h0 h : Heap} {w0 : World} {own : Own}
  (st : St h0 w0 h w own) (hg : ev σ g = .func (.func gf) #[] caps.toArray) (eg : ∀ a w, (callFunc gf a).run P w = .ok (.enter gf a) w) (hp : Nat.blt p n = true)
  (seq : GivesG P gf caps (fun pre h us x => ∃ u, us = [u] ∧ A pre h u x) S h0 w0 h) (I : List α → Heap → Own → Prop) (Ix : Code → List α → Heap → Own → Prop)
  (hI : ∀ xs h1 h2 o, I xs h1 o → Le h1 h2 → I xs h2 o) (hIx : ∀ c xs h1 h2 o, Ix c xs h1 o → Le h1 h2 → Ix c xs h2 o) (h00 : I [] h own)
  (hround : ∀ (l : Nat) pre x h1 w1 own1 tail u, Le h h1 → I pre h1 own1 → St h0 w0 h1 w1 (own1 ++ tail) → A pre h1 u x →
   V { Fence.wide with round := some l } P n assign (APost { Fence.wide with round := some l } P n body I Ix h0 w0 h1 (pre ++ [x]) tail) ([], upd σ p u) w1)
  (hdone : ∀ D xs h' w' own', Le h h' → S xs → I xs h' own' → St h0 w0 h' w' (own' ++ [[(D, .deferred (some []))]]) → Q .normal ([{ target := .collected D, args := #[] }], σ) w')
  (hstop : ∀ D c pre h' w' own', Le h h' → Ix c pre h' own' → St h0 w0 h' w' (own' ++ [[(D, .deferred (some []))]]) → V Fence.wide P n c Q ([{ target := .collected D, args := #[] }], σ) w') :
  V Fence.wide P n (.rangeFunc g #[p] assign body) Q ([], σ) w := by
 refine V.rangeFuncG (up := fun us => upd σ p (us.headD undef)) st hg eg ?_ (by rintro _ _ _ _ ⟨u, rfl, _⟩; rfl) seq I Ix hI hIx h00 ?_ hdone hstop
 ·rintro a pre us h x hf ⟨u, rfl, _⟩
  have h2 := hf.bare.put (d := some p) (by exact hp) u
  have e1 : (#[p].zip [u].toArray).foldl (fun tmps (x : Nat × Value) => tmps.setIfInBounds x.1 x.2) a.tmps = a.tmps.setIfInBounds p u := by simp
  show FitsD [] n ({ tmps := (#[p].zip [u].toArray).foldl (fun tmps (x : Nat × Value) => tmps.setIfInBounds x.1 x.2) a.tmps, defers := [] } : Act) (upd σ p u)
  rw [e1]; exact ⟨h2.size, rfl, h2.at_⟩
 ·rintro l pre x h1 w1 own1 tail us a b c ⟨u, rfl, d⟩
  exact hround l pre x h1 w1 own1 tail u a b c d
end Go.Pk

namespace Go.Pk
open Go Go.RowKit
def zQuestion : Question := ⟨zPlace, []⟩
def zVoter : Voter := ⟨0, 0, []⟩
def zSpan : Span := ⟨0, 0⟩
def headsOkAt (hs : List Head) (k : Nat) : Bool := match hs[k]? with | some h => headB h && (decide (k = 0) || headLt ((hs[k - 1]?).getD zHead) h) | none => true
def headsOk (hs : List Head) : Bool := (List.range hs.length).all (headsOkAt hs)
def questAt (p : Poll) (i : Nat) : Bool := match p.questions[i]? with
 | some q => placeB p.text q.at_ && (decide (i = 0) || beforeB ((p.questions[i - 1]?).getD zQuestion).at_ q.at_) && inB q.heads.length 2 3 && headsOk q.heads
 | none => true
def votesAt (p : Poll) (v : Voter) (k : Nat) : Bool := match v.votes[k]?, p.questions[k]? with | some n, some q => inB n (-1) ((q.heads.length : Int) - 1) | _, _ => true
def votesOk (p : Poll) (v : Voter) : Bool := (List.range v.votes.length).all (votesAt p v)
def voterOk (p : Poll) (v : Voter) : Bool := inB v.id 0 9999 && inB v.wrong 0 6 && decide (v.votes.length = p.questions.length) && votesOk p v
def voterAt (p : Poll) (i : Nat) : Bool := match p.voters[i]? with | some v => voterOk p v && (p.voters.take i).all fun u => decide (u.id ≠ v.id) | none => true
/-- a poll whose text and lexicon are valid is valid -/
def pollB (p : Poll) : Bool := decide (p.questions.length ≤ 6) && decide (p.voters.length ≤ 6) && (List.range p.questions.length).all (questAt p) && (List.range p.voters.length).all (voterAt p)
def checkP (p : Poll) : Int := if checkN p.text p.lexicon ≠ 0 then checkN p.text p.lexicon else if pollB p = true then 0 else 70
/-- in how many questions a voter is wrong -/
def wrongAt (v : Voter) (hs : List Int) (k : Nat) : Bool := match v.votes[k]?, hs[k]? with | some a, some b => decide (0 ≤ a) && decide (a ≠ b) | _, _ => false
def wrongN (v : Voter) (hs : List Int) : Nat := ((List.range hs.length).filter (wrongAt v hs)).length
def inAt (p : Poll) (hs : List Int) (k : Nat) : Bool := match hs[k]?, p.questions[k]? with | some n, some q => inB n 0 ((q.heads.length : Int) - 1) | _, _ => true
def trueB (p : Poll) (hs : List Int) : Bool := decide (hs.length = p.questions.length) && (List.range hs.length).all (inAt p hs) && p.voters.all fun v => decide ((wrongN v hs : Int) ≤ v.wrong)
/-- all ways to choose, in order -/
def candL : List Nat → List (List Int)
 | [] => [[]]
 | n :: ns => (List.range n).flatMap fun (h : Nat) => (candL ns).map fun t => (h : Int) :: t
def sizesP (p : Poll) : List Nat := p.questions.map (·.heads.length)
def truthsL (p : Poll) : List (List Int) := (candL (sizesP p)).filter (trueB p)
theorem candL_mem : ∀ {ns : List Nat} {hs : List Int}, hs ∈ candL ns ↔ hs.length = ns.length ∧ ∀ (k n : Nat) (h : Int), ns[k]? = some n → hs[k]? = some h → 0 ≤ h ∧ h < (n : Int)
 | [], hs => by
  rw [candL, List.mem_singleton]
  constructor
  ·rintro rfl; exact ⟨rfl, by simp⟩
  ·rintro ⟨h, _⟩; exact List.length_eq_zero_iff.1 h
 | n :: ns, hs => by
  rw [candL, List.mem_flatMap]
  constructor
  ·rintro ⟨h, hh, hm⟩
   obtain ⟨t, ht, rfl⟩ := List.mem_map.1 hm
   obtain ⟨h1, h2⟩ := candL_mem.1 ht
   refine ⟨by simp [h1], fun k m a hk ha => ?_⟩
   cases k with
   | zero => simp at hk ha; have := List.mem_range.1 hh; omega
   | succ k => exact h2 k m a (by simpa using hk) (by simpa using ha)
  ·rintro ⟨h1, h2⟩
   cases hs with
   | nil => simp at h1
   | cons a t =>
    have h0 := h2 0 n a rfl rfl
    refine ⟨a.toNat, List.mem_range.2 (by omega), List.mem_map.2 ⟨t, candL_mem.2 ⟨by simpa using h1, fun k m b hk hb => h2 (k + 1) m b (by simpa using hk) (by simpa using hb)⟩, ?_⟩⟩
    rw [show ((a.toNat : Nat) : Int) = a by omega]
theorem wrongN_snoc (v : Voter) (hs : List Int) (h : Int) : wrongN v (hs ++ [h]) = wrongN v hs + if (match v.votes[hs.length]? with | some a => decide (0 ≤ a) && decide (a ≠ h) | none => false) = true then 1 else 0 := by
 rw [wrongN, List.length_append, List.length_cons, List.length_nil, Nat.zero_add, List.range_succ, List.filter_append, List.length_append]
 congr 1
 ·rw [wrongN]
  congr 1
  refine List.filter_congr fun k hk => ?_
  have hk := List.mem_range.1 hk
  simp only [wrongAt]
  rw [List.getElem?_append_left hk]
 ·have e : wrongAt v (hs ++ [h]) hs.length = (match v.votes[hs.length]? with | some a => decide (0 ≤ a) && decide (a ≠ h) | none => false) := by
   simp only [wrongAt]
   have e1 : (hs ++ [h])[hs.length]? = some h := by simp
   rw [e1]
   cases v.votes[hs.length]? <;> rfl
  rw [List.filter_cons, e, List.filter_nil]
  generalize (match v.votes[hs.length]? with | some a => decide (0 ≤ a) && decide (a ≠ h) | none => false) = c
  cases c <;> rfl
/-- who is wrong too often is so in all that follows -/
theorem wrongN_pre (v : Voter) : ∀ (t hs : List Int), wrongN v hs ≤ wrongN v (hs ++ t)
 | [], hs => by simp
 | a :: t, hs => by
  have h1 := wrongN_pre v t (hs ++ [a])
  have h2 := wrongN_snoc v hs a
  rw [List.append_assoc] at h1
  have : wrongN v hs ≤ wrongN v (hs ++ [a]) := by omega
  exact Nat.le_trans this h1
theorem flat_congr {α β : Type} {f g : α → List β} : ∀ {l : List α}, (∀ a ∈ l, f a = g a) → l.flatMap f = l.flatMap g
 | [], _ => rfl
 | a :: l, h => by rw [List.flatMap_cons, List.flatMap_cons, h a List.mem_cons_self, flat_congr fun b hb => h b (List.mem_cons_of_mem _ hb)]
theorem filter_flat {α β : Type} (q : β → Bool) (f : α → List β) : ∀ l : List α, (l.flatMap f).filter q = l.flatMap fun a => (f a).filter q
 | [] => rfl
 | a :: l => by rw [List.flatMap_cons, List.flatMap_cons, List.filter_append, filter_flat q f l]
theorem map_flat {α β γ : Type} (g : β → γ) (f : α → List β) : ∀ l : List α, (l.flatMap f).map g = l.flatMap fun a => (f a).map g
 | [] => rfl
 | a :: l => by rw [List.flatMap_cons, List.flatMap_cons, List.map_append, map_flat g f l]
/-- the truths that go on with some heads -/
def truthsFrom (p : Poll) (now : List Int) : List (List Int) := ((candL ((sizesP p).drop now.length)).map (now ++ ·)).filter (trueB p)
theorem truthsFrom_nil (p : Poll) : truthsFrom p [] = truthsL p := by simp [truthsFrom, truthsL]
theorem truthsFrom_next {p : Poll} {now : List Int} {n : Nat} (hn : (sizesP p)[now.length]? = some n) : truthsFrom p now = (List.range n).flatMap fun (h : Nat) => truthsFrom p (now ++ [(h : Int)]) := by
 rw [truthsFrom, drop_cons hn, candL, map_flat, filter_flat]
 refine flat_congr fun h _ => ?_
 rw [truthsFrom]
 congr 1
 rw [List.map_map, List.length_append, List.length_cons, List.length_nil, Nat.zero_add]
 refine List.map_congr_left fun t _ => ?_
 simp
/-- the truths below the k-th head, so far -/
theorem truthsFrom_all {p : Poll} {now : List Int} (hn : now.length = p.questions.length) : truthsFrom p now = if trueB p now = true then [now] else [] := by
 have e : (sizesP p).drop now.length = [] := List.drop_eq_nil_of_le (by rw [sizesP, List.length_map]; omega)
 rw [truthsFrom, e, candL]
 simp only [List.map_cons, List.map_nil, List.append_nil, List.filter_cons, List.filter_nil]
/-- a voter who is wrong too often leaves no truth -/
theorem truthsFrom_none {p : Poll} {now : List Int} {v : Voter} (hv : v ∈ p.voters) (hw : v.wrong < (wrongN v now : Int)) : truthsFrom p now = [] := by
 rw [truthsFrom, List.filter_eq_nil_iff]
 intro hs hh
 obtain ⟨t, _, rfl⟩ := List.mem_map.1 hh
 simp only [trueB, Bool.and_eq_true, List.all_eq_true, decide_eq_true_eq, not_and]
 intro _ q
 have h1 := q v hv
 have h2 := wrongN_pre v t now
 omega
theorem all_lt_succ {P : Nat → Bool} {k : Nat} (h : ∀ j, j < k → P j = true) (hk : P k = true) : ∀ j, j < k + 1 → P j = true := by
 intro j hj
 by_cases e : j = k
 ·subst e; exact hk
 ·exact h j (by omega)
theorem range_all {P : Nat → Bool} {n k : Nat} (h : ∀ j, j < k → P j = true) (hk : n ≤ k) : (List.range n).all P = true := by
 rw [List.all_eq_true]
 intro j hj
 exact h j (by have := List.mem_range.1 hj; omega)
theorem range_no {P : Nat → Bool} {n k : Nat} (h : P k = false) (hk : k < n) : (List.range n).all P = false := by
 rw [List.all_eq_false]
 exact ⟨k, List.mem_range.2 hk, by simp [h]⟩
theorem all_snocB {α : Type} {q : α → Bool} {l : List α} {k : Nat} {a : α} (h : l[k]? = some a) : (l.take (k + 1)).all q = ((l.take k).all q && q a) := by rw [take_snoc h, List.all_append]; simp
theorem headsOk_no {hs : List Head} {k : Nat} (h : headsOkAt hs k = false) : headsOk hs = false := by
 refine range_no h ?_
 refine Classical.byContradiction fun q => ?_
 simp [headsOkAt, List.getElem?_eq_none (show hs.length ≤ k by omega)] at h
theorem votesOk_no {p : Poll} {v : Voter} {k : Nat} (h : votesAt p v k = false) : votesOk p v = false := by
 refine range_no h ?_
 refine Classical.byContradiction fun q => ?_
 simp [votesAt, List.getElem?_eq_none (show v.votes.length ≤ k by omega)] at h
theorem poll_q {p : Poll} {i : Nat} (h : questAt p i = false) : pollB p = false := by
 have : (List.range p.questions.length).all (questAt p) = false := by
  refine range_no h ?_
  refine Classical.byContradiction fun q => ?_
  simp [questAt, List.getElem?_eq_none (show p.questions.length ≤ i by omega)] at h
 rw [pollB, this]; simp
theorem poll_v {p : Poll} {i : Nat} (h : voterAt p i = false) : pollB p = false := by
 have : (List.range p.voters.length).all (voterAt p) = false := by
  refine range_no h ?_
  refine Classical.byContradiction fun q => ?_
  simp [voterAt, List.getElem?_eq_none (show p.voters.length ≤ i by omega)] at h
 rw [pollB, this]; simp
theorem poll_true {p : Poll} {i j : Nat} (h1 : p.questions.length ≤ 6) (h2 : p.voters.length ≤ 6) (h3 : ∀ k, k < i → questAt p k = true) (hi : p.questions.length ≤ i) (h4 : ∀ k, k < j → voterAt p k = true) (hj : p.voters.length ≤ j) : pollB p = true := by
 rw [pollB, range_all h3 hi, range_all h4 hj, decide_eq_true h1, decide_eq_true h2]; rfl
theorem poll_quest {p : Poll} (h : pollB p = true) {i : Nat} {q : Question} (hq : p.questions[i]? = some q) : placeB p.text q.at_ = true ∧ 2 ≤ q.heads.length ∧ q.heads.length ≤ 3 ∧ headsOk q.heads = true := by
 simp only [pollB, Bool.and_eq_true, List.all_eq_true] at h
 have h1 := h.1.2 i (List.mem_range.2 (List.getElem?_eq_some_iff.1 hq).1)
 simp only [questAt, hq, Bool.and_eq_true, inB, decide_eq_true_eq] at h1
 refine ⟨h1.1.1.1, by omega, by omega, h1.2⟩
theorem poll_voter {p : Poll} (h : pollB p = true) {v : Voter} (hv : v ∈ p.voters) : 0 ≤ v.wrong ∧ v.wrong ≤ 6 ∧ v.votes.length = p.questions.length ∧ votesOk p v = true := by
 obtain ⟨i, hi⟩ := List.mem_iff_getElem?.1 hv
 simp only [pollB, Bool.and_eq_true, List.all_eq_true] at h
 have h1 := h.2 i (List.mem_range.2 (List.getElem?_eq_some_iff.1 hi).1)
 simp only [voterAt, hi, voterOk, Bool.and_eq_true, inB, decide_eq_true_eq] at h1
 obtain ⟨⟨⟨⟨_, h2⟩, h3⟩, h4⟩, _⟩ := h1
 exact ⟨h2.1, h2.2, h3, h4⟩
theorem poll_len {p : Poll} (h : pollB p = true) : p.questions.length ≤ 6 ∧ p.voters.length ≤ 6 := by
 simp only [pollB, Bool.and_eq_true, decide_eq_true_eq] at h
 exact ⟨h.1.1.1, h.1.1.2⟩
theorem true_len {p : Poll} {hs : List Int} (h : trueB p hs = true) : hs.length = p.questions.length := by
 simp only [trueB, Bool.and_eq_true, decide_eq_true_eq] at h; exact h.1.1
theorem true_in {p : Poll} {hs : List Int} (h : trueB p hs = true) {k : Nat} {a : Int} {q : Question} (ha : hs[k]? = some a) (hq : p.questions[k]? = some q) : 0 ≤ a ∧ a < (q.heads.length : Int) := by
 simp only [trueB, Bool.and_eq_true, List.all_eq_true] at h
 have := h.1.2 k (List.mem_range.2 (List.getElem?_eq_some_iff.1 ha).1)
 simp only [inAt, ha, hq, inB, Bool.and_eq_true, decide_eq_true_eq] at this
 omega
theorem true_no1 {p : Poll} {hs : List Int} {k : Nat} (hk : k < hs.length) (h : inAt p hs k = false) : trueB p hs = false := by
 rw [trueB, range_no h hk]; simp
theorem true_no2 {p : Poll} {hs : List Int} {v : Voter} (hv : v ∈ p.voters) (h : v.wrong < (wrongN v hs : Int)) : trueB p hs = false := by
 have : (p.voters.all fun v => decide ((wrongN v hs : Int) ≤ v.wrong)) = false := List.all_eq_false.2 ⟨v, hv, by simp; omega⟩
 rw [trueB, this]; simp
theorem true_yes {p : Poll} {hs : List Int} {i k : Nat} (h1 : hs.length = p.questions.length) (h2 : ∀ j, j < i → inAt p hs j = true) (hi : hs.length ≤ i) (h3 : ∀ v ∈ p.voters.take k, (wrongN v hs : Int) ≤ v.wrong) (hk : p.voters.length ≤ k) : trueB p hs = true := by
 rw [List.take_of_length_le hk] at h3
 have : (p.voters.all fun v => decide ((wrongN v hs : Int) ≤ v.wrong)) = true := List.all_eq_true.2 fun v hv => decide_eq_true (h3 v hv)
 rw [trueB, range_all h2 hi, this, decide_eq_true h1]; rfl
/-- how often, so far -/
def wrongK (v : Voter) (hs : List Int) (k : Nat) : Nat := ((List.range k).filter (wrongAt v hs)).length
theorem wrongK_succ (v : Voter) (hs : List Int) (k : Nat) : wrongK v hs (k + 1) = wrongK v hs k + if wrongAt v hs k = true then 1 else 0 := by
 rw [wrongK, List.range_succ, List.filter_append, List.length_append, List.filter_cons, List.filter_nil, wrongK]
 split <;> rfl
theorem wrongK_le (v : Voter) (hs : List Int) (k : Nat) : wrongK v hs k ≤ k := by
 have := List.length_filter_le (wrongAt v hs) (List.range k)
 rw [List.length_range] at this; exact this
theorem poll_q2 {p : Poll} {i k : Nat} {q : Question} (hq : p.questions[i]? = some q) (h : headsOkAt q.heads k = false) : pollB p = false := by
 refine poll_q (i := i) ?_
 simp only [questAt, hq, headsOk_no h, Bool.and_false]
theorem poll_v2 {p : Poll} {i k : Nat} {v : Voter} (hv : p.voters[i]? = some v) (h : votesAt p v k = false) : pollB p = false := by
 refine poll_v (i := i) ?_
 simp only [voterAt, hv, voterOk, votesOk_no h, Bool.and_false, Bool.false_and]
theorem poll_v3 {p : Poll} {i k : Nat} {v u : Voter} (hv : p.voters[i]? = some v) (hu : p.voters[k]? = some u) (hk : k < i) (h : u.id = v.id) : pollB p = false := by
 refine poll_v (i := i) ?_
 have : ((p.voters.take i).all fun u => decide (u.id ≠ v.id)) = false := by
  refine List.all_eq_false.2 ⟨u, ?_, by simp [h]⟩
  exact List.mem_of_getElem? (i := k) (by rw [List.getElem?_take_of_lt hk]; exact hu)
 simp only [voterAt, hv, this, Bool.and_false]
theorem wrongAt_neg {v : Voter} {xs : List Int} {k : Nat} {a : Int} (ha : v.votes[k]? = some a) (h : ¬ 0 ≤ a) : wrongAt v xs k = false := by
 simp only [wrongAt, ha]
 cases xs[k]? with
 | none => rfl
 | some c => simp [h]
theorem wrongAt_at {v : Voter} {xs : List Int} {k : Nat} {a c : Int} (ha : v.votes[k]? = some a) (hc : xs[k]? = some c) : wrongAt v xs k = (decide (0 ≤ a) && decide (a ≠ c)) := by simp only [wrongAt, ha, hc]
end Go.Pk
