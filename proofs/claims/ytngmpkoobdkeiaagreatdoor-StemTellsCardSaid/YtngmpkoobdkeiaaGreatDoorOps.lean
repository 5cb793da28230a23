/- WHAT EACH OPERATION YIELDS, over an environment. -/
import Derived.Test.YtngmpkoobdkeiaaGreatDoorHeap
import Derived.IntWalk
import Derived.Deep.MidRow
import Derived.Great.BuildSlice
import Derived.Laws.Tables
import Derived.Laws.StructEq
import Derived.Laws.Entries
import Derived.Laws.Slices
import Derived.WalkLawsBesides
namespace Go.Pk
open Go Go.RowKit
section
variable {P : Program} {σ : Env} {w : World} {ty : TypeId} {pos : String} {aft : Array Edge} {g : Option (Nat × Bool)} {dst : Option Tmp}
abbrev Run (P : Program) (σ : Env) (w : World) (o : Oper) (v : Value) (w' : World) : Prop := (execOp (ev σ) o).run P w = .ok (.value v) w'
theorem r_move {x : Operand} {v : Value} (hv : ev σ x = v) : Run P σ w ⟨dst, .move x, ty, pos, aft, g⟩ v w := by subst hv; rfl
theorem r_assign {x : Operand} {v : Value} (hv : ev σ x = v) : Run P σ w ⟨dst, .assign x, ty, pos, aft, g⟩ v w := by subst hv; rfl
theorem r_pick {c a b : Operand} {t : Bool} {v : Value} (hc : ev σ c = .bool t) (hv : (bif t then ev σ a else ev σ b) = v) : Run P σ w ⟨dst, .pick c a b, ty, pos, aft, g⟩ v w := by
  subst hv
  cases t <;> simp [Run, execOp, hc, asBool]
theorem r_lss {t t' : TypeId} {x y : Operand} {k : IntKind} {a b : Int} (hx : ev σ x = .int k a) (hy : ev σ y = .int k b) : Run P σ w ⟨dst, .binOp .lss t x y t', ty, pos, aft, g⟩ (.bool (decide (a < b))) w := by
  simp [Run, execOp, hx, hy, eqGuard, binOp, Op.intCmp]
theorem r_leq {t t' : TypeId} {x y : Operand} {k : IntKind} {a b : Int} (hx : ev σ x = .int k a) (hy : ev σ y = .int k b) : Run P σ w ⟨dst, .binOp .leq t x y t', ty, pos, aft, g⟩ (.bool (decide (a ≤ b))) w := by
  simp [Run, execOp, hx, hy, eqGuard, binOp, Op.intCmp]
theorem r_gtr {t t' : TypeId} {x y : Operand} {k : IntKind} {a b : Int} (hx : ev σ x = .int k a) (hy : ev σ y = .int k b) : Run P σ w ⟨dst, .binOp .gtr t x y t', ty, pos, aft, g⟩ (.bool (decide (b < a))) w := by
  simp [Run, execOp, hx, hy, eqGuard, binOp, Op.intCmp]
theorem r_geq {t t' : TypeId} {x y : Operand} {k : IntKind} {a b : Int} (hx : ev σ x = .int k a) (hy : ev σ y = .int k b) : Run P σ w ⟨dst, .binOp .geq t x y t', ty, pos, aft, g⟩ (.bool (decide (b ≤ a))) w := by
  simp [Run, execOp, hx, hy, eqGuard, binOp, Op.intCmp]
theorem beq_int (a b : Int) : (a == b) = decide (a = b) := by
  by_cases h : a = b
  · subst h; simp
  · simp [h]
theorem r_eql {t t' : TypeId} {x y : Operand} {k : IntKind} {a b : Int} (hx : ev σ x = .int k a) (hy : ev σ y = .int k b) : Run P σ w ⟨dst, .binOp .eql t x y t', ty, pos, aft, g⟩ (.bool (decide (a = b))) w := by
  simp [Run, execOp, hx, hy, eqGuard, binOp, Op.intCmp, beq_int]
theorem r_neq {t t' : TypeId} {x y : Operand} {k : IntKind} {a b : Int} (hx : ev σ x = .int k a) (hy : ev σ y = .int k b) : Run P σ w ⟨dst, .binOp .neq t x y t', ty, pos, aft, g⟩ (.bool (decide (a ≠ b))) w := by
  simp [Run, execOp, hx, hy, eqGuard, binOp, Op.intCmp, beq_int, bne]
theorem r_add {t t' : TypeId} {x y : Operand} {a b : Int} (hx : ev σ x = .int .i64 a) (hy : ev σ y = .int .i64 b) (hb : -9223372036854775808 ≤ a + b ∧ a + b ≤ 9223372036854775807) : Run P σ w ⟨dst, .binOp .add t x y t', ty, pos, aft, g⟩ (.int .i64 (a + b)) w := by
  simp [Run, execOp, hx, hy, eqGuard, binOp, Op.intArith, IntWalk.i64_in _ hb]
theorem r_sub {t t' : TypeId} {x y : Operand} {a b : Int} (hx : ev σ x = .int .i64 a) (hy : ev σ y = .int .i64 b) (hb : -9223372036854775808 ≤ a - b ∧ a - b ≤ 9223372036854775807) : Run P σ w ⟨dst, .binOp .sub t x y t', ty, pos, aft, g⟩ (.int .i64 (a - b)) w := by
  simp [Run, execOp, hx, hy, eqGuard, binOp, Op.intArith, IntWalk.i64_in _ hb]
theorem r_mul {t t' : TypeId} {x y : Operand} {a b : Int} (hx : ev σ x = .int .i64 a) (hy : ev σ y = .int .i64 b) (hb : -9223372036854775808 ≤ a * b ∧ a * b ≤ 9223372036854775807) : Run P σ w ⟨dst, .binOp .mul t x y t', ty, pos, aft, g⟩ (.int .i64 (a * b)) w := by
  simp [Run, execOp, hx, hy, eqGuard, binOp, Op.intArith, IntWalk.i64_in _ hb]
theorem r_not {t : TypeId} {x : Operand} {b : Bool} (hx : ev σ x = .bool b) : Run P σ w ⟨dst, .unOp .not t x, ty, pos, aft, g⟩ (.bool (!b)) w := by
  simp [Run, execOp, hx, Op.unary]
theorem strV_toList (s : Str) : (⟨s.toArray⟩ : ByteArray).toList = s := by rw [ByteArray.toList_eq]
theorem beq_str (s t : Str) : (s == t) = decide (s = t) := by
  by_cases h : s = t
  · subst h; simp
  · simp [h]
theorem r_seql {t t' : TypeId} {x y : Operand} {a b : Str} (hx : ev σ x = strV a) (hy : ev σ y = strV b) : Run P σ w ⟨dst, .binOp .eql t x y t', ty, pos, aft, g⟩ (.bool (decide (a = b))) w := by
  simp only [strV] at hx hy
  simp [Run, execOp, hx, hy, eqGuard, binOp, Op.stringOp, beq_str]
theorem r_sneq {t t' : TypeId} {x y : Operand} {a b : Str} (hx : ev σ x = strV a) (hy : ev σ y = strV b) : Run P σ w ⟨dst, .binOp .neq t x y t', ty, pos, aft, g⟩ (.bool (decide (a ≠ b))) w := by
  simp only [strV] at hx hy
  simp [Run, execOp, hx, hy, eqGuard, binOp, Op.stringOp, beq_str]
theorem r_slss {t t' : TypeId} {x y : Operand} {a b : Str} (hx : ev σ x = strV a) (hy : ev σ y = strV b) : Run P σ w ⟨dst, .binOp .lss t x y t', ty, pos, aft, g⟩ (.bool (Op.bytesLess a b)) w := by
  simp only [strV] at hx hy
  simp [Run, execOp, hx, hy, eqGuard, binOp, Op.stringOp]
theorem r_sadd {t t' : TypeId} {x y : Operand} {a b : Str} (hx : ev σ x = strV a) (hy : ev σ y = strV b) (hl : a.length + b.length ≤ 9223372036854775807) : Run P σ w ⟨dst, .binOp .add t x y t', ty, pos, aft, g⟩ (strV (a ++ b)) w := by
  simp only [strV] at hx hy
  have h2 : (⟨a.toArray⟩ : ByteArray) ++ ⟨b.toArray⟩ = ⟨(a ++ b).toArray⟩ := by
    apply WideShapes.bytes_inj
    simp
  simp [Run, execOp, hx, hy, eqGuard, binOp, Op.stringOp, h2, strV, ByteArray.size]
  omega
theorem amap (f : Operand → Value) (xs : Array Operand) : xs.map f = (xs.toList.map f).toArray := by
  apply Array.ext'; simp
theorem run_bi {o : Oper} {b : Builtin} {args : Array Operand} {ats : Array TypeId} {vs : List Value} {v : Value} {w' : World} (ho : o.op = .call ⟨.builtin b, args, ats⟩) (hv : args.toList.map (ev σ) = vs)
    (hb : ∀ cs, (builtin b ats o.type cs vs.toArray).run P w = .ok (.value v) w') : Run P σ w o v w' := by
  subst hv
  unfold Run execOp
  simp only [ho, resolve, amap, Sem.run_bind, Sem.run_pure, Result.andThen_ok, invoke]
  exact hb _
theorem r_len_str {t : TypeId} {x : Operand} {s : Str} (hx : ev σ x = strV s) (hu : P.underlying t = some .string) :
    Run P σ w ⟨dst, .call ⟨.builtin .len, #[x], #[t]⟩, ty, pos, aft, g⟩ (.int .i64 s.length) w := by
  refine run_bi rfl (vs := [strV s]) (by simp [hx]) fun cs => ?_
  simp only [builtin, Sem.run_bind, Sem.run_pure, Result.andThen_ok, run_len_string w t ty _ hu, strV]
  simp [goInt, ByteArray.size]
theorem r_len_sl {t e : TypeId} {x : Operand} {a : Option Addr} {n c : Nat} (hx : ev σ x = .slice a n c) (hu : P.underlying t = some (.slice e)) :
    Run P σ w ⟨dst, .call ⟨.builtin .len, #[x], #[t]⟩, ty, pos, aft, g⟩ (.int .i64 n) w := by
  refine run_bi rfl (vs := [.slice a n c]) (by simp [hx]) fun cs => ?_
  have hu' : P.underlying t = some (.slice (P.elem t)) := by simp [Program.elem, hu]
  simp only [builtin, Sem.run_bind, Sem.run_pure, Result.andThen_ok, run_len_slice w t ty _ _ _ hu', goInt]
theorem r_len {α : Type} {L : Lay α} {h : Heap} {xs : List α} {v : Value} {t e : TypeId} {x : Operand} (hs : Sl L h v xs) (hx : ev σ x = v) (hu : P.underlying t = some (.slice e)) :
    Run P σ w ⟨dst, .call ⟨.builtin .len, #[x], #[t]⟩, ty, pos, aft, g⟩ (.int .i64 xs.length) w := by
  obtain ⟨p, c, rfl, _⟩ := hs
  exact r_len_sl hx hu
theorem r_index_str {t : TypeId} {x ix : Operand} {s : Str} {i : Int} {k : Nat} {b : UInt8} (hx : ev σ x = strV s) (hi : ev σ ix = .int .i64 i) (hk : i = (k : Int)) (hb : s[k]? = some b) (hu : P.underlying t = some .string) :
    Run P σ w ⟨dst, .index t x ix, ty, pos, aft, g⟩ (.int .u8 b.toNat) w := by
  subst hk
  simp only [strV] at hx
  have h1 : (({ data := s.toArray } : ByteArray)[k]? : Option UInt8) = some b := by
    obtain ⟨h1, h2⟩ := List.getElem?_eq_some_iff.1 hb
    have h3 : k < (⟨s.toArray⟩ : ByteArray).size := by simpa [ByteArray.size] using h1
    rw [getElem?_pos (⟨s.toArray⟩ : ByteArray) k h3]
    exact congrArg some (by simpa [ByteArray.getElem_eq_getElem_data] using h2)
  simp [Run, execOp, hx, hi, Instr.index, asIntOf, run_underlying hu, h1]
theorem r_field_addr {s : TypeId} {x : Operand} {k b off m : Nat} {fs : Array Field} {f : Field} (hx : ev σ x = .pointer (some ⟨b, off, none⟩)) (hu : P.underlying s = some (.struct fs)) (hf : fs[k]? = some f) (hz : ∀ w, (sizeOf f.type).run P w = .ok (m + 1) w) {off' : Nat} (ho : off + f.offset = off') :
    Run P σ w ⟨dst, .fieldAddr s x k, ty, pos, aft, g⟩ (.pointer (some ⟨b, off', none⟩)) w := by
  subst ho
  simp [Run, execOp, hx, Instr.fieldAt, run_underlying hu, hf, Instr.sureAddr, fieldPlace, hz, addr_add]
theorem r_load1 {t : TypeId} {x : Operand} {b off : Nat} {v : Value} (hx : ev σ x = .pointer (some ⟨b, off, none⟩)) (ha : ∀ w, (isAgg t).run P w = .ok false w) (hc : w.cell? ⟨b, off, none⟩ = some v) :
    Run P σ w ⟨dst, .load t x, ty, pos, aft, g⟩ v w := by
  simp [Run, execOp, hx, Instr.loadAt, Instr.sureAddr, loadVar, ha, hc]
theorem r_loadN {t : TypeId} {x : Operand} {b off n : Nat} {vs : List Value} (hx : ev σ x = .pointer (some ⟨b, off, none⟩)) (ha : ∀ w, (isAgg t).run P w = .ok true w) (hz : ∀ w, (sizeOf t).run P w = .ok n w) (hn : vs.length = n)
    (hc : ∀ j v, vs[j]? = some v → w.cell? ⟨b, off + j, none⟩ = some v) :
    Run P σ w ⟨dst, .load t x, ty, pos, aft, g⟩ (.agg vs.toArray) w := by
  subst hn
  have hl := run_loadCells_list (P := P) (w := w) ⟨b, off, none⟩ vs (fun j v hj => by rw [addr_add]; exact hc j v hj)
  simp [Run, execOp, hx, Instr.loadAt, Instr.sureAddr, loadVar, ha, hz, hl]
/-- a cell of something frozen -/
theorem r_load_cells1 {h : Heap} (hs : Sub h w) {t : TypeId} {x : Operand} {b off j : Nat} {vs : List Value} {v : Value} (hc : Cells h b off vs) {off' : Nat} (hx : ev σ x = .pointer (some ⟨b, off', none⟩)) (ho : off' = off + j) (hv : vs[j]? = some v) (ha : ∀ w, (isAgg t).run P w = .ok false w) :
    Run P σ w ⟨dst, .load t x, ty, pos, aft, g⟩ v w := by
  subst ho; exact r_load1 hx ha (hc.cell hs hv)
theorem r_load_cellsN {h : Heap} (hs : Sub h w) {t : TypeId} {x : Operand} {b off j n : Nat} {vs us : List Value} (hc : Cells h b off vs) {off' : Nat} (hx : ev σ x = .pointer (some ⟨b, off', none⟩)) (ho : off' = off + j) (ha : ∀ w, (isAgg t).run P w = .ok true w) (hz : ∀ w, (sizeOf t).run P w = .ok n w)
    (hu : (vs.drop j).take n = us) (hn : us.length = n) :
    Run P σ w ⟨dst, .load t x, ty, pos, aft, g⟩ (.agg us.toArray) w := by
  subst ho
  refine r_loadN hx ha hz hn ?_
  intro i v hi
  subst hu
  rw [Nat.add_assoc]
  refine hc.cell hs ?_
  rw [List.getElem?_take] at hi
  split at hi
  · rwa [List.getElem?_drop] at hi
  · cases hi
theorem r_index_addr {α : Type} {L : Lay α} {h : Heap} {xs : List α} {v : Value} {t e : TypeId} {x ix : Operand} {i : Int} {k : Nat} {y : α} (hs : Sl L h v xs) (hx : ev σ x = v) (hi : ev σ ix = .int .i64 i) (hk : i = (k : Int)) (hy : xs[k]? = some y)
    (hu : P.underlying t = some (.slice e)) (hz : ∀ w, (sizeOf e).run P w = .ok L.size w) {Z : Value → Prop}
    (hK : ∀ b off vs, Cells h b off vs → L.R h vs y → Z (.pointer (some ⟨b, off, none⟩))) : ∃ v, Run P σ w ⟨dst, .indexAddr t x ix, ty, pos, aft, g⟩ v w ∧ Z v := by
  obtain ⟨p, c, rfl, _, hh⟩ := hs
  rcases hh with rfl | ⟨b, off, rfl, hh⟩
  · simp at hy
  · obtain ⟨vs, hc, hr⟩ := hh k y hy
    refine ⟨_, ?_, hK b _ vs hc hr⟩
    obtain ⟨h1, _⟩ := List.getElem?_eq_some_iff.1 hy
    subst hk
    have h2 : (k : Int) < (xs.length : Int) := by omega
    simp [Run, execOp, hx, hi, Instr.indexAt, asIntOf, run_underlying hu, hz, h1, addr_add]
theorem r_extract {x : Operand} {k : Nat} {vs : List Value} {v : Value} (hx : ev σ x = .tuple vs.toArray) (hv : vs[k]? = some v) : Run P σ w ⟨dst, .extract x k, ty, pos, aft, g⟩ v w := by
  simp [Run, execOp, hx, Instr.extract, hv]
theorem r_slice_from {t : TypeId} {x lo : Operand} {s : Str} {i : Int} {k : Nat} (hx : ev σ x = strV s) (hi : ev σ lo = .int .i64 i) (hk : i = (k : Int)) (hle : k ≤ s.length) (hu : P.underlying t = some .string) :
    Run P σ w ⟨dst, .slice t x (some lo) none none, ty, pos, aft, g⟩ (strV (s.drop k)) w := by
  subst hk
  simp only [strV] at hx ⊢
  have h2 : (⟨s.toArray⟩ : ByteArray).extract k s.length = ⟨(s.drop k).toArray⟩ := by
    apply WideShapes.bytes_inj
    simp
    exact List.take_of_length_le (by simp)
  have := run_slice_string_l (P := P) (w := w) (t := t) (s := ⟨s.toArray⟩) hu .i64 k (by omega) (by simp [ByteArray.size]; exact hle)
  unfold Run execOp
  simp only [hx, hi, Option.map_some, Option.map_none, Sem.run_bind, run_sliceAt_string w t _ _ _ _ hu, this, Result.andThen_ok, Sem.run_pure]
  simp [ByteArray.size, h2]
theorem r_slice_to {t : TypeId} {x hi_ : Operand} {s : Str} {i : Int} {k : Nat} (hx : ev σ x = strV s) (hi : ev σ hi_ = .int .i64 i) (hk : i = (k : Int)) (hle : k ≤ s.length) (hu : P.underlying t = some .string) :
    Run P σ w ⟨dst, .slice t x none (some hi_) none, ty, pos, aft, g⟩ (strV (s.take k)) w := by
  subst hk
  simp only [strV] at hx ⊢
  have h2 : (⟨s.toArray⟩ : ByteArray).extract 0 k = ⟨(s.take k).toArray⟩ := by
    apply WideShapes.bytes_inj
    simp
  have := run_slice_string_h (P := P) (w := w) (t := t) (s := ⟨s.toArray⟩) hu .i64 k (by omega) (by simp [ByteArray.size]; exact hle)
  unfold Run execOp
  simp only [hx, hi, Option.map_some, Option.map_none, Sem.run_bind, run_sliceAt_string w t _ _ _ _ hu, this, Result.andThen_ok, Sem.run_pure]
  simp [h2]
theorem r_box {e : TypeId} {x : Operand} {v : Value} {cs : List Value} (hx : ev σ x = v) (hc : v.cells = cs.toArray) :
    Run P σ w ⟨dst, .box e x, ty, pos, aft, g⟩ (.pointer (some ⟨w.heap.size, 0, none⟩)) (w.alloc (.cells cs.toArray e)) := by
  simp [Run, execOp, hx, Instr.box, newVar, newRow, hc]
theorem r_alloc {e : TypeId} {z : Value} {cs : List Value} (hz : ∀ w, (zeroValue e).run P w = .ok z w) (hc : z.cells = cs.toArray) :
    Run P σ w ⟨dst, .alloc e, ty, pos, aft, g⟩ (.pointer (some ⟨w.heap.size, 0, none⟩)) (w.alloc (.cells cs.toArray e)) := by
  simp [Run, execOp, Instr.alloc, hz, newVar, newRow, hc]
theorem r_build {t : TypeId} {parts : Array (Nat × Operand)} {cs : List Value} (hb : P.built t (parts.toList.map fun p => (p.1, ev σ p.2)) = some cs.toArray) :
    Run P σ w ⟨dst, .build t parts, ty, pos, aft, g⟩ (.agg cs.toArray) w := by
  have := run_build (P := P) w t (parts.map fun p => (p.1, ev σ p.2)) cs.toArray (by rw [Array.toList_map]; exact hb)
  simp [Run, execOp, this]
theorem r_make_func {fn : Fn} {first captured : Array Operand} {fs cs : List Value} (hf : first.toList.map (ev σ) = fs) (hc : captured.toList.map (ev σ) = cs) :
    Run P σ w ⟨dst, .makeFunc fn first captured, ty, pos, aft, g⟩ (.func fn fs.toArray cs.toArray) w := by
  subst hf; subst hc
  simp [Run, execOp, Instr.makeFunc, amap]
theorem r_nil_check {x : Operand} {a : Addr} (hx : ev σ x = .pointer (some a)) : Run P σ w ⟨dst, .nilCheck x, ty, pos, aft, g⟩ (.pointer (some a)) w := by
  simp [Run, execOp, hx]
theorem r_conv_int {s d : TypeId} {x : Operand} {k k' : IntKind} {n m : Int} (hx : ev σ x = .int k n) (hs : (P.underlying s).isSome = true) (hu : P.underlying d = some (.int k')) (hm : k'.wrap n = m) :
    Run P σ w ⟨dst, .convert s d x, ty, pos, aft, g⟩ (.int k' m) w := by
  subst hm
  cases e : P.underlying s with
  | none => rw [e] at hs; cases hs
  | some ds => simp [Run, execOp, convert, run_underlying e, run_underlying hu, hx, Conv.intToInt]
end
/-- a call of a function by name -/
theorem run_call {P : Program} {σ : Env} {w : World} {o : Oper} {f : FuncId} {args : Array Operand} {ats : Array TypeId} {vs : List Value} (ho : o.op = .call ⟨.value (.func f), args, ats⟩) (hf : ∀ a w, (callFunc f a).run P w = .ok (.enter f a) w)
    (hv : args.toList.map (ev σ) = vs) : (execOp (ev σ) o).run P w = .ok (.enter f vs.toArray) w := by
  subst hv
  simp [execOp, ho, resolve, Deferred.ofValue, ev, invoke, hf, amap]
/-- a call of a function value -/
theorem run_call_value {P : Program} {σ : Env} {w : World} {o : Oper} {f : FuncId} {x : Operand} {fs cs : List Value} {args : Array Operand} {ats : Array TypeId} {vs : List Value} (ho : o.op = .call ⟨.value x, args, ats⟩) (hx : ev σ x = .func (.func f) fs.toArray cs.toArray) (hf : ∀ a w, (callFunc f a).run P w = .ok (.enter f a) w)
    (hv : fs ++ args.toList.map (ev σ) ++ cs = vs) : (execOp (ev σ) o).run P w = .ok (.enter f vs.toArray) w := by
  subst hv
  simp [execOp, ho, resolve, Deferred.ofValue, hx, invoke, hf, amap]
end Go.Pk
