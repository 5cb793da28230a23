/- RANGES OVER A STRING'S RUNES. -/
import Derived.Test.YtngmpkoobdkeiaaGreatDoorDraw
import Derived.Laws.Small
namespace Go.Pk
open Go Go.RowKit
section
variable {P : Program} {n : Nat} {ops : Array Oper} {rest : List Oper} {K : Env → World → Prop} {σ : Env} {w w0 : World} {h h0 : Heap} {own : Own} {ty : TypeId} {pos : String} {aft : Array Edge}
theorem OpsL.rangeS (st : St h0 w0 h w own) {t : TypeId} {x : Operand} {d : Nat} {s : Str} (hx : ev σ x = strV s) (ht : P.underlying t = some .string) (hd : Nat.blt d n = true)
    (hk : ∀ b w', St h0 w0 h w' (own ++ [[(b, .stringIter ⟨s.toArray⟩ 0)]]) → OpsL P n ops rest K (upd σ d (.pointer (some ⟨b, 0, none⟩))) w') : OpsL P n ops (⟨some d, .range t x, ty, pos, aft, none⟩ :: rest) K σ w := by
  refine OpsL.val rfl hd (v := .pointer (some ⟨w.heap.size, 0, none⟩)) (w' := w.alloc (.stringIter ⟨s.toArray⟩ 0)) ?_ (hk _ _ (st.alloc _))
  simp [execOp, hx, strV, Instr.range, run_underlying ht]
theorem OpsL.nextS (st : St h0 w0 h w own) {x : Operand} {d k b p : Nat} {s : Str} {c : UInt8} (hk : own[k]? = some [(b, .stringIter ⟨s.toArray⟩ p)]) (hx : ev σ x = .pointer (some ⟨b, 0, none⟩)) (hc : s[p]? = some c) (hd : Nat.blt d n = true)
    (hK : ∀ w', St h0 w0 h w' (own.set k [(b, .stringIter ⟨s.toArray⟩ (p + (Utf8.decode ⟨s.toArray⟩ p).2))]) → OpsL P n ops rest K (upd σ d (.tuple #[.bool true, .int .i64 (p : Int), .int .i32 ((Utf8.decode ⟨s.toArray⟩ p).1 : Int)])) w') : OpsL P n ops (⟨some d, .next x true, ty, pos, aft, none⟩ :: rest) K σ w := by
  have hb := st.get hk
  have hlt : p < s.length := (List.getElem?_eq_some_iff.1 hc).1
  refine OpsL.val rfl hd ?_ (hK _ (st.set _ hk))
  have hl : p < (⟨s.toArray⟩ : ByteArray).size := by simpa [ByteArray.size] using hlt
  simp [execOp, hx, Instr.next, getObj, setObj, Sem.run, hb, hl, goInt]
theorem OpsL.nextE (st : St h0 w0 h w own) {x : Operand} {d k b p : Nat} {s : Str} (hk : own[k]? = some [(b, .stringIter ⟨s.toArray⟩ p)]) (hx : ev σ x = .pointer (some ⟨b, 0, none⟩)) (hc : s.length ≤ p) (hd : Nat.blt d n = true)
    (hK : OpsL P n ops rest K (upd σ d (.tuple #[.bool false])) w) : OpsL P n ops (⟨some d, .next x true, ty, pos, aft, none⟩ :: rest) K σ w := by
  have hb := st.get hk
  refine OpsL.val rfl hd ?_ hK
  have hl : ¬ p < (⟨s.toArray⟩ : ByteArray).size := by simpa [ByteArray.size] using hc
  simp [execOp, hx, Instr.next, getObj, Sem.run, hb, hl]
end
theorem yielded_undef {n : Nat} {ops : Array Oper} {σ : Env} {a : Act} {g d : Nat} (ha : Fits n a σ) (hg : (ops[g]?).bind (·.dst) = some d) (hd : Nat.blt d n = true) (hv : σ d = undef) : yielded ops a.tmps g = none := by
  have hd' : d < a.tmps.size := by rw [ha.size]; exact Nat.le_of_ble_eq_true hd
  have h1 : a.tmps[d]? = some undef := by
    have := ha.at_ d
    rw [hv] at this
    simp only [Array.getD_eq_getD_getElem?] at this
    rw [Array.getElem?_eq_getElem hd'] at this ⊢
    simpa using this
  simp [yielded, hg, h1, undef]
theorem OpsL.skippedU {P : Program} {n : Nat} {ops : Array Oper} {rest : List Oper} {K : Env → World → Prop} {σ : Env} {w : World} {dst : Option Tmp} {op : Op} {type : TypeId} {pos : String} {after : Array Edge} {g d : Nat} {b : Bool}
    (hg : (ops[g]?).bind (·.dst) = some d) (hd : Nat.blt d n = true) (hv : σ d = undef) (hdst : dstOk n dst = true)
    (h : OpsL P n ops rest K (updO σ dst undef) w) : OpsL P n ops (⟨dst, op, type, pos, after, some (g, b)⟩ :: rest) K σ w := by
  intro a ha
  unfold wpList
  rw [if_neg (by simp [Region.wanted, yielded_undef ha hg hd hv])]
  exact h _ (ha.put hdst _)
theorem r_beql {P : Program} {σ : Env} {w : World} {ty : TypeId} {pos : String} {aft : Array Edge} {g : Option (Nat × Bool)} {dst : Option Tmp} {t t' : TypeId} {x y : Operand} {a b : Bool} (hx : ev σ x = .bool a) (hy : ev σ y = .bool b) (ht : P.underlying t = some .bool) : Run P σ w ⟨dst, .binOp .eql t x y t', ty, pos, aft, g⟩ (.bool (a == b)) w := by
  simp [Run, execOp, hx, hy, eqGuard, run_eql_bool _ _ _ _ ht]
/-- an element of an array behind a pointer -/
theorem r_index_arr {P : Program} {σ : Env} {w : World} {ty : TypeId} {pos : String} {aft : Array Edge} {g : Option (Nat × Bool)} {dst : Option Tmp} {t e : TypeId} {x ix : Operand} {b o m n k : Nat} {kd : IntKind} {i : Int} (hx : ev σ x = .pointer (some ⟨b, o, none⟩)) (hi : ev σ ix = .int kd i) (hk : i = (k : Int)) (hlt : Nat.blt k n = true)
    (hu : P.underlying t = some (.array n e)) (hz : ∀ w, (sizeOf e).run P w = .ok m w) : Run P σ w ⟨dst, .indexAddr t x ix, ty, pos, aft, g⟩ (.pointer (some ⟨b, o + k * m, none⟩)) w := by
  subst hk
  have h1 : k < n := Nat.le_of_ble_eq_true hlt
  have h2 : (k : Int) < (n : Int) := by omega
  simp [Run, execOp, hx, hi, Instr.indexAt, Instr.sureAddr, asIntOf, run_underlying hu, hz, h1, addr_add]
theorem decode_low {s : Str} {p : Nat} {c : UInt8} (hc : s[p]? = some c) (h : c.toNat < 128) : Utf8.decode ⟨s.toArray⟩ p = (c.toNat, 1) := by
  have e : (⟨s.toArray⟩ : ByteArray).get! (p + 0) = c := by
    obtain ⟨hl, e⟩ := List.getElem?_eq_some_iff.1 hc
    show s.toArray[p]! = c
    simp [hl, e]
  unfold Utf8.decode
  simp only [e]
  rw [if_pos h]
theorem decode_high {s : Str} {p : Nat} {c : UInt8} (hc : s[p]? = some c) (h : ¬ c.toNat < 128) : 128 ≤ (Utf8.decode ⟨s.toArray⟩ p).1 := by
  have e : (⟨s.toArray⟩ : ByteArray).get! (p + 0) = c := by
    obtain ⟨hl, e⟩ := List.getElem?_eq_some_iff.1 hc
    show s.toArray[p]! = c
    simp [hl, e]
  unfold Utf8.decode
  simp only [e]
  rw [if_neg h]
  have hr : (128 : Nat) ≤ Utf8.runeError := by decide
  split
  · split
    · assumption
    · exact hr
  · split
    · split
      · rename_i h1
        simp only [Bool.and_eq_true, decide_eq_true_eq] at h1
        exact Nat.le_trans (by decide) h1.1
      · exact hr
    · split
      · split
        · rename_i h1
          simp only [Bool.and_eq_true, decide_eq_true_eq] at h1
          exact Nat.le_trans (by decide) h1.1
        · exact hr
      · exact hr
end Go.Pk
