/- A PART OF THE PROOF: contracts of functions, each walked once (much of it printed by a program of the author's own). -/
import Derived.Test.YtjdbapoodefncaaGreatDoorT1
import Derived.Laws.CopyRow
import Derived.Test.YtjdbapoodefncaaGreatDoorT0
import Derived.Laws.OwnMore
import Derived.DeepKeys5
import Derived.RangeFuncRecord
import Derived.RangeFuncIn
import Derived.RangeFuncLeaves
set_option linter.unusedSimpArgs false
set_option linter.unusedVariables false
set_option maxRecDepth 4000
namespace Go.Pk
open Go Go.RowKit
section
variable {α : Type} {L : Lay α} {T : TypeId} {h : Heap}
def vtake : Value → Nat → Value
 | .slice p _ c, k => .slice p k c
 | v, _ => v
def zfY (s : Nat) : Value → Nat → Value
 | .slice p n c, k => .slice (if c = k then p else p.map (·.add (k * s))) (n - k) (c - k)
 | v, _ => v
theorem Enc.take {cs : List Value} {xs : List α} (e : Enc L h cs xs) {k : Nat} (hk : k ≤ xs.length) : Enc L h (cs.take (k * L.size)) (xs.take k) := by
 have hle : k * L.size ≤ cs.length := by rw [e.1]; exact Nat.mul_le_mul_right _ hk
 refine ⟨by rw [List.length_take, List.length_take, Nat.min_eq_left hle, Nat.min_eq_left hk], fun i x hi => ?_⟩;have hik : i < k := by
  rw [List.getElem?_take] at hi;split at hi
  ·assumption
  ·cases hi
 rw [List.getElem?_take, if_pos hik] at hi;have hr := e.2 i x hi;have h1 : i * L.size + L.size ≤ k * L.size := by rw [← Nat.succ_mul]; exact Nat.mul_le_mul_right _ hik
 rw [List.drop_take, List.take_take, Nat.min_eq_left zr];exact hr
theorem Enc.drop {cs : List Value} {xs : List α} (e : Enc L h cs xs) (k : Nat) : Enc L h (cs.drop (k * L.size)) (xs.drop k) := by
 refine ⟨by rw [List.length_drop, List.length_drop, e.1, Nat.sub_mul], fun i x hi => ?_⟩;rw [List.getElem?_drop] at hi;have hr := e.2 _ x hi;rw [List.drop_drop, ← Nat.add_mul];exact hr
theorem Enc.set {cs vs : List Value} {xs : List α} {i : Nat} {y : α} (e : Enc L h cs xs) (hi : i < xs.length) (hr : L.R h vs y) : Enc L h (cs.take (i * L.size) ++ vs ++ cs.drop ((i + 1) * L.size)) (xs.set i y) := by
 rw [List.set_eq_take_append_cons_drop, if_pos hi];have h1 := ((e.take (Nat.le_of_lt hi)).append (Enc.one1 hr)).append (e.drop (i + 1));rw [List.append_assoc (xs.take i)] at h1;exact h1
theorem OSl.take {v : Value} {xs : List α} {o : List (Nat × Obj)} (e : OSl L T h v xs o) {k : Nat} (hk : k ≤ xs.length) : OSl L T h (vtake v k) (xs.take k) o := by
 obtain ⟨cs, e1, ⟨⟨p, rfl⟩, rfl, rfl⟩ | ⟨g, cap, cur, rfl, rfl, hnc, hcm, hsz, htk⟩⟩ := e
 ·have : k = 0 := by simpa using hk
  subst this;exact ⟨[], ⟨by simp, by simp⟩, .inl ⟨⟨p, rfl⟩, by simp, rfl⟩⟩
 have hl : (xs.take k).length = k := by rw [List.length_take, Nat.min_eq_left hk]
 refine ⟨_, e1.take hk, .inr ⟨g, cap, cur, by rw [hl]; rfl, rfl, by omega, hcm, hsz, ?_⟩⟩;rw [hl, ← htk, List.take_take, Nat.min_eq_left (Nat.mul_le_mul_right _ hk)]
theorem Elem.drop {v : Value} {k j s b o : Nat} (e : Elem v (k + j) s b o) (hc : ∀ p n c, v = .slice p n c → n ≤ c) : Elem (zfY s v k) j s b o := by
 obtain ⟨off, n, c, rfl, hlt, rfl⟩ := e;have := hc _ _ _ rfl;refine ⟨off + k * s, n - k, c - k, ?_, by omega, by rw [Nat.add_mul]; omega⟩;simp only [zfY];rw [if_neg zr];simp [zdA]
theorem Elem.drop' {v : Value} {k j m s b o : Nat} (e : Elem v m s b o) (hm : m = k + j) (hc : ∀ p n c, v = .slice p n c → n ≤ c) : Elem (zfY s v k) j s b o := by
 subst hm; exact e.drop hc
theorem OSl.caps {v : Value} {xs : List α} {o : List (Nat × Obj)} (e : OSl L T h v xs o) : ∀ p n c, v = .slice p n c → n ≤ c := by
 rintro p n c rfl;obtain ⟨cs, e1, ⟨⟨q, e2⟩, rfl, rfl⟩ | ⟨g, cap, cur, e2, rfl, hnc, hcm, hsz, htk⟩⟩ := e
 ·cases e2; exact Nat.le_refl _
 cases e2; exact hnc
theorem OSl.len {v : Value} {xs : List α} {o : List (Nat × Obj)} (e : OSl L T h v xs o) : ∀ p n c, v = .slice p n c → n = xs.length := by
 rintro p n c rfl;obtain ⟨q, c', e2⟩ := e.form;cases e2; rfl
end
section
variable {P : Program} {n : Nat} {ops : Array Oper} {rest : List Oper} {K : Env → World → Prop} {σ : Env} {w w0 : World} {h0 h : Heap} {own : Own} {ty : TypeId} {pos : String} {aft : Array Edge} {d : Nat} {dst : Option Tmp} {g : Option (Nat × Bool)}
theorem zie {α : Type} {L : Lay α} {T : TypeId} {xs : List α} {v : Value} {o : List (Nat × Obj)} {t e : TypeId} {x hi_ : Operand} {i : Int} {k m : Nat} (hO : OSl L T h v xs o) (hx : ev σ x = v) (hi : ev σ hi_ = .int .i64 i) (hk : i = (k : Int)) (hle : k ≤ xs.length) (hu : P.underlying t = some (.slice e)) (hz : ∀ w, (sizeOf e).run P w = .ok m w) :
  Run P σ w ⟨dst, .slice t x none (some hi_) none, ty, pos, aft, g⟩ (vtake v k) w := by
 subst hk;obtain ⟨p, c, rfl⟩ := hO.form;have hc := hO.caps _ _ _ rfl;have h1 : k ≤ c := by omega
 cases p <;> simp [Run, execOp, hx, hi, Instr.sliceAt, Instr.slice, run_underlying hu, Instr.sliceBounds, Instr.sliceBound, asIntOf, hz, h1, vtake];rename_i a;intro _;cases a;rfl
theorem zeA {α : Type} {L : Lay α} {T : TypeId} {xs : List α} {v : Value} {o : List (Nat × Obj)} {t e : TypeId} {x lo : Operand} {i : Int} {k m : Nat} (hO : OSl L T h v xs o) (hx : ev σ x = v) (hi : ev σ lo = .int .i64 i) (hk : i = (k : Int)) (hle : k ≤ xs.length) (hu : P.underlying t = some (.slice e)) (hz : ∀ w, (sizeOf e).run P w = .ok m w) :
  Run P σ w ⟨dst, .slice t x (some lo) none none, ty, pos, aft, g⟩ (zfY m v k) w := by
 subst hk;obtain ⟨p, c, rfl⟩ := hO.form;have h1 : k ≤ xs.length := hle;simp [Run, execOp, hx, hi, Instr.sliceAt, Instr.slice, run_underlying hu, Instr.sliceBounds, Instr.sliceBound, asIntOf, hz, h1, zfY]
theorem r_len_vdrop {v : Value} {t e : TypeId} {x : Operand} {s k len : Nat} (hx : ev σ x = zfY s v k) (hl : ∃ p c, v = .slice p len c) (hu : P.underlying t = some (.slice e)) :
  Run P σ w ⟨dst, .call ⟨.builtin .len, #[x], #[t]⟩, ty, pos, aft, g⟩ (.int .i64 ((len - k : Nat) : Int)) w := by
 obtain ⟨p, c, rfl⟩ := hl;exact r_len_sl hx hu
theorem spliced_split : ∀ (us pre : List Value) (cs : List Value), us.length ≤ cs.length → zgf (pre ++ cs) pre.length us = pre ++ us ++ cs.drop us.length
 | [], pre, cs, _ => by simp [zgf]
 | u :: us, pre, [], h => by simp at h
 | u :: us, pre, c :: cs, h => by
  have ih := spliced_split us (pre ++ [u]) cs (by simpa using h);simp only [List.length_append, List.length_cons, List.length_nil, Nat.zero_add] at ih;rw [zgf, List.set_append_right _ _ (Nat.le_refl _), Nat.sub_self, List.set_cons_zero];rw [show pre ++ u :: cs = pre ++ [u] ++ cs by simp, ih];simp
theorem spliced_eq' {cs us : List Value} {off : Nat} (h : off + us.length ≤ cs.length) : zgf cs off us = cs.take off ++ us ++ cs.drop (off + us.length) := by
 have h1 := spliced_split us (cs.take off) (cs.drop off) (by rw [List.length_drop]; omega);rw [List.take_append_drop, List.length_take, Nat.min_eq_left zr, List.drop_drop] at h1;exact h1
theorem zdn {α : Type} {L : Lay α} {T : TypeId} {v : Value} {xs : List α} {o : List (Nat × Obj)} {k i b off : Nat} {y0 : α} {u : Value} {t : TypeId} {x y : Operand} (st : St h0 w0 h w own) (hO : OSl L T h v xs o) (hk : own[k]? = some o) (hi : i < xs.length) (he : Elem v i L.size b off)
  (hx : ev σ x = .pointer (some ⟨b, off, none⟩)) (hy : ev σ y = u) (hR : L.R h [u] y0) (hz : ∀ w, (sizeOf t).run P w = .ok 1 w)
  (hK : ∀ o' w' own', own' = own.set k o' → OSl L T h v (xs.set i y0) o' → St h0 w0 h w' own' → OpsL P n ops rest K σ w') : OpsL P n ops (⟨none, .store t x y, ty, pos, aft, none⟩ :: rest) K σ w := by
 obtain ⟨cs, e1, ⟨⟨p, rfl⟩, rfl, rfl⟩ | ⟨gb, cap, cur, rfl, rfl, hnc, hcm, hsz, htk⟩⟩ := hO
 ·simp at hi
 ·obtain ⟨off0, n', c', e2, hlt, rfl⟩ := he;cases e2;have hul := L.len hR;have h1 : (i + 1) * L.size ≤ xs.length * L.size := Nat.mul_le_mul_right _ hi;have h2 : xs.length * L.size ≤ cap * L.size := Nat.mul_le_mul_right _ hnc;rw [Nat.succ_mul] at h1;have hcl : cur.toList.length = cap * L.size := by rw [Array.length_toList, hsz]
  have hs1 : L.size = 1 := by rw [← hul]; rfl
  have ho : (0 + i * L.size) + [u].length ≤ cur.toList.length := by rw [hcl]; have hul' : [u].length = L.size := hul; omega
  have hk' : own[k]? = some [(b, .cells cur.toList.toArray T)] := by simpa using hk
  have hsp := spliced_eq' ho;have hlen : (cur.toList.take (0 + i * L.size)).length = i * L.size := by rw [List.length_take, hcl]; omega
  have hlt' : 0 + i * L.size < cur.toList.length := by have h9 : [u].length = 1 := rfl; omega
  refine zaC st hk' hx hy (L.one hR u (by simp)) hz (by simpa using hlt') rfl rfl fun w' st' => ?_;refine hK _ _ _ rfl ⟨_, e1.set hi hR, .inr ⟨b, cap, _, by rw [List.length_set], rfl, by rw [List.length_set]; exact hnc, hcm, ?_, ?_⟩⟩ st'
  ·simp [hsz]
  ·have hset : cur.toList.set (0 + i * L.size) u = cur.toList.take (0 + i * L.size) ++ [u] ++ cur.toList.drop (0 + i * L.size + [u].length) := by
    rw [← hsp]; rfl
   rw [List.length_set, ← htk];have e3 : (i + 1) * L.size = i * L.size + L.size := Nat.succ_mul _ _;rw [List.take_take, Nat.min_eq_left zr, e3, List.drop_take];have hul' : [u].length = L.size := hul;show (cur.toList.set (0 + i * L.size) u).take (xs.length * L.size) = _;rw [hset, List.take_append, List.take_of_length_le (l := cur.toList.take (0 + i * L.size) ++ [u]) (by rw [List.length_append, hlen]; omega), List.length_append, hlen, hul', Nat.zero_add]
def vsub (s : Nat) : Value → Nat → Nat → Value
 | .slice p _ c, l, m => .slice (if c = l then p else p.map (·.add (l * s))) (m - l) (c - l)
 | v, _, _ => v
theorem set_same {own : Own} {k : Nat} {o : List (Nat × Obj)} (hk : own[k]? = some o) : own.set k o = own := by
 apply List.ext_getElem?;intro q;rw [List.getElem?_set];split
 ·rename_i e4; subst e4;split
  ·exact hk.symm
  ·rename_i h5; rw [List.getElem?_eq_none zr]
 rfl
theorem OpsL.clearSub {α : Type} {L : Lay α} {T : TypeId} {v : Value} {xs : List α} {o : List (Nat × Obj)} {k l m : Nat} {t e : TypeId} {z : Value} {x : Operand} (st : St h0 w0 h w own) (hO : OSl L T h v xs o) (hk : own[k]? = some o) (hlm : l ≤ m) (hmc : ∀ p n c, v = .slice p n c → m ≤ c)
  (hx : ev σ x = vsub L.size v l m) (ht : P.underlying t = some (.slice e)) (hz : ∀ w, (zeroValue e).run P w = .ok z w) (hzs : z.cells.size = L.size) (hz1 : ∀ u ∈ z.cells.toList, u.oneCell' = true)
  (hK : ∀ o' w' own', own' = own.set k o' → (∀ j, j ≤ l → j ≤ xs.length → OSl L T h (vtake v j) (xs.take j) o') → St h0 w0 h w' own' → OpsL P n ops rest K σ w') : OpsL P n ops (⟨none, .call ⟨.builtin .clear, #[x], #[t]⟩, ty, pos, aft, none⟩ :: rest) K σ w := by
 have hset := set_same hk;have run (v' : Value) (w' : World) (hv : vsub L.size v l m = v') (hr : (Builtin.clear_ #[t] ty #[v']).run P w = .ok (.tuple #[]) w') : Run P σ w ⟨none, .call ⟨.builtin .clear, #[x], #[t]⟩, ty, pos, aft, none⟩ (.tuple #[]) w' := by
  refine run_bi rfl (vs := [v']) (by simp [hx, hv]) fun cs => ?_;simp only [builtin, Sem.run_bind, hr, Result.andThen_ok, Sem.run_pure]
 obtain ⟨cs, e1, ⟨⟨p, rfl⟩, rfl, rfl⟩ | ⟨gb, cap, cur, rfl, rfl, hnc, hcm, hsz, htk⟩⟩ := hO
 ·have hm0 : m - l = 0 := by have := hmc _ _ _ rfl; omega
  refine zj rfl rfl (run _ w rfl ?_) (hK [] w _ rfl (fun j _ hj => ?_) (by rw [hset]; exact st))
  ·simp only [vsub, hm0];split <;> cases p <;> simp [Builtin.clear_, run_underlying ht]
  ·have : j = 0 := by simpa using hj
   subst this;exact ⟨[], ⟨by simp, by simp⟩, .inl ⟨⟨p, rfl⟩, by simp, rfl⟩⟩
 ·have hmc := hmc _ _ _ rfl;have hcl : cur.toList.length = cap * L.size := by rw [Array.length_toList, hsz]
  have fin : ∀ (cur' : Array Value) w', cur'.size = cap * L.size → cur'.toList.take (l * L.size) = cur.toList.take (l * L.size) → St h0 w0 h w' (own.set k [(gb, .cells cur' T)]) → OpsL P n ops rest K σ w' := by
   intro cur' w' h1 h2 s;refine hK _ w' _ rfl (fun j hjl hj => ⟨_, e1.take hj, .inr ⟨gb, cap, cur', ?_, rfl, ?_, hcm, h1, ?_⟩⟩) s
   ·rw [List.length_take, Nat.min_eq_left hj]; rfl
   ·rw [List.length_take, Nat.min_eq_left hj]; omega
   ·have h3 := congrArg (List.take (j * L.size)) h2;rw [List.take_take, List.take_take, Nat.min_eq_left (Nat.mul_le_mul_right _ hjl)] at h3;rw [List.length_take, Nat.min_eq_left hj, h3, ← htk, List.take_take, Nat.min_eq_left (Nat.mul_le_mul_right _ hj)]
  by_cases h0 : m - l = 0
  ·refine zj rfl rfl (run _ w rfl ?_) (fin cur w hsz rfl (by rw [hset]; exact st));simp only [vsub, h0];split <;> simp [Builtin.clear_, run_underlying ht]
  ·have hgw := st.get hk;have hfit : l * L.size + (List.length (Builtin.zeroCells z.cells (m - l)).toList) ≤ cur.size := by
    rw [Array.length_toList, size_zeroCells, hzs, hsz];have h2 : (l + (m - l)) * L.size ≤ cap * L.size := Nat.mul_le_mul_right _ zr;rw [Nat.add_mul] at h2;exact h2
   have hst := run_storeCells_at P gb (l * L.size) T (Builtin.zeroCells z.cells (m - l)).toList 0 cur w hgw (by simpa using hfit) ?_
   ·simp only [Nat.add_zero] at hst;refine zj rfl rfl (run (.slice ((some (⟨gb, 0, none⟩ : Addr)).map (·.add (l * L.size))) (m - l) (cap - l)) (w.setRow gb (cur.toList.take (l * L.size) ++ (Builtin.zeroCells z.cells (m - l)).toList ++ cur.toList.drop (l * L.size + (Builtin.zeroCells z.cells (m - l)).toList.length)).toArray) (by simp only [vsub]; rw [if_neg (by omega : ¬ cap = l)]) ?_) (fin (cur.toList.take (l * L.size) ++ (Builtin.zeroCells z.cells (m - l)).toList ++ cur.toList.drop (l * L.size + (Builtin.zeroCells z.cells (m - l)).toList.length)).toArray _ ?_ ?_ ?_)
    ·obtain ⟨q, hm⟩ : ∃ q, m - l = q + 1 := ⟨m - l - 1, by omega⟩;rw [hm] at hst;simp [Builtin.clear_, run_underlying ht, hm, hz, zdA, hst]
    ·rw [List.size_toArray, List.length_append, List.length_append, List.length_take, List.length_drop, hcl];omega
    ·rw [List.append_assoc, List.take_append, List.length_take, hcl];rw [List.take_take, Nat.min_self, show l * L.size - min (l * L.size) (cap * L.size) = 0 by have := Nat.mul_le_mul_right L.size (show l ≤ cap by omega); omega, List.take_zero, List.append_nil]
    ·have := st.set (.cells (cur.toList.take (l * L.size) ++ (Builtin.zeroCells z.cells (m - l)).toList ++ cur.toList.drop (l * L.size + (Builtin.zeroCells z.cells (m - l)).toList.length)).toArray T) hk;refine this.same ?_ rfl rfl rfl (Nat.le_refl _);apply Array.ext_getElem?;intro q;have hlt := zcC hgw
     by_cases ej : q = gb
     ·subst ej;rw [setRow_heap w _ cur _ T _ hgw]; simp [hlt]
     ·rw [setRow_other w gb q _ ej]; simp [Ne.symm ej]
   ·intro u hu;refine hz1 u ?_;simp only [Builtin.zeroCells, Array.toList_map, List.mem_map] at hu;obtain ⟨q, hq, rfl⟩ := hu;have hq2 : q < (m - l) * z.cells.size := by simpa using hq
    have hpos : 0 < z.cells.size := by
     rcases Nat.eq_zero_or_pos z.cells.size with e0 | e0
     ·rw [e0] at hq2; omega
     ·exact e0
    have hm := Nat.mod_lt q hpos;rw [getElem!_pos z.cells _ hm];exact Array.getElem_mem_toList hm
theorem zir {α : Type} {L : Lay α} {T : TypeId} {v : Value} {xs : List α} {o : List (Nat × Obj)} {k j : Nat} {t e : TypeId} {z : Value} {x : Operand} (st : St h0 w0 h w own) (hO : OSl L T h v xs o) (hk : own[k]? = some o) (hj : j ≤ xs.length)
  (hx : ev σ x = zfY L.size v j) (ht : P.underlying t = some (.slice e)) (hz : ∀ w, (zeroValue e).run P w = .ok z w) (hzs : z.cells.size = L.size) (hz1 : ∀ u ∈ z.cells.toList, u.oneCell' = true)
  (hK : ∀ o' w' own', own' = own.set k o' → OSl L T h (vtake v j) (xs.take j) o' → St h0 w0 h w' own' → OpsL P n ops rest K σ w') : OpsL P n ops (⟨none, .call ⟨.builtin .clear, #[x], #[t]⟩, ty, pos, aft, none⟩ :: rest) K σ w := by
 obtain ⟨p, c, rfl⟩ := hO.form;refine OpsL.clearSub (l := j) (m := xs.length) st hO hk hj (fun p n c e => ?_) hx ht hz hzs hz1 (fun o' w' own' e1 f s => hK o' w' own' e1 (f j (Nat.le_refl _) hj) s);have := hO.len _ _ _ e; have := hO.caps _ _ _ e; omega
theorem Sl.ofCells {α : Type} {L : Lay α} {b off : Nat} {cs : List Value} {xs : List α} (hc : Cells h b off cs) (hE : Enc L h cs xs) (hb : xs.length ≤ big) : Sl L h (.slice (some ⟨b, off, none⟩) xs.length xs.length) xs := by
 refine ⟨_, xs.length, rfl, ⟨hb, Nat.le_refl _⟩, .inr ⟨b, off, rfl, fun i x hi => ⟨_, ?_, hE.2 i x hi⟩⟩⟩;obtain ⟨row, T, fr, hb, hh⟩ := hc;refine ⟨row, T, fr, hb, fun j u hj => ?_⟩;rw [List.getElem?_take] at hj;split at hj
 ·rw [List.getElem?_drop] at hj;have := hh _ _ hj;rw [Nat.add_assoc]; exact this
 cases hj
theorem r_slice_arr {b off len m : Nat} {t e : TypeId} {x : Operand} (hx : ev σ x = .pointer (some ⟨b, off, none⟩)) (hu : P.underlying t = some (.array len e)) (hz : ∀ w, (sizeOf e).run P w = .ok m w) :
  Run P σ w ⟨dst, .slice t x none none none, ty, pos, aft, g⟩ (.slice (some ⟨b, off, none⟩) len len) w := by
 by_cases h : len = 0 <;> simp [Run, execOp, hx, Instr.sliceAt, run_underlying hu, Instr.sliceBounds, hz, Instr.sureAddr, zdA, h]
theorem r_fieldN {s : TypeId} {x : Operand} {k m : Nat} {fs : Array Field} {f : Field} {vs us : List Value} (hx : ev σ x = .agg vs.toArray) (hu : P.underlying s = some (.struct fs)) (hf : fs[k]? = some f) (ha : ∀ w, (isAgg f.type).run P w = .ok true w) (hz : ∀ w, (sizeOf f.type).run P w = .ok m w) (hv : (vs.drop f.offset).take m = us) (hl : us.length = m) :
  Run P σ w ⟨dst, .field s x k, ty, pos, aft, g⟩ (.agg us.toArray) w := by
 subst hv;simp [Run, execOp, hx, Instr.field, run_underlying hu, hf, asAgg, part, ha, hz]
theorem zcH {fn : Func} {P : Program} {R : Ending → World → Prop} {a b n u : Nat} {t : TypeId} {σ : Env} {w : World} {cs : List Value} {T : TypeId} (hr : fn.results = #[.cell a t, .tmp u]) (hp : σ a = .pointer (some ⟨b, 0, none⟩)) (ha : ∀ w, (isAgg t).run P w = .ok true w) (hz : ∀ w, (sizeOf t).run P w = .ok n w) (hn : cs.length = n)
  (hb : w.heap[b]? = some (.cells cs.toArray T)) (h : R (.returned (.tuple #[.agg cs.toArray, σ u])) w) : Post fn P R .ret σ w := by
 intro tmps ht;refine ⟨_, ?_, h⟩;subst hn;have hl := run_loadCells_list (P := P) (w := w) ⟨b, 0, none⟩ cs (fun j v hj => by rw [zdA]; simp [World.cell?, hb, hj]);have hp' : tmps.getD a undef = .pointer (some ⟨b, 0, none⟩) := by rw [ht, hp]
 have hu := ht u;simp only [Array.getD_eq_getD_getElem?] at hp' hu;simp [results, hr, hp', hu, asAddr, loadVar, ha, hz, hl]
theorem Post.retcell2F {fn : Func} {P : Program} {R : Ending → World → Prop} {a b n u : Nat} {t : TypeId} {σ : Env} {w : World} {cs : List Value} {h : Heap} (hr : fn.results = #[.cell a t, .tmp u]) (hp : σ a = .pointer (some ⟨b, 0, none⟩)) (ha : ∀ w, (isAgg t).run P w = .ok true w) (hz : ∀ w, (sizeOf t).run P w = .ok n w) (hn : cs.length = n)
  (hs : Sub h w) (hb : Cells h b 0 cs) (hR : R (.returned (.tuple #[.agg cs.toArray, σ u])) w) : Post fn P R .ret σ w := by
 intro tmps ht;refine ⟨_, ?_, hR⟩;subst hn;have hl := run_loadCells_list (P := P) (w := w) ⟨b, 0, none⟩ cs (fun j v hj => by rw [zdA]; exact hb.cell hs hj);have hp' : tmps.getD a undef = .pointer (some ⟨b, 0, none⟩) := by rw [ht, hp]
 have hu := ht u;simp only [Array.getD_eq_getD_getElem?] at hp' hu;simp [results, hr, hp', hu, asAddr, loadVar, ha, hz, hl]
end
theorem OpsQ.skippedU {P : Program} {n : Nat} {ops : Array Oper} {C : World → Prop} {rest : List Oper} {K : Env → Prop} {σ : Env} {dst : Option Tmp} {op : Op} {type : TypeId} {pos : String} {after : Array Edge} {g d : Nat} {b : Bool}
  (hg : (ops[g]?).bind (·.dst) = some d) (hd : Nat.blt d n = true) (hv : σ d = undef) (hdst : zfw n dst = true)
  (h : OpsQ P n ops C rest K (updO σ dst undef)) : OpsQ P n ops C (⟨dst, op, type, pos, after, some (g, b)⟩ :: rest) K σ := by
 intro a ha;unfold wpQuiet;rw [if_neg (by simp [Region.wanted, yielded_undef ha hg hd hv])];exact h _ (ha.put hdst _)
theorem OSl.whole {α : Type} {L : Lay α} {T : TypeId} {h0 h : Heap} {w0 w : World} {own : Own} {k : Nat} {v : Value} {xs : List α} {o : List (Nat × Obj)} (st : St h0 w0 h w own) (e : OSl L T h v xs o) (hk : own[k]? = some o) (hb : xs.length ≤ 281474976710656) : Le h (zfc w) ∧ Sl L (zfc w) v xs := by
 have hle : Le h (zfc w) := fun b o hb => st.sub b o hb;refine ⟨hle, ?_⟩;obtain ⟨cs, e1, ⟨⟨p, rfl⟩, rfl, rfl⟩ | ⟨g, cap, cur, rfl, rfl, hnc, _, hsz, htk⟩⟩ := e
 ·exact ⟨p, 0, rfl, ⟨Nat.zero_le _, Nat.zero_le _⟩, .inl rfl⟩
 have hg := st.get hk;refine ⟨_, cap, rfl, ⟨hb, hnc⟩, .inr ⟨g, 0, rfl, fun i x hi => ⟨_, ⟨cur, T, _, hg, fun j u hj => ?_⟩, L.up (e1.2 i x hi) hle⟩⟩⟩;have hjl : j < L.size := by
  rw [List.getElem?_take] at hj;split at hj
  ·assumption
  ·cases hj
 rw [List.getElem?_take, if_pos hjl, List.getElem?_drop, ← htk, List.getElem?_take] at hj;split at hj
 ·rw [Nat.zero_add]; simpa using hj
 cases hj
theorem St.thaw {h h' : Heap} {w w' : World} (s : St (zfc w) w h' w' []) (hs : Sub h w) : St h w h w' [] :=
 ⟨Le.refl h, fun _ _ => rfl, fun b o hb => s.sub b o (s.le b o (hs b o hb)), s.below, by simp, by simp⟩
theorem Sl.take {α : Type} {L : Lay α} {h : Heap} {v : Value} {xs : List α} (e : Sl L h v xs) {k : Nat} (hk : k ≤ xs.length) : Sl L h (vtake v k) (xs.take k) := by
 obtain ⟨p, c, rfl, ⟨hb, hc⟩, hh⟩ := e;have hl : (xs.take k).length = k := by rw [List.length_take, Nat.min_eq_left hk]
 refine ⟨p, c, by rw [hl]; rfl, ⟨by omega, by omega⟩, ?_⟩
 rcases hh with rfl | ⟨b, off, rfl, hh⟩
 ·exact .inl (by simp)
 refine .inr ⟨b, off, rfl, fun i x hi => hh i x ?_⟩;rw [List.getElem?_take] at hi;split at hi
 ·exact hi
 cases hi
theorem Sl.drop {α : Type} {L : Lay α} {h : Heap} {v : Value} {xs : List α} (e : Sl L h v xs) {k : Nat} (hk : k ≤ xs.length) : Sl L h (zfY L.size v k) (xs.drop k) := by
 obtain ⟨p, c, rfl, ⟨hb, hc⟩, hh⟩ := e;have hl : (xs.drop k).length = xs.length - k := List.length_drop;refine ⟨_, _, by rw [hl]; rfl, ⟨by omega, by omega⟩, ?_⟩
 rcases hh with rfl | ⟨b, off, rfl, hh⟩
 ·exact .inl (by simp)
 by_cases h1 : c = k
 ·exact .inl (List.drop_eq_nil_of_le zr)
 rw [if_neg h1];refine .inr ⟨b, off + k * L.size, by simp [zdA], fun i x hi => ?_⟩;rw [List.getElem?_drop] at hi;obtain ⟨vs, h2, h3⟩ := hh _ x hi;refine ⟨vs, ?_, h3⟩;rw [Nat.add_assoc, ← Nat.add_mul]; exact h2
theorem Sl.caps {α : Type} {L : Lay α} {h : Heap} {v : Value} {xs : List α} (e : Sl L h v xs) : ∀ p n c, v = .slice p n c → n ≤ c := by
 rintro p n c rfl;obtain ⟨q, c', e2, ⟨_, hc⟩, _⟩ := e;cases e2; exact hc
theorem r_slice_to_sl {P : Program} {σ : Env} {w : World} {ty : TypeId} {pos : String} {aft : Array Edge} {dst : Option Tmp} {g : Option (Nat × Bool)} {α : Type} {L : Lay α} {h : Heap} {xs : List α} {v : Value} {t e : TypeId} {x hi_ : Operand} {i : Int} {k m : Nat} (hO : Sl L h v xs) (hx : ev σ x = v) (hi : ev σ hi_ = .int .i64 i) (hk : i = (k : Int)) (hle : k ≤ xs.length) (hu : P.underlying t = some (.slice e)) (hz : ∀ w, (sizeOf e).run P w = .ok m w) :
  Run P σ w ⟨dst, .slice t x none (some hi_) none, ty, pos, aft, g⟩ (vtake v k) w := by
 subst hk;obtain ⟨p, c, rfl⟩ := hO.form;have hc := hO.caps _ _ _ rfl;have h1 : k ≤ c := by omega
 cases p <;> simp [Run, execOp, hx, hi, Instr.sliceAt, Instr.slice, run_underlying hu, Instr.sliceBounds, Instr.sliceBound, asIntOf, hz, h1, vtake];rename_i a;intro _;cases a;rfl
theorem r_slice_from_sl {P : Program} {σ : Env} {w : World} {ty : TypeId} {pos : String} {aft : Array Edge} {dst : Option Tmp} {g : Option (Nat × Bool)} {α : Type} {L : Lay α} {h : Heap} {xs : List α} {v : Value} {t e : TypeId} {x lo : Operand} {i : Int} {k m : Nat} (hO : Sl L h v xs) (hx : ev σ x = v) (hi : ev σ lo = .int .i64 i) (hk : i = (k : Int)) (hle : k ≤ xs.length) (hu : P.underlying t = some (.slice e)) (hz : ∀ w, (sizeOf e).run P w = .ok m w) :
  Run P σ w ⟨dst, .slice t x (some lo) none none, ty, pos, aft, g⟩ (zfY m v k) w := by
 subst hk;obtain ⟨p, c, rfl⟩ := hO.form;have h1 : k ≤ xs.length := hle;simp [Run, execOp, hx, hi, Instr.sliceAt, Instr.slice, run_underlying hu, Instr.sliceBounds, Instr.sliceBound, asIntOf, hz, h1, zfY]
end Go.Pk

namespace Go.Pk
open Go Go.RowKit
theorem X {α : Sort _} {a : α} : a = a := rfl
theorem za {p : Prop} (h : p := by kernel_rfl) : p := h
theorem zbp {p : Prop} (h : p := by first | assumption | (simp [big]; done) | (simp [big]; omega) | omega) : p := h
theorem zes {p : Prop} (h : p := by first | assumption | decide | omega | (dsimp only; omega) | (simp; omega)) : p := h
theorem zaN {p : Prop} (h : p := by first | omega | (simp; omega)) : p := h
theorem zar {p : Prop} (h : p := by repeat (first | exact Agree.mix _ _ _ | exact Agree.refl _ _ | refine Agree.updO rfl ?_ | refine Agree.upd rfl ?_ | refine Agree.known rfl ?_ | refine Agree.sub rfl ?_)) : p := h
theorem zaX {p : Prop} (h : p := by first | omega | simp | trivial) : p := h
theorem zjj {p : Prop} [Decidable p] (h : decide p = false) : ¬ p := of_decide_eq_false h
theorem zhw {p : Prop} [Decidable p] (h : decide p = true) : p := of_decide_eq_true h
theorem zbu {α : Type} {l : List α} {k : Nat} (h : k < l.length) : ∃ y, l[k]? = some y := ⟨_, List.getElem?_eq_getElem h⟩
def zbY (a n : Nat) : List Nat := List.range' a n
theorem zbl {h : Heap} {w : World} (hs : Sub h w) : St h w h w [] := St.start hs
theorem zD {P : Program} {n : Nat} {Q : Exit → Env → World → Prop} {σ : Env} {w : World} {c : Operand} {x y : Code} {p : Prop} [Decidable p] (hc : ev σ c = .bool (decide p)) (ht : p → W P n x Q σ w) (hf : ¬ p → W P n y Q σ w) : W P n (.cond c x y) Q σ w := zag hc (fun h => ht (of_decide_eq_true h)) (fun h => hf (of_decide_eq_false h))
theorem zae {P : Program} {n : Nat} {ops : Array Oper} {K : Env → World → Prop} {σ : Env} {w : World} {l : List Oper} {d : Nat} {p : Prop} [Decidable p] (hv : σ d = .bool (decide p)) (h1 : p → OpsL P n ops l K (upd σ d (.bool true)) w) (h2 : ¬ p → OpsL P n ops l K (upd σ d (.bool false)) w) : OpsL P n ops l K σ w := zay hv (fun h => h1 (of_decide_eq_true h)) (fun h => h2 (of_decide_eq_false h))
theorem ziG {P : Program} {n : Nat} {ops : Array Oper} {C : World → Prop} {K : Env → Prop} {σ : Env} {l : List Oper} {d : Nat} {p : Prop} [Decidable p] (hv : σ d = .bool (decide p)) (h1 : p → OpsQ P n ops C l K (upd σ d (.bool true))) (h2 : ¬ p → OpsQ P n ops C l K (upd σ d (.bool false))) : OpsQ P n ops C l K σ := zgq hv (fun h => h1 (of_decide_eq_true h)) (fun h => h2 (of_decide_eq_false h))
section
variable {P : Program} {n : Nat} {ops : Array Oper} {rest : List Oper} {K : Env → World → Prop} {C : World → Prop} {σ : Env} {w : World} {ty : TypeId} {pos : String} {aft : Array Edge} {d : Nat}
theorem zf {Q : Exit → Env → World → Prop} {id : Nat} {l : List Oper} {y : Code} (h : OpsL P n l.toArray l (fun σ w => Then (W P n y Q) Q .normal σ w) σ w) : W P n (.seq (.region id l.toArray false) y) Q σ w := zm (zn h)
theorem Y {Q : Exit → Env → World → Prop} {K' : Env → World → Prop} (h : K' σ w) : OpsL P n ops [] (fun σ w => Then K' Q .normal σ w) σ w := zq (E h)
end
section
variable {P : Program} {nT : Nat} {opT : Array Oper} {rsT : List Oper} {KT : Env → World → Prop} {CT : World → Prop} {σ : Env} {w : World} {ty : TypeId} {pos : String} {aft : Array Edge} {dT : Nat}

theorem zaF {t t' : TypeId} {x y : Operand} {a b : Int} (hx : ev σ x = .int .i64 a) (hy : ev σ y = .int .i64 b) (hb : -9223372036854775808 ≤ a + b ∧ a + b ≤ 9223372036854775807) (hdT : Nat.blt dT nT = true) (hKT : OpsL P nT opT rsT KT (upd σ dT (.int .i64 (a + b))) w) : OpsL P nT opT (⟨some dT, .binOp .add t x y t', ty, pos, aft, none⟩ :: rsT) KT σ w := zj rfl hdT (ziT hx hy hb) hKT
theorem zH {x : Operand} {a : Bool} (hv : ev σ x = .bool a) (hdT : Nat.blt dT nT = true) (hKT : OpsL P nT opT rsT KT (upd σ dT (.bool a)) w) : OpsL P nT opT (⟨some dT, .assign x, ty, pos, aft, none⟩ :: rsT) KT σ w := zj rfl hdT (r_asB hv) hKT
theorem u_asB {KT : Env → Prop} {x : Operand} {a : Bool} (hv : ev σ x = .bool a) (hdT : Nat.blt dT nT = true) (hKT : OpsQ P nT opT CT rsT KT (upd σ dT (.bool a))) : OpsQ P nT opT CT (⟨some dT, .assign x, ty, pos, aft, none⟩ :: rsT) KT σ := zG rfl hdT (fun _ _ => r_asB hv) hKT
theorem zt {x : Operand} {k : IntKind} {a : Int} (hv : ev σ x = .int k a) (hdT : Nat.blt dT nT = true) (hKT : OpsL P nT opT rsT KT (upd σ dT (.int k a)) w) : OpsL P nT opT (⟨some dT, .assign x, ty, pos, aft, none⟩ :: rsT) KT σ w := zj rfl hdT (r_asI hv) hKT
theorem u_asI {KT : Env → Prop} {x : Operand} {k : IntKind} {a : Int} (hv : ev σ x = .int k a) (hdT : Nat.blt dT nT = true) (hKT : OpsQ P nT opT CT rsT KT (upd σ dT (.int k a))) : OpsQ P nT opT CT (⟨some dT, .assign x, ty, pos, aft, none⟩ :: rsT) KT σ := zG rfl hdT (fun _ _ => r_asI hv) hKT
theorem zcP {x : Operand} {a : Option Addr} {m c : Nat} (hv : ev σ x = .slice a m c) (hdT : Nat.blt dT nT = true) (hKT : OpsL P nT opT rsT KT (upd σ dT (.slice a m c)) w) : OpsL P nT opT (⟨some dT, .assign x, ty, pos, aft, none⟩ :: rsT) KT σ w := zj rfl hdT (r_asL hv) hKT
theorem v_asP {x : Operand} {a : Option Addr} (hv : ev σ x = .pointer a) (hdT : Nat.blt dT nT = true) (hKT : OpsL P nT opT rsT KT (upd σ dT (.pointer a)) w) : OpsL P nT opT (⟨some dT, .assign x, ty, pos, aft, none⟩ :: rsT) KT σ w := zj rfl hdT (r_asP hv) hKT
theorem zfS {x : Operand} {a : Str} (hv : ev σ x = zP a) (hdT : Nat.blt dT nT = true) (hKT : OpsL P nT opT rsT KT (upd σ dT (zP a)) w) : OpsL P nT opT (⟨some dT, .assign x, ty, pos, aft, none⟩ :: rsT) KT σ w := zj rfl hdT (r_asS hv) hKT
theorem u_asS {KT : Env → Prop} {x : Operand} {a : Str} (hv : ev σ x = zP a) (hdT : Nat.blt dT nT = true) (hKT : OpsQ P nT opT CT rsT KT (upd σ dT (zP a))) : OpsQ P nT opT CT (⟨some dT, .assign x, ty, pos, aft, none⟩ :: rsT) KT σ := zG rfl hdT (fun _ _ => r_asS hv) hKT
theorem zah {x : Operand} {v : Value} (hv : ev σ x = v) (hdT : Nat.blt dT nT = true) (hKT : OpsL P nT opT rsT KT (upd σ dT v) w) : OpsL P nT opT (⟨some dT, .assign x, ty, pos, aft, none⟩ :: rsT) KT σ w := zj rfl hdT (zhy hv) hKT
theorem u_assign {KT : Env → Prop} {x : Operand} {v : Value} (hv : ev σ x = v) (hdT : Nat.blt dT nT = true) (hKT : OpsQ P nT opT CT rsT KT (upd σ dT v)) : OpsQ P nT opT CT (⟨some dT, .assign x, ty, pos, aft, none⟩ :: rsT) KT σ := zG rfl hdT (fun _ _ => zhy hv) hKT
theorem zdk {t t' : TypeId} {x y : Operand} {k : IntKind} {a b : Int} (hx : ev σ x = .int k a) (hy : ev σ y = .int k b) (hdT : Nat.blt dT nT = true) (hKT : OpsL P nT opT rsT KT (upd σ dT (.bool (decide (a = b)))) w) : OpsL P nT opT (⟨some dT, .binOp .eql t x y t', ty, pos, aft, none⟩ :: rsT) KT σ w := zj rfl hdT (r_eql hx hy) hKT
theorem u_eql {KT : Env → Prop} {t t' : TypeId} {x y : Operand} {k : IntKind} {a b : Int} (hx : ev σ x = .int k a) (hy : ev σ y = .int k b) (hdT : Nat.blt dT nT = true) (hKT : OpsQ P nT opT CT rsT KT (upd σ dT (.bool (decide (a = b))))) : OpsQ P nT opT CT (⟨some dT, .binOp .eql t x y t', ty, pos, aft, none⟩ :: rsT) KT σ := zG rfl hdT (fun _ _ => r_eql hx hy) hKT
theorem zU {x : Operand} {k : Nat} {vs : List Value} {v : Value} (hx : ev σ x = .tuple vs.toArray) (hv : vs[k]? = some v) (hdT : Nat.blt dT nT = true) (hKT : OpsL P nT opT rsT KT (upd σ dT v) w) : OpsL P nT opT (⟨some dT, .extract x k, ty, pos, aft, none⟩ :: rsT) KT σ w := zj rfl hdT (r_extract hx hv) hKT
theorem u_extract {KT : Env → Prop} {x : Operand} {k : Nat} {vs : List Value} {v : Value} (hx : ev σ x = .tuple vs.toArray) (hv : vs[k]? = some v) (hdT : Nat.blt dT nT = true) (hKT : OpsQ P nT opT CT rsT KT (upd σ dT v)) : OpsQ P nT opT CT (⟨some dT, .extract x k, ty, pos, aft, none⟩ :: rsT) KT σ := zG rfl hdT (fun _ _ => r_extract hx hv) hKT
theorem U {s : TypeId} {x : Operand} {k b off m : Nat} {fs : Array Field} {f : Field} (hx : ev σ x = .pointer (some ⟨b, off, none⟩)) (hu : P.underlying s = some (.struct fs)) (hf : fs[k]? = some f) (hz : ∀ w, (sizeOf f.type).run P w = .ok (m + 1) w) {off' : Nat} (ho : off + f.offset = off') (hdT : Nat.blt dT nT = true) (hKT : OpsL P nT opT rsT KT (upd σ dT (.pointer (some ⟨b, off', none⟩))) w) : OpsL P nT opT (⟨some dT, .fieldAddr s x k, ty, pos, aft, none⟩ :: rsT) KT σ w := zj rfl hdT (zC hx hu hf hz ho) hKT
theorem zZ {KT : Env → Prop} {s : TypeId} {x : Operand} {k b off m : Nat} {fs : Array Field} {f : Field} (hx : ev σ x = .pointer (some ⟨b, off, none⟩)) (hu : P.underlying s = some (.struct fs)) (hf : fs[k]? = some f) (hz : ∀ w, (sizeOf f.type).run P w = .ok (m + 1) w) {off' : Nat} (ho : off + f.offset = off') (hdT : Nat.blt dT nT = true) (hKT : OpsQ P nT opT CT rsT KT (upd σ dT (.pointer (some ⟨b, off', none⟩)))) : OpsQ P nT opT CT (⟨some dT, .fieldAddr s x k, ty, pos, aft, none⟩ :: rsT) KT σ := zG rfl hdT (fun _ _ => zC hx hu hf hz ho) hKT
theorem zgY {t t' : TypeId} {x y : Operand} {k : IntKind} {a b : Int} (hx : ev σ x = .int k a) (hy : ev σ y = .int k b) (hdT : Nat.blt dT nT = true) (hKT : OpsL P nT opT rsT KT (upd σ dT (.bool (decide (b ≤ a)))) w) : OpsL P nT opT (⟨some dT, .binOp .geq t x y t', ty, pos, aft, none⟩ :: rsT) KT σ w := zj rfl hdT (r_geq hx hy) hKT
theorem u_geq {KT : Env → Prop} {t t' : TypeId} {x y : Operand} {k : IntKind} {a b : Int} (hx : ev σ x = .int k a) (hy : ev σ y = .int k b) (hdT : Nat.blt dT nT = true) (hKT : OpsQ P nT opT CT rsT KT (upd σ dT (.bool (decide (b ≤ a))))) : OpsQ P nT opT CT (⟨some dT, .binOp .geq t x y t', ty, pos, aft, none⟩ :: rsT) KT σ := zG rfl hdT (fun _ _ => r_geq hx hy) hKT
theorem zdy {t t' : TypeId} {x y : Operand} {k : IntKind} {a b : Int} (hx : ev σ x = .int k a) (hy : ev σ y = .int k b) (hdT : Nat.blt dT nT = true) (hKT : OpsL P nT opT rsT KT (upd σ dT (.bool (decide (b < a)))) w) : OpsL P nT opT (⟨some dT, .binOp .gtr t x y t', ty, pos, aft, none⟩ :: rsT) KT σ w := zj rfl hdT (r_gtr hx hy) hKT
theorem u_gtr {KT : Env → Prop} {t t' : TypeId} {x y : Operand} {k : IntKind} {a b : Int} (hx : ev σ x = .int k a) (hy : ev σ y = .int k b) (hdT : Nat.blt dT nT = true) (hKT : OpsQ P nT opT CT rsT KT (upd σ dT (.bool (decide (b < a))))) : OpsQ P nT opT CT (⟨some dT, .binOp .gtr t x y t', ty, pos, aft, none⟩ :: rsT) KT σ := zG rfl hdT (fun _ _ => r_gtr hx hy) hKT
theorem zS {v : Value} {t e : TypeId} {x ix : Operand} {i : Int} {k s b o : Nat} (he : Elem v k s b o) (hx : ev σ x = v) (hi : ev σ ix = .int .i64 i) (hk : i = (k : Int)) (hu : P.underlying t = some (.slice e)) (hz : ∀ w, (sizeOf e).run P w = .ok s w) (hdT : Nat.blt dT nT = true) (hKT : OpsL P nT opT rsT KT (upd σ dT (.pointer (some ⟨b, o, none⟩))) w) : OpsL P nT opT (⟨some dT, .indexAddr t x ix, ty, pos, aft, none⟩ :: rsT) KT σ w := zj rfl hdT (zas he hx hi hk hu hz) hKT
theorem zcd {KT : Env → Prop} {v : Value} {t e : TypeId} {x ix : Operand} {i : Int} {k s b o : Nat} (he : Elem v k s b o) (hx : ev σ x = v) (hi : ev σ ix = .int .i64 i) (hk : i = (k : Int)) (hu : P.underlying t = some (.slice e)) (hz : ∀ w, (sizeOf e).run P w = .ok s w) (hdT : Nat.blt dT nT = true) (hKT : OpsQ P nT opT CT rsT KT (upd σ dT (.pointer (some ⟨b, o, none⟩)))) : OpsQ P nT opT CT (⟨some dT, .indexAddr t x ix, ty, pos, aft, none⟩ :: rsT) KT σ := zG rfl hdT (fun _ _ => zas he hx hi hk hu hz) hKT
theorem zaK {α : Type} {L : Lay α} {h : Heap} {xs : List α} {v : Value} {t e : TypeId} {x : Operand} (hs : Sl L h v xs) (hx : ev σ x = v) (hu : P.underlying t = some (.slice e)) (hdT : Nat.blt dT nT = true) (hKT : OpsL P nT opT rsT KT (upd σ dT (.int .i64 xs.length)) w) : OpsL P nT opT (⟨some dT, .call ⟨.builtin .len, #[x], #[t]⟩, ty, pos, aft, none⟩ :: rsT) KT σ w := zj rfl hdT (zix hs hx hu) hKT
theorem u_len {KT : Env → Prop} {α : Type} {L : Lay α} {h : Heap} {xs : List α} {v : Value} {t e : TypeId} {x : Operand} (hs : Sl L h v xs) (hx : ev σ x = v) (hu : P.underlying t = some (.slice e)) (hdT : Nat.blt dT nT = true) (hKT : OpsQ P nT opT CT rsT KT (upd σ dT (.int .i64 xs.length))) : OpsQ P nT opT CT (⟨some dT, .call ⟨.builtin .len, #[x], #[t]⟩, ty, pos, aft, none⟩ :: rsT) KT σ := zG rfl hdT (fun _ _ => zix hs hx hu) hKT
theorem zfE {h : Heap} {α : Type} {L : Lay α} {T : TypeId} {xs : List α} {v : Value} {o : List (Nat × Obj)} {t e : TypeId} {x : Operand} (hs : OSl L T h v xs o) (hx : ev σ x = v) (hu : P.underlying t = some (.slice e)) (hdT : Nat.blt dT nT = true) (hKT : OpsL P nT opT rsT KT (upd σ dT (.int .i64 xs.length)) w) : OpsL P nT opT (⟨some dT, .call ⟨.builtin .len, #[x], #[t]⟩, ty, pos, aft, none⟩ :: rsT) KT σ w := zj rfl hdT (r_len_own hs hx hu) hKT
theorem zcA {t : TypeId} {x : Operand} {s : Str} (hx : ev σ x = zP s) (hu : P.underlying t = some .string) (hdT : Nat.blt dT nT = true) (hKT : OpsL P nT opT rsT KT (upd σ dT (.int .i64 s.length)) w) : OpsL P nT opT (⟨some dT, .call ⟨.builtin .len, #[x], #[t]⟩, ty, pos, aft, none⟩ :: rsT) KT σ w := zj rfl hdT (r_len_str hx hu) hKT
theorem zbK {b off : Nat} {cs : List Value} {T : TypeId} {fr : Nat × Nat} {v : Value} {t : TypeId} {x : Operand} (hb : w.heap[b]? = some (.cells cs.toArray T fr)) (hx : ev σ x = .pointer (some ⟨b, off, none⟩)) (hv : cs[off]? = some v) (ha : ∀ w, (isAgg t).run P w = .ok false w) (hdT : Nat.blt dT nT = true) (hKT : OpsL P nT opT rsT KT (upd σ dT v) w) : OpsL P nT opT (⟨some dT, .load t x, ty, pos, aft, none⟩ :: rsT) KT σ w := zj rfl hdT (r_load_b1 hb hx hv ha) hKT
theorem zcj {b m : Nat} {cs : List Value} {T : TypeId} {fr : Nat × Nat} {t : TypeId} {x : Operand} (hb : w.heap[b]? = some (.cells cs.toArray T fr)) (hx : ev σ x = .pointer (some ⟨b, 0, none⟩)) (ha : ∀ w, (isAgg t).run P w = .ok true w) (hz : ∀ w, (sizeOf t).run P w = .ok m w) (hn : cs.length = m) (hdT : Nat.blt dT nT = true) (hKT : OpsL P nT opT rsT KT (upd σ dT (.agg cs.toArray)) w) : OpsL P nT opT (⟨some dT, .load t x, ty, pos, aft, none⟩ :: rsT) KT σ w := zj rfl hdT (r_load_ball hb hx ha hz hn) hKT
theorem zA {h : Heap} (hs : Sub h w) {t : TypeId} {x : Operand} {b o m : Nat} {vs : List Value} (hc : Cells h b o vs) (hx : ev σ x = .pointer (some ⟨b, o, none⟩)) (ha : ∀ w, (isAgg t).run P w = .ok true w) (hz : ∀ w, (sizeOf t).run P w = .ok m w) (hn : vs.length = m) (hdT : Nat.blt dT nT = true) (hKT : OpsL P nT opT rsT KT (upd σ dT (.agg vs.toArray)) w) : OpsL P nT opT (⟨some dT, .load t x, ty, pos, aft, none⟩ :: rsT) KT σ w := zj rfl hdT (zaG hs hc hx ha hz hn) hKT
theorem M {h : Heap} (hs : Sub h w) {t : TypeId} {x : Operand} {b off j : Nat} {vs : List Value} {v : Value} (hc : Cells h b off vs) {off' : Nat} (hx : ev σ x = .pointer (some ⟨b, off', none⟩)) (ho : off' = off + j) (hv : vs[j]? = some v) (ha : ∀ w, (isAgg t).run P w = .ok false w) (hdT : Nat.blt dT nT = true) (hKT : OpsL P nT opT rsT KT (upd σ dT v) w) : OpsL P nT opT (⟨some dT, .load t x, ty, pos, aft, none⟩ :: rsT) KT σ w := zj rfl hdT (zh hs hc hx ho hv ha) hKT
theorem zal {h : Heap} (hs : Sub h w) {t : TypeId} {x : Operand} {b off j n : Nat} {vs us : List Value} (hc : Cells h b off vs) {off' : Nat} (hx : ev σ x = .pointer (some ⟨b, off', none⟩)) (ho : off' = off + j) (ha : ∀ w, (isAgg t).run P w = .ok true w) (hz : ∀ w, (sizeOf t).run P w = .ok n w) (hu : (vs.drop j).take n = us) (hn : us.length = n) (hdT : Nat.blt dT nT = true) (hKT : OpsL P nT opT rsT KT (upd σ dT (.agg us.toArray)) w) : OpsL P nT opT (⟨some dT, .load t x, ty, pos, aft, none⟩ :: rsT) KT σ w := zj rfl hdT (zcG hs hc hx ho ha hz hu hn) hKT
theorem zaW {t t' : TypeId} {x y : Operand} {k : IntKind} {a b : Int} (hx : ev σ x = .int k a) (hy : ev σ y = .int k b) (hdT : Nat.blt dT nT = true) (hKT : OpsL P nT opT rsT KT (upd σ dT (.bool (decide (a < b)))) w) : OpsL P nT opT (⟨some dT, .binOp .lss t x y t', ty, pos, aft, none⟩ :: rsT) KT σ w := zj rfl hdT (r_lss hx hy) hKT
theorem u_lss {KT : Env → Prop} {t t' : TypeId} {x y : Operand} {k : IntKind} {a b : Int} (hx : ev σ x = .int k a) (hy : ev σ y = .int k b) (hdT : Nat.blt dT nT = true) (hKT : OpsQ P nT opT CT rsT KT (upd σ dT (.bool (decide (a < b))))) : OpsQ P nT opT CT (⟨some dT, .binOp .lss t x y t', ty, pos, aft, none⟩ :: rsT) KT σ := zG rfl hdT (fun _ _ => r_lss hx hy) hKT
theorem zcS {fn : Fn} {first captured : Array Operand} {fs cs : List Value} (hf : first.toList.map (ev σ) = fs) (hc : captured.toList.map (ev σ) = cs) (hdT : Nat.blt dT nT = true) (hKT : OpsL P nT opT rsT KT (upd σ dT (.func fn fs.toArray cs.toArray)) w) : OpsL P nT opT (⟨some dT, .makeFunc fn first captured, ty, pos, aft, none⟩ :: rsT) KT σ w := zj rfl hdT (r_make_func hf hc) hKT
theorem zR {x : Operand} {v : Value} (hv : ev σ x = v) (hdT : Nat.blt dT nT = true) (hKT : OpsL P nT opT rsT KT (upd σ dT v) w) : OpsL P nT opT (⟨some dT, .move x, ty, pos, aft, none⟩ :: rsT) KT σ w := zj rfl hdT (zej hv) hKT
theorem zgj {KT : Env → Prop} {x : Operand} {v : Value} (hv : ev σ x = v) (hdT : Nat.blt dT nT = true) (hKT : OpsQ P nT opT CT rsT KT (upd σ dT v)) : OpsQ P nT opT CT (⟨some dT, .move x, ty, pos, aft, none⟩ :: rsT) KT σ := zG rfl hdT (fun _ _ => zej hv) hKT
theorem zaa {x : Operand} {a : Bool} (hv : ev σ x = .bool a) (hdT : Nat.blt dT nT = true) (hKT : OpsL P nT opT rsT KT (upd σ dT (.bool a)) w) : OpsL P nT opT (⟨some dT, .move x, ty, pos, aft, none⟩ :: rsT) KT σ w := zj rfl hdT (zfh hv) hKT
theorem ziv {KT : Env → Prop} {x : Operand} {a : Bool} (hv : ev σ x = .bool a) (hdT : Nat.blt dT nT = true) (hKT : OpsQ P nT opT CT rsT KT (upd σ dT (.bool a))) : OpsQ P nT opT CT (⟨some dT, .move x, ty, pos, aft, none⟩ :: rsT) KT σ := zG rfl hdT (fun _ _ => zfh hv) hKT
theorem zhv {x : Operand} {f : Fn} {a c : Array Value} (hv : ev σ x = .func f a c) (hdT : Nat.blt dT nT = true) (hKT : OpsL P nT opT rsT KT (upd σ dT (.func f a c)) w) : OpsL P nT opT (⟨some dT, .move x, ty, pos, aft, none⟩ :: rsT) KT σ w := zj rfl hdT (r_mvF hv) hKT
theorem zi {x : Operand} {k : IntKind} {a : Int} (hv : ev σ x = .int k a) (hdT : Nat.blt dT nT = true) (hKT : OpsL P nT opT rsT KT (upd σ dT (.int k a)) w) : OpsL P nT opT (⟨some dT, .move x, ty, pos, aft, none⟩ :: rsT) KT σ w := zj rfl hdT (zeH hv) hKT
theorem zdo {KT : Env → Prop} {x : Operand} {k : IntKind} {a : Int} (hv : ev σ x = .int k a) (hdT : Nat.blt dT nT = true) (hKT : OpsQ P nT opT CT rsT KT (upd σ dT (.int k a))) : OpsQ P nT opT CT (⟨some dT, .move x, ty, pos, aft, none⟩ :: rsT) KT σ := zG rfl hdT (fun _ _ => zeH hv) hKT
theorem v_mvP {x : Operand} {a : Option Addr} (hv : ev σ x = .pointer a) (hdT : Nat.blt dT nT = true) (hKT : OpsL P nT opT rsT KT (upd σ dT (.pointer a)) w) : OpsL P nT opT (⟨some dT, .move x, ty, pos, aft, none⟩ :: rsT) KT σ w := zj rfl hdT (r_mvP hv) hKT
theorem u_mvP {KT : Env → Prop} {x : Operand} {a : Option Addr} (hv : ev σ x = .pointer a) (hdT : Nat.blt dT nT = true) (hKT : OpsQ P nT opT CT rsT KT (upd σ dT (.pointer a))) : OpsQ P nT opT CT (⟨some dT, .move x, ty, pos, aft, none⟩ :: rsT) KT σ := zG rfl hdT (fun _ _ => r_mvP hv) hKT
theorem zcs {x : Operand} {a : Str} (hv : ev σ x = zP a) (hdT : Nat.blt dT nT = true) (hKT : OpsL P nT opT rsT KT (upd σ dT (zP a)) w) : OpsL P nT opT (⟨some dT, .move x, ty, pos, aft, none⟩ :: rsT) KT σ w := zj rfl hdT (r_mvS hv) hKT
theorem zcR {x : Operand} {a : List Value} (hv : ev σ x = .tuple a.toArray) (hdT : Nat.blt dT nT = true) (hKT : OpsL P nT opT rsT KT (upd σ dT (.tuple a.toArray)) w) : OpsL P nT opT (⟨some dT, .move x, ty, pos, aft, none⟩ :: rsT) KT σ w := zj rfl hdT (r_mvT hv) hKT
theorem u_mvT {KT : Env → Prop} {x : Operand} {a : List Value} (hv : ev σ x = .tuple a.toArray) (hdT : Nat.blt dT nT = true) (hKT : OpsQ P nT opT CT rsT KT (upd σ dT (.tuple a.toArray))) : OpsQ P nT opT CT (⟨some dT, .move x, ty, pos, aft, none⟩ :: rsT) KT σ := zG rfl hdT (fun _ _ => r_mvT hv) hKT
theorem zcL {t t' : TypeId} {x y : Operand} {k : IntKind} {a b : Int} (hx : ev σ x = .int k a) (hy : ev σ y = .int k b) (hdT : Nat.blt dT nT = true) (hKT : OpsL P nT opT rsT KT (upd σ dT (.bool (decide (a ≠ b)))) w) : OpsL P nT opT (⟨some dT, .binOp .neq t x y t', ty, pos, aft, none⟩ :: rsT) KT σ w := zj rfl hdT (r_neq hx hy) hKT
theorem u_neq {KT : Env → Prop} {t t' : TypeId} {x y : Operand} {k : IntKind} {a b : Int} (hx : ev σ x = .int k a) (hy : ev σ y = .int k b) (hdT : Nat.blt dT nT = true) (hKT : OpsQ P nT opT CT rsT KT (upd σ dT (.bool (decide (a ≠ b))))) : OpsQ P nT opT CT (⟨some dT, .binOp .neq t x y t', ty, pos, aft, none⟩ :: rsT) KT σ := zG rfl hdT (fun _ _ => r_neq hx hy) hKT
theorem zby {t : TypeId} {x : Operand} {b : Bool} (hx : ev σ x = .bool b) (hdT : Nat.blt dT nT = true) (hKT : OpsL P nT opT rsT KT (upd σ dT (.bool (!b))) w) : OpsL P nT opT (⟨some dT, .unOp .not t x, ty, pos, aft, none⟩ :: rsT) KT σ w := zj rfl hdT (r_not hx) hKT
theorem u_not {KT : Env → Prop} {t : TypeId} {x : Operand} {b : Bool} (hx : ev σ x = .bool b) (hdT : Nat.blt dT nT = true) (hKT : OpsQ P nT opT CT rsT KT (upd σ dT (.bool (!b)))) : OpsQ P nT opT CT (⟨some dT, .unOp .not t x, ty, pos, aft, none⟩ :: rsT) KT σ := zG rfl hdT (fun _ _ => r_not hx) hKT
theorem zT {c a b : Operand} {v : Value} (hc : ev σ c = .bool false) (hv : ev σ b = v) (hdT : Nat.blt dT nT = true) (hKT : OpsL P nT opT rsT KT (upd σ dT v) w) : OpsL P nT opT (⟨some dT, .pick c a b, ty, pos, aft, none⟩ :: rsT) KT σ w := zj rfl hdT (zgg hc hv) hKT
theorem zff {KT : Env → Prop} {c a b : Operand} {v : Value} (hc : ev σ c = .bool false) (hv : ev σ b = v) (hdT : Nat.blt dT nT = true) (hKT : OpsQ P nT opT CT rsT KT (upd σ dT v)) : OpsQ P nT opT CT (⟨some dT, .pick c a b, ty, pos, aft, none⟩ :: rsT) KT σ := zG rfl hdT (fun _ _ => zgg hc hv) hKT
theorem zX {c a b : Operand} {v : Value} (hc : ev σ c = .bool true) (hv : ev σ a = v) (hdT : Nat.blt dT nT = true) (hKT : OpsL P nT opT rsT KT (upd σ dT v) w) : OpsL P nT opT (⟨some dT, .pick c a b, ty, pos, aft, none⟩ :: rsT) KT σ w := zj rfl hdT (zhR hc hv) hKT
theorem zge {KT : Env → Prop} {c a b : Operand} {v : Value} (hc : ev σ c = .bool true) (hv : ev σ a = v) (hdT : Nat.blt dT nT = true) (hKT : OpsQ P nT opT CT rsT KT (upd σ dT v)) : OpsQ P nT opT CT (⟨some dT, .pick c a b, ty, pos, aft, none⟩ :: rsT) KT σ := zG rfl hdT (fun _ _ => zhR hc hv) hKT
theorem v_seql {t t' : TypeId} {x y : Operand} {a b : Str} (hx : ev σ x = zP a) (hy : ev σ y = zP b) (hdT : Nat.blt dT nT = true) (hKT : OpsL P nT opT rsT KT (upd σ dT (.bool (decide (a = b)))) w) : OpsL P nT opT (⟨some dT, .binOp .eql t x y t', ty, pos, aft, none⟩ :: rsT) KT σ w := zj rfl hdT (r_seql hx hy) hKT
theorem u_seql {KT : Env → Prop} {t t' : TypeId} {x y : Operand} {a b : Str} (hx : ev σ x = zP a) (hy : ev σ y = zP b) (hdT : Nat.blt dT nT = true) (hKT : OpsQ P nT opT CT rsT KT (upd σ dT (.bool (decide (a = b))))) : OpsQ P nT opT CT (⟨some dT, .binOp .eql t x y t', ty, pos, aft, none⟩ :: rsT) KT σ := zG rfl hdT (fun _ _ => r_seql hx hy) hKT
theorem ziO {t t' : TypeId} {x y : Operand} {a b : Int} (hx : ev σ x = .int .i64 a) (hy : ev σ y = .int .i64 b) (hb : -9223372036854775808 ≤ a - b ∧ a - b ≤ 9223372036854775807) (hdT : Nat.blt dT nT = true) (hKT : OpsL P nT opT rsT KT (upd σ dT (.int .i64 (a - b))) w) : OpsL P nT opT (⟨some dT, .binOp .sub t x y t', ty, pos, aft, none⟩ :: rsT) KT σ w := zj rfl hdT (r_sub hx hy hb) hKT
theorem u_sub {KT : Env → Prop} {t t' : TypeId} {x y : Operand} {a b : Int} (hx : ev σ x = .int .i64 a) (hy : ev σ y = .int .i64 b) (hb : -9223372036854775808 ≤ a - b ∧ a - b ≤ 9223372036854775807) (hdT : Nat.blt dT nT = true) (hKT : OpsQ P nT opT CT rsT KT (upd σ dT (.int .i64 (a - b)))) : OpsQ P nT opT CT (⟨some dT, .binOp .sub t x y t', ty, pos, aft, none⟩ :: rsT) KT σ := zG rfl hdT (fun _ _ => r_sub hx hy hb) hKT
end
end Go.Pk

namespace Go.Pk
open Go Go.RowKit
theorem Le.t {h1 h2 h3 : Heap} (a : Le h1 h2) (b : Le h2 h3) : Le h1 h3 := a.trans b
def skE (n : Nat) (ops : Array Oper) : Nat → List Oper → Env → Option (List Oper × Env)
 | 0, l, σ => some (l, σ)
 | k + 1, ⟨d, _, _, _, _, some (g, b)⟩ :: l, σ => match (ops[g]?).bind (·.dst) with
  | some q => match Nat.blt q n, zfw n d, σ q with
   | true, true, .bool c => bif c == b then none else skE n ops k l (updO σ d undef)
   | true, true, .tuple ⟨[]⟩ => skE n ops k l (updO σ d undef)
   | _, _, _ => none
  | none => none
 | _ + 1, _, _ => none
theorem skE_ind {n : Nat} {ops : Array Oper} {G : List Oper → Env → Prop}
  (h1 : ∀ d op t p a g b l σ q c, (ops[g]?).bind (·.dst) = some q → Nat.blt q n = true → zfw n d = true → σ q = .bool c → (c == b) = false → G l (updO σ d undef) → G (⟨d, op, t, p, a, some (g, b)⟩ :: l) σ)
  (h2 : ∀ d op t p a g b l σ q, (ops[g]?).bind (·.dst) = some q → Nat.blt q n = true → zfw n d = true → σ q = undef → G l (updO σ d undef) → G (⟨d, op, t, p, a, some (g, b)⟩ :: l) σ) :
  ∀ (k : Nat) (l l' : List Oper) (σ σ' : Env), skE n ops k l σ = some (l', σ') → G l' σ' → G l σ
 | 0, l, l', σ, σ', e, h => by cases e; exact h
 | k + 1, [], _, _, _, e, _ => by cases e
 | k + 1, ⟨d, op, t, p, a, none⟩ :: l, _, _, _, e, _ => by cases e
 | k + 1, ⟨d, op, t, p, a, some (g, b)⟩ :: l, l', σ, σ', e, h => by
  simp only [skE] at e;split at e
  ·rename_i q hq;split at e
   ·rename_i c e1 e2 e3;cases e4 : c == b with
    | true => rw [e4] at e; cases e
    | false => rw [e4] at e; exact h1 _ _ _ _ _ _ _ _ _ _ _ hq e1 e2 e3 e4 (skE_ind h1 h2 k _ _ _ _ e h)
   ·rename_i e1 e2 e3;exact h2 _ _ _ _ _ _ _ _ _ _ hq e1 e2 e3 (skE_ind h1 h2 k _ _ _ _ e h)
   ·cases e
  ·cases e
theorem zQ {P : Program} {n : Nat} {ops : Array Oper} {l l' : List Oper} {K : Env → World → Prop} {σ σ' : Env} {w : World} (k : Nat) (e : skE n ops k l σ = some (l', σ')) (h : OpsL P n ops l' K σ' w) : OpsL P n ops l K σ w :=
 skE_ind (G := fun l σ => OpsL P n ops l K σ w) (fun _ _ _ _ _ _ _ _ _ _ _ a b c d e f => OpsL.skipped a b d e c f) (fun _ _ _ _ _ _ _ _ _ _ a b c d f => OpsL.skippedU a b d c f) k l l' σ σ' e h
theorem zgi {P : Program} {n : Nat} {ops : Array Oper} {C : World → Prop} {l l' : List Oper} {K : Env → Prop} {σ σ' : Env} (k : Nat) (e : skE n ops k l σ = some (l', σ')) (h : OpsQ P n ops C l' K σ') : OpsQ P n ops C l K σ :=
 skE_ind (G := fun l σ => OpsQ P n ops C l K σ) (fun _ _ _ _ _ _ _ _ _ _ _ a b c d e f => OpsQ.skipped a b d e c f) (fun _ _ _ _ _ _ _ _ _ _ a b c d f => OpsQ.skippedU a b d c f) k l l' σ σ' e h
end Go.Pk

namespace Go.Pk
open Go Go.RowKit
variable {P : Program} {n : Nat} {σ : Env} {w : World}
theorem W.join {c : Code} {G : Type} {Q : Exit → Env → World → Prop} (mods : List Nat) (vals : G → List (Nat × Value)) (I : G → World → Prop)
  (h1 : W P n c (fun e σ' w' => e = .normal ∧ ∃ g, Has σ' (vals g) ∧ Agree mods σ' σ ∧ I g w') σ w)
  (h2 : ∀ g τ w', I g w' → Q .normal (known (vals g) (mix mods τ σ)) w') : W P n c Q σ w := by
 refine W.mono h1 ?_;rintro e σ'' w'' ⟨rfl, g', a1, a2, a3⟩;obtain ⟨τ', hτ'⟩ := loop_back a1 a2;rw [hτ']; exact h2 g' τ' w'' a3
end Go.Pk

namespace Go.Pk
open Go Go.RowKit
section
variable {P : Program} {n : Nat} {ops : Array Oper} {rest : List Oper} {K : Env → World → Prop} {σ : Env} {w w0 : World} {h0 h : Heap} {own : Own} {ty : TypeId} {pos : String} {aft : Array Edge} {d : Nat}
theorem OpsL.makeInts (st : St h0 w0 h w own) {t e : TypeId} {i : TypeInfo} {x y : Operand} {m : Nat} (hd : Nat.blt d n = true) (ht : P.underlying t = some (.slice e)) (hi : P.info? e = some i) (hz : i.zero = some (.int .i64 0)) (hs : i.size = 1) (hx : ev σ x = .int .i64 (m : Int)) (hy : ev σ y = .int .i64 (m : Int)) (hb : i.bytes * m ≤ 281474976710656) (hm : m ≤ 1000000)
  (hK : ∀ v o w', OSl LInt e h v (List.replicate m (0 : Int)) o → St h0 w0 h w' (own ++ [o]) → OpsL P n ops rest K (upd σ d v) w') :
  OpsL P n ops (⟨some d, .makeSlice t x y, ty, pos, aft, none⟩ :: rest) K σ w := by
 have hb' : (i.bytes : Int) * (m : Int) ≤ 281474976710656 := by
  have h : ((i.bytes * m : Nat) : Int) ≤ 281474976710656 := by omega
  rwa [Int.natCast_mul] at h
 have hr := run_make (P := P) w t e i _ ht hi hz .i64 .i64 m m zr (Int.le_refl _) hb' zr;simp only [Int.toNat_natCast, hs, Nat.mul_one] at hr;refine zj rfl hd (v := .slice (some ⟨w.heap.size, 0, none⟩) m m) (by simp [Run, execOp, hx, hy, hr]) (hK _ [(w.heap.size, .cells (madeCells (Value.int .i64 0).cells m) e)] _ ?_ (st.alloc _));have hc : (madeCells (Value.int .i64 0).cells m).toList = List.replicate m (.int .i64 0) := toList_madeCells_one _ _;have hl : LInt.size = 1 := rfl;refine ⟨List.replicate m (.int .i64 0), ⟨by simp [hl], ?_⟩, .inr ⟨_, m, _, by simp, rfl, by simp, by simp [maxLen]; omega, ?_, ?_⟩⟩
 ·intro k y hy;obtain ⟨h1, h2⟩ := List.getElem?_eq_some_iff.1 hy;rw [List.length_replicate] at h1;rw [List.getElem_replicate] at h2;subst h2;rw [hl, Nat.mul_one, List.drop_replicate, List.take_replicate, Nat.min_eq_left zr];rfl
 ·rw [← Array.length_toList, hc]; simp [hl]
 ·rw [hc]; simp [hl]
end
section
variable {P : Program} {n : Nat} {ops : Array Oper} {rest : List Oper} {K : Env → World → Prop} {σ : Env} {w w0 : World} {h0 h : Heap} {own : Own} {ty : TypeId} {pos : String} {aft : Array Edge} {d : Nat}
end
end Go.Pk

namespace Go.Pk
open Go Go.RowKit
structure Six where
 a : Int
 b : Int
 c : Int
 d : Int
 e : Int
 f : Int
deriving DecidableEq
def sixV (s : Six) : Value := .agg #[.int .i64 s.a, .int .i64 s.b, .int .i64 s.c, .int .i64 s.d, .int .i64 s.e, .int .i64 s.f]
theorem six_one {P : Program} {e : TypeId} (he : P.underlying e = some (.int .i64)) (d : Nat) (a b : Int) (w : World) : (Op.equalIn (d + 1) e (.int .i64 a) (.int .i64 b)).run P w = .ok (a == b) w := by
 rw [Op.equalIn];simp [run_underlying he]
theorem six_equal {P : Program} {kt e_ : TypeId} (hu : P.underlying kt = some (.array 6 e_)) (he : P.underlying e_ = some (.int .i64)) (ha : ∀ w, (isAgg e_).run P w = .ok false w) (hz : ∀ w, (sizeOf e_).run P w = .ok 1 w) (s t : Six) (w : World) : (Op.equal kt (sixV s) (sixV t)).run P w = .ok (decide (s = t)) w := by
 rcases s with ⟨a, b, c, d, e, f⟩; rcases t with ⟨a', b', c', d', e', f'⟩
 show (Op.equalIn (9998 + 1 + 1) kt _ _).run P w = _;rw [Op.equalIn];simp only [Sem.run_bind, run_underlying hu, Result.andThen_ok, sixV, hz];have p1 : ∀ (n : Nat) (xs : Array Value) (v : Value), xs[n]? = some v → (part e_ xs n).run P w = .ok v w := by
  intro n xs v h;simp [part, ha, h]
 have q := six_one he 9998;simp only [Std.Legacy.Range.forIn_eq_forIn_range', Std.Legacy.Range.size, Nat.sub_zero, Nat.add_sub_cancel, Nat.div_one, List.range'_succ, List.range'_zero, List.forIn_cons, List.forIn_nil, Nat.mul_one, Nat.zero_add, Nat.reduceAdd];have e0 : ∀ x0 x1 x2 x3 x4 x5 : Value, (part e_ #[x0, x1, x2, x3, x4, x5] 0).run P w = .ok x0 w := fun _ _ _ _ _ _ => p1 _ _ _ rfl;have e1 : ∀ x0 x1 x2 x3 x4 x5 : Value, (part e_ #[x0, x1, x2, x3, x4, x5] 1).run P w = .ok x1 w := fun _ _ _ _ _ _ => p1 _ _ _ rfl;have e2 : ∀ x0 x1 x2 x3 x4 x5 : Value, (part e_ #[x0, x1, x2, x3, x4, x5] 2).run P w = .ok x2 w := fun _ _ _ _ _ _ => p1 _ _ _ rfl;have e3 : ∀ x0 x1 x2 x3 x4 x5 : Value, (part e_ #[x0, x1, x2, x3, x4, x5] 3).run P w = .ok x3 w := fun _ _ _ _ _ _ => p1 _ _ _ rfl;have e4 : ∀ x0 x1 x2 x3 x4 x5 : Value, (part e_ #[x0, x1, x2, x3, x4, x5] 4).run P w = .ok x4 w := fun _ _ _ _ _ _ => p1 _ _ _ rfl;have e5 : ∀ x0 x1 x2 x3 x4 x5 : Value, (part e_ #[x0, x1, x2, x3, x4, x5] 5).run P w = .ok x5 w := fun _ _ _ _ _ _ => p1 _ _ _ rfl
 by_cases h1 : a = a'
 rotate_left
 ·simp [e0, q, h1]
 by_cases h2 : b = b'
 rotate_left
 ·simp [e0, e1, q, h1, h2]
 by_cases h3 : c = c'
 rotate_left
 ·simp [e0, e1, e2, q, h1, h2, h3]
 by_cases h4 : d = d'
 rotate_left
 ·simp [e0, e1, e2, e3, q, h1, h2, h3, h4]
 by_cases h5 : e = e'
 rotate_left
 ·simp [e0, e1, e2, e3, e4, q, h1, h2, h3, h4, h5]
 by_cases h6 : f = f'
 rotate_left
 ·simp [e0, e1, e2, e3, e4, e5, q, h1, h2, h3, h4, h5, h6]
 simp [e0, e1, e2, e3, e4, e5, q, h1, h2, h3, h4, h5, h6]
structure KeyF {κ : Type} [DecidableEq κ] (P : Program) (kt : TypeId) (ek : κ → Value) : Prop where
 eq : ∀ a b w, (Op.equal kt (ek a) (ek b)).run P w = .ok (decide (a = b)) w
 now : ∀ (a b : κ) (w : World), ∃ kind, P.underlying kt = some kind ∧ Instr.sameNow kind (ek a) (ek b) = none
 check : ∀ b k w, (Instr.checkKey b 10000 kt (ek k)).run P w = .ok () w
theorem asking_none {κ υ : Type} [DecidableEq κ] {P : Program} {kt : TypeId} {ek : κ → Value} {eu : υ → Value} (hK : KeyF P kt ek) {k : κ} (w : World) : ∀ {es : List MapEntry} {m : List (κ × υ)} (i : Nat), Ent ek eu es m → zbO m k = none → (Instr.findAsking kt (ek k) es i).run P w = .ok none w
 | [], [], _, _, _ => by simp [Instr.findAsking]
 | e :: es, p :: m, i, h, hl => by
  simp only [zbO, List.find?_cons] at hl;have hne : ¬ p.1 = k := fun e => by simp [e] at hl
  simp only [hne, decide_false] at hl;have hne' : ¬ k = p.1 := fun e => hne e.symm;have e1 := hK.eq k p.1 w;rw [decide_eq_false hne'] at e1;simp [Instr.findAsking, h.1, e1, asking_none hK w (i + 1) h.2.2 hl]
 | [], _ :: _, _, h, _ => h.elim
 | _ :: _, [], _, h, _ => h.elim
theorem asking_some {κ υ : Type} [DecidableEq κ] {P : Program} {kt : TypeId} {ek : κ → Value} {eu : υ → Value} (hK : KeyF P kt ek) {k : κ} (w : World) {v : υ} : ∀ {es : List MapEntry} {m : List (κ × υ)} (i : Nat), Ent ek eu es m → zbO m k = some v → ∃ j, (Instr.findAsking kt (ek k) es i).run P w = .ok (some (j, eu v)) w
 | [], [], _, _, hl => by cases hl
 | e :: es, p :: m, i, h, hl => by
  by_cases hne : p.1 = k
  ·simp only [zbO, List.find?_cons, hne, decide_true, Option.map_some, Option.some.injEq] at hl;have e1 := hK.eq k p.1 w;rw [decide_eq_true hne.symm] at e1;exact ⟨i, by simp [Instr.findAsking, h.1, e1, h.2.1, hl]⟩
  ·have hl' : zbO m k = some v := by simpa only [zbO, List.find?_cons, hne, decide_false] using hl
   obtain ⟨j, hj⟩ := asking_some hK w (i + 1) h.2.2 hl';have e1 := hK.eq k p.1 w;rw [decide_eq_false (fun e => hne e.symm)] at e1;exact ⟨j, by simp [Instr.findAsking, h.1, e1, hj]⟩
 | [], _ :: _, _, h, _ => h.elim
 | _ :: _, [], _, h, _ => h.elim
theorem findF {κ υ : Type} [DecidableEq κ] {P : Program} {kt : TypeId} {ek : κ → Value} {eu : υ → Value} (hK : KeyF P kt ek) {k : κ} (w : World) {es : List MapEntry} {m : List (κ × υ)} (h : Ent ek eu es m) : ∃ j, (Instr.findKey kt (ek k) es).run P w = .ok ((zbO m k).map fun v => (j, eu v)) w := by
 obtain ⟨kind, hu, hn⟩ := hK.now k k w;cases es with
 | nil =>
  cases m with
  | nil => exact ⟨0, by simp [Instr.findKey, run_underlying hu, Instr.findNow, zbO]⟩
  | cons _ _ => exact h.elim
 | cons e es =>
  cases m with
  | nil => exact h.elim
  | cons p m =>
   obtain ⟨kind', hu', hn'⟩ := hK.now k p.1 w;obtain rfl := Option.some.inj (hu.symm.trans hu');have e1 : Instr.findNow kind (ek k) (e :: es) 0 = none := by simp [Instr.findNow, h.1, hn']
   cases hl : zbO (p :: m) k with
   | none =>
    have := asking_none hK w 0 h hl;exact ⟨0, by simp only [Instr.findKey, Sem.run_bind, run_underlying hu, Result.andThen_ok, e1, this, Option.map_none]⟩
   | some v =>
    obtain ⟨j, hj⟩ := asking_some hK w 0 h hl;exact ⟨j, by simp only [Instr.findKey, Sem.run_bind, run_underlying hu, Result.andThen_ok, e1, hj, Option.map_some]⟩
section
variable {κ υ : Type} {ek : κ → Value} {eu : υ → Value}
variable {P : Program} {n : Nat} {ops : Array Oper} {rest : List Oper} {K : Env → World → Prop} {σ : Env} {w w0 : World} {h0 h : Heap} {own : Own} {ty : TypeId} {pos : String} {aft : Array Edge} {d : Nat} {dst : Option Tmp} {g : Option (Nat × Bool)}
theorem r_lookF [DecidableEq κ] {t kt et : TypeId} {x y : Operand} {m : List (κ × υ)} {o : List (Nat × Obj)} {v zv : Value} {k : κ} {zu : υ} (hK : KeyF P kt ek) (ht : P.underlying t = some (.map kt et)) (hM : OM ek eu m o v) (hw : ∀ b ob, o = [(b, ob)] → w.heap[b]? = some ob)
  (hz : ∀ w, (zeroValue et).run P w = .ok zv w) (hzu : zv = eu zu) (hx : ev σ x = v) (hy : ev σ y = ek k) :
  Run P σ w ⟨dst, .lookup t x y false, ty, pos, aft, g⟩ (eu ((zbO m k).getD zu)) w := by
 obtain ⟨b, es, clock, rfl, rfl, hE, _, _⟩ := hM;have hb := hw b _ rfl;obtain ⟨j, hf⟩ := findF hK (k := k) w hE;have hc := hK.check es.isEmpty k w;have hg : (getObj b).run P w = .ok (.map es clock) w := by simp [getObj, Sem.run, hb]
 subst hzu;have : (Instr.lookup t (.map (some b)) (ek k) false).run P w = .ok (eu ((zbO m k).getD zu)) w := by
  simp only [Instr.lookup, Sem.run_bind, run_underlying ht, Result.andThen_ok, hg, Sem.run_pure, hc, hf];cases zbO m k with
  | none => simp [hz]
  | some r => simp
 simp [Run, execOp, hx, hy, this]
theorem OpsL.mapInsertF [DecidableEq κ] {t kt et : TypeId} {x y z : Operand} {m : List (κ × υ)} {o : List (Nat × Obj)} {v : Value} {k : κ} {u : υ} {i : Nat} (st : St h0 w0 h w own) (hM : OM ek eu m o v) (hi : own[i]? = some o) (hn : (m.map (·.1)).Nodup) (hK : KeyF P kt ek) (ht : P.underlying t = some (.map kt et))
  (hl : zbO m k = none) (hx : ev σ x = v) (hy : ev σ y = ek k) (hz : ev σ z = eu u)
  (hk : ∀ o' w' own', own' = own.set i o' → OM ek eu (zgL m k u) o' v → ((zgL m k u).map (·.1)).Nodup → St h0 w0 h w' own' → OpsL P n ops rest K σ w') :
  OpsL P n ops (⟨none, .mapUpdate t x y z, ty, pos, aft, none⟩ :: rest) K σ w := by
 obtain ⟨b, es, clock, rfl, rfl, hE, hB, hD⟩ := hM;have hb := st.get hi;have hg : (getObj b).run P w = .ok (.map es clock) w := by simp [getObj, Sem.run, hb]
 have hset : ∀ es' c', (setObj b (.map es' c')).run P w = .ok () { w with heap := w.heap.setIfInBounds b (.map es' c') } := by
  intro es' c';simp [setObj, Sem.run, hb]
 have hc := hK.check false k w;obtain ⟨j, hf⟩ := findF hK (k := k) w hE;rw [hl] at hf;have hp : zgL m k u = m ++ [(k, u)] := by simp [zgL, hl]
 refine OpsL.eff rfl rfl (w' := { w with heap := w.heap.setIfInBounds b (.map (es.push { key := ek k, val := eu u, born := clock }) (clock + 1)) }) ?_ (hk _ _ _ rfl ⟨b, es.push { key := ek k, val := eu u, born := clock }, clock + 1, rfl, rfl, ?_, ?_, ?_⟩ ?_ (st.set _ hi))
 ·simp only [execOp, hx, hy, hz, Instr.mapUpdate, Sem.run_bind, run_underlying ht, Result.andThen_ok, hg, hc, hf, Option.map_none, hset, Sem.run_pure]
 ·rw [hp, Array.toList_push]; exact hE.snoc rfl rfl
 ·intro e he;rw [Array.toList_push, List.mem_append] at he
  rcases he with he | he
  ·exact Nat.lt_succ_of_lt (hB e he)
  ·simp at he; subst he; exact Nat.lt_succ_self _
 ·rw [Array.toList_push, List.map_append, List.nodup_append];refine ⟨hD, by simp, fun a ha c hc' => ?_⟩;simp at hc';subst hc';obtain ⟨e, he, rfl⟩ := List.mem_map.1 ha;exact Nat.ne_of_lt (hB e he)
 ·rw [hp, List.map_append, List.nodup_append];refine ⟨hn, by simp, fun a ha c hc' => ?_⟩;simp at hc';subst hc';rintro rfl;obtain ⟨p, hp', rfl⟩ := List.mem_map.1 ha;have : (m.find? fun q => decide (q.1 = p.1)).isSome = true := by
   rw [List.find?_isSome]; exact ⟨p, hp', by simp⟩
  simp only [zbO, Option.map_eq_none_iff] at hl;rw [hl] at this; cases this
end
theorem six_key {P : Program} {kt e_ : TypeId} (hu : P.underlying kt = some (.array 6 e_)) (he : P.underlying e_ = some (.int .i64)) (ha : ∀ w, (isAgg e_).run P w = .ok false w) (hz : ∀ w, (sizeOf e_).run P w = .ok 1 w) : KeyF P kt sixV where
 eq := six_equal hu he ha hz
 now := fun a b w => ⟨_, hu, rfl⟩
 check := fun em s w => by
  rcases s with ⟨a, b, c, d, e, f⟩
  rw [show (10000 : Nat) = 9998 + 1 + 1 from rfl, Instr.checkKey];have p1 : ∀ (n : Nat) (xs : Array Value) (v : Value), xs[n]? = some v → (part e_ xs n).run P w = .ok v w := by
   intro n xs v h;simp [part, ha, h]
  have q : ∀ (x : Int), (Instr.checkKey em (9998 + 1) e_ (.int .i64 x)).run P w = .ok () w := by
   intro x;rw [Instr.checkKey];simp [run_underlying he]
  simp only [Sem.run_bind, run_underlying hu, Result.andThen_ok, sixV, hz];simp only [Std.Legacy.Range.forIn_eq_forIn_range', Std.Legacy.Range.size, Nat.sub_zero, Nat.add_sub_cancel, Nat.div_one, List.range'_succ, List.range'_zero, List.forIn_cons, List.forIn_nil, Nat.mul_one, Nat.zero_add, Nat.reduceAdd];have e0 : ∀ x0 x1 x2 x3 x4 x5 : Value, (part e_ #[x0, x1, x2, x3, x4, x5] 0).run P w = .ok x0 w := fun _ _ _ _ _ _ => p1 _ _ _ rfl;have e1 : ∀ x0 x1 x2 x3 x4 x5 : Value, (part e_ #[x0, x1, x2, x3, x4, x5] 1).run P w = .ok x1 w := fun _ _ _ _ _ _ => p1 _ _ _ rfl;have e2 : ∀ x0 x1 x2 x3 x4 x5 : Value, (part e_ #[x0, x1, x2, x3, x4, x5] 2).run P w = .ok x2 w := fun _ _ _ _ _ _ => p1 _ _ _ rfl;have e3 : ∀ x0 x1 x2 x3 x4 x5 : Value, (part e_ #[x0, x1, x2, x3, x4, x5] 3).run P w = .ok x3 w := fun _ _ _ _ _ _ => p1 _ _ _ rfl;have e4 : ∀ x0 x1 x2 x3 x4 x5 : Value, (part e_ #[x0, x1, x2, x3, x4, x5] 4).run P w = .ok x4 w := fun _ _ _ _ _ _ => p1 _ _ _ rfl;have e5 : ∀ x0 x1 x2 x3 x4 x5 : Value, (part e_ #[x0, x1, x2, x3, x4, x5] 5).run P w = .ok x5 w := fun _ _ _ _ _ _ => p1 _ _ _ rfl;simp [hz, e0, e1, e2, e3, e4, e5, q]
end Go.Pk

namespace Go.Pk
def inB (n lo hi : Int) : Bool := decide (lo ≤ n) && decide (n ≤ hi)
def isL (c : UInt8) : Bool := decide (97 ≤ (c.toNat : Int)) && decide ((c.toNat : Int) ≤ 122)
def zcN (s : Str) (lo : Int) : Bool := s.all isL && inB s.length lo 12
def zdH (s : Str) : Bool := zcN s 1
def zgO (l : List Str) : Bool := inB l.length 1 10 && l.all zdH
def zbM (c : Chapter) : Bool := inB c.id 0 9999 && inB c.lines.length 1 10 && c.lines.all zgO
def zbk (t : Text) : Bool := inB t.chapters.length 1 6 && t.chapters.all zbM && decide (t.chapters.map (·.id)).Nodup
def zcZ (t : Text) (p : Place) : Option (List Str) :=
 if 0 ≤ p.chapter ∧ 0 ≤ p.line then (t.chapters[p.chapter.toNat]?).bind fun c => c.lines[p.line.toNat]? else none
def zhd (t : Text) (p : Place) : Option Str :=
 if 0 ≤ p.word then (zcZ t p).bind fun l => l[p.word.toNat]? else none
def zbG (t : Text) (p : Place) : Bool := (zhd t p).isSome
def zeq (a b : Place) : Bool :=
 if a.chapter ≠ b.chapter then decide (a.chapter < b.chapter) else if a.line ≠ b.line then decide (a.line < b.line) else decide (a.word < b.word)
def zhx (r : Rule) : Bool := zcN r.cut 1 && zcN r.put 0 && decide (r.cut ≠ r.put) && inB r.least 1 12
def zeg (h : Head) : Bool := zdH h.stem && inB h.mark 0 3
def zdE : Place := ⟨0, 0, 0⟩
def zdw : Head := ⟨[], 0⟩
def zcz : Decision := ⟨0, 0, [], zdE, zdw, 0⟩
def zaj (t : Text) (d : Decision) : Bool :=
 inB d.number 1 999 &&
 (if d.kind = 1 then zdH d.form && decide (d.at_ = zdE) && zeg d.to && decide (d.of_ = 0)
  else if d.kind = 2 then zdH d.form && zbG t d.at_ && zeg d.to && decide (d.of_ = 0)
  else if d.kind = 3 then decide (d.form = []) && zbG t d.at_ && zeg d.to && decide (d.of_ = 0)
  else if d.kind = 4 then decide (d.form = []) && decide (d.at_ = zdE) && decide (d.to = zdw) && inB d.of_ 1 (d.number - 1)
  else false)
def zcE (t : Text) (x : Lexicon) : Bool :=
 decide (x.rules.length ≤ 12) && decide (x.decisions.length ≤ 20) && x.rules.all zhx && x.decisions.all (zaj t) && decide (x.decisions.map (·.number)).Nodup
def zaQ (t : Text) (x : Lexicon) : Int := if zbk t = false then 10 else if zcE t x = false then 40 else 0
def made (r : Rule) (w : Str) : Option Str :=
 if r.cut.length ≤ w.length ∧ r.least ≤ ((w.length - r.cut.length : Nat) : Int) ∧ w.drop (w.length - r.cut.length) = r.cut ∧ w.length - r.cut.length + r.put.length ≤ 12 then some (w.take (w.length - r.cut.length) ++ r.put) else none
def zhf (rs : List Rule) (w : Str) : Option Str := rs.findSome? (made · w)
def zdL (rs : List Rule) : Nat → Str → List Str
 | 0, w => [w]
 | n + 1, w => match zhf rs w with
  | none => [w]
  | some s => w :: zdL rs n s
theorem stepsN_some {rs : List Rule} {n m : Nat} {w s : Str} (hn : n = m + 1) (h : zhf rs w = some s) : zdL rs n w = w :: zdL rs m s := by
 subst hn; simp [zdL, h]
theorem stepsN_none {rs : List Rule} {n : Nat} {w : Str} (h : zhf rs w = none) : zdL rs n w = [w] := by
 cases n <;> simp [zdL, h]
theorem zhk {α : Type} {xs : List α} {k : Nat} {y : α} (h : xs[k]? = some y) : xs.drop k = y :: xs.drop (k + 1) := by
 obtain ⟨h1, h2⟩ := List.getElem?_eq_some_iff.1 h;rw [List.drop_eq_getElem_cons h1, h2]
theorem made_len {r : Rule} {w s : Str} (h : made r w = some s) : s.length ≤ 12 := by
 unfold made at h;split at h
 ·rename_i h1; cases h; simp; omega
 cases h
theorem zia {s : Str} (h : zdH s = true) : s.length ≤ 12 := by
 simp only [zdH, zcN, inB, Bool.and_eq_true, decide_eq_true_eq] at h;omega
def stepsR (t : Text) (x : Lexicon) (w : Str) : List Str := if zaQ t x = 0 ∧ zdH w = true then zdL x.rules 4 w else []
def stepsE (t : Text) (x : Lexicon) (w : Str) : Int := if zaQ t x ≠ 0 then zaQ t x else if zdH w then 0 else 2
def zeK (x : Lexicon) : Nat → Decision → Bool
 | 0, _ => true
 | n + 1, d => x.decisions.all fun v => !(decide (v.kind = 4) && decide (v.of_ = d.number) && zeK x n v)
def voids (x : Lexicon) (n : Nat) (d v : Decision) : Bool := !(decide (v.kind = 4) && decide (v.of_ = d.number) && zeK x (n - 1) v)
theorem standsF_eq {x : Lexicon} {n : Nat} {d : Decision} (hv : ∀ v ∈ x.decisions, v.number ≤ 999 ∧ (v.kind = 4 → v.of_ < v.number)) (hn : 999 < d.number + n) : zeK x n d = x.decisions.all (voids x n d) := by
 cases n with
 | succ n => rfl
 | zero =>
  simp only [zeK]
  symm
  rw [List.all_eq_true];intro v hm;obtain ⟨h1, h2⟩ := hv v hm;simp only [voids, Bool.not_eq_true', Bool.and_eq_false_iff, decide_eq_false_iff_not];left
  by_cases h : v.kind = 4
  ·right; have := h2 h; omega
  ·left; exact h
def zdC (x : Lexicon) (d : Decision) : Bool := zeK x 1000 d
def standP (x : Lexicon) (n : Nat) (d : Decision) : Bool := decide (d.number = (n : Int) + 1) && zeK x 1000 d
def standAt (x : Lexicon) (n : Nat) : List Decision := x.decisions.filter (standP x n)
def standingR (x : Lexicon) : List Decision := (List.range 999).flatMap (standAt x)
def standingN (t : Text) (x : Lexicon) : List Int := if zaQ t x = 0 then (standingR x).map (·.number) else []
theorem zig {t : Text} {x : Lexicon} (h : zaQ t x = 0) : zbk t = true ∧ zcE t x = true := by
 unfold zaQ at h;split at h
 ·cases h
 rename_i h1;split at h
 ·cases h
 rename_i h2; exact ⟨by simpa using h1, by simpa using h2⟩
theorem lexicon_dec {t : Text} {x : Lexicon} (h : zaQ t x = 0) : ∀ v ∈ x.decisions, zaj t v = true := by
 have h1 := (zig h).2;simp only [zcE, Bool.and_eq_true, List.all_eq_true] at h1;exact h1.1.2
theorem lexicon_v {t : Text} {x : Lexicon} (h : zaQ t x = 0) : ∀ v ∈ x.decisions, v.number ≤ 999 ∧ (v.kind = 4 → v.of_ < v.number) := by
 intro v hv;have h1 := lexicon_dec h v hv;simp only [zaj, Bool.and_eq_true, inB, decide_eq_true_eq] at h1;refine ⟨h1.1.2, fun h4 => ?_⟩;have h2 := h1.2;rw [h4] at h2;simp at h2;omega
theorem lexicon_v1 {t : Text} {x : Lexicon} (h : zaQ t x = 0) : ∀ v ∈ x.decisions, 1 ≤ v.number := by
 intro v hv;have h1 := lexicon_dec h v hv;simp only [zaj, Bool.and_eq_true, inB, decide_eq_true_eq] at h1;exact h1.1.1
theorem zjo {t : Text} {x : Lexicon} (h : zaQ t x = 0) : x.decisions.length ≤ 20 := by
 have h1 := (zig h).2;simp only [zcE, Bool.and_eq_true, decide_eq_true_eq] at h1;exact h1.1.1.1.2
def zcQ (l : List Int) (lo hi : Int) : Bool := l.all fun n => inB n lo hi
theorem inAll_eq (l : List Int) (lo hi : Int) : (!(l.any fun n => decide (n < lo) || decide (hi < n))) = zcQ l lo hi := by
 unfold zcQ;rw [List.not_any_eq_all_not];congr 1;funext n;simp only [inB, Bool.not_or]
 by_cases h1 : n < lo <;> by_cases h2 : hi < n <;> simp [h1, h2] <;> omega
@[simp] theorem inAll_one (n lo hi : Int) : zcQ [n] lo hi = inB n lo hi := by simp [zcQ]
theorem letters_any (s : Str) : ((s.map fun c => (c.toNat : Int)).any fun b => decide (b < 97) || decide (122 < b)) = !(s.all isL) := by
 rw [List.any_map, List.not_all_eq_any_not];congr 1;funext c;simp only [Function.comp, isL, Bool.not_and]
 by_cases h1 : (c.toNat : Int) < 97 <;> by_cases h2 : 122 < (c.toNat : Int) <;> simp [h1, h2] <;> omega
theorem wordB_eq (s : Str) : zdH s = (inB s.length 1 12 && !((s.map fun c => (c.toNat : Int)).any fun b => decide (b < 97) || decide (122 < b))) := by
 rw [letters_any, zdH, zcN, Bool.not_not, Bool.and_comm]
theorem place_eq (t : Text) (p : Place) : zbG t p = ((zcZ t p).isSome && inB p.word 0 ((((zcZ t p).getD []).length : Int) - 1)) := by
 unfold zbG zhd;cases h : zcZ t p with
 | none => simp
 | some l =>
  simp only [Option.bind_some, Option.isSome_some, Option.getD_some, Bool.true_and, inB]
  by_cases h1 : 0 ≤ p.word
  ·rw [if_pos h1]
   by_cases h2 : p.word ≤ (l.length : Int) - 1
   ·rw [List.getElem?_eq_getElem zr]; simp [h1, h2]
   ·rw [List.getElem?_eq_none zr]; simp [h2]
  ·rw [if_neg h1]; simp [h1]
theorem line_none1 {t : Text} {p : Place} (h : ¬ (0 ≤ p.chapter ∧ p.chapter ≤ (t.chapters.length : Int) - 1)) : zcZ t p = none := by
 unfold zcZ;split
 ·rename_i h1;rw [List.getElem?_eq_none zr]; rfl
 rfl
theorem line_none2 {t : Text} {p : Place} {c : Chapter} (hc : t.chapters[p.chapter.toNat]? = some c) (h : ¬ (0 ≤ p.line ∧ p.line ≤ (c.lines.length : Int) - 1)) : zcZ t p = none := by
 unfold zcZ;split
 ·rename_i h1;rw [hc];exact List.getElem?_eq_none zr
 rfl
theorem line_some {t : Text} {p : Place} {c : Chapter} {l : List Str} (hc : t.chapters[p.chapter.toNat]? = some c) (h : 0 ≤ p.chapter) (hl : c.lines[p.line.toNat]? = some l) (h2 : 0 ≤ p.line) : zcZ t p = some l := by
 unfold zcZ;rw [if_pos ⟨h, h2⟩, hc]; exact hl
section
variable {α : Type} {xs : List α} {k : Nat} {y : α} {p : α → Bool}
theorem zcw (h : (xs.take k).all p = true) (hy : xs[k]? = some y) (hp : p y = true) : (xs.take (k + 1)).all p = true := by
 rw [zbf hy, List.all_append, h]; simp [hp]
theorem zdc (h : (xs.take k).all p = true) (hk : xs.length ≤ k) : xs.all p = true := by
 rwa [List.take_of_length_le hk] at h
theorem nodup_take_succ {β : Type} {f : α → β} (h : ((xs.take k).map f).Nodup) (hy : xs[k]? = some y) (hk : k ≤ xs.length) (hd : ∀ j z, j < k → xs[j]? = some z → f z ≠ f y) : ((xs.take (k + 1)).map f).Nodup := by
 rw [zbf hy, List.map_append, List.nodup_append];refine ⟨h, by simp, ?_⟩;intro a ha b hb e;simp only [List.map_cons, List.map_nil, List.mem_singleton] at hb;subst hb;subst e;obtain ⟨z, hz, e⟩ := List.mem_map.1 ha;obtain ⟨j, hj⟩ := List.mem_iff_getElem?.1 hz;rw [List.getElem?_take] at hj;split at hj
 ·exact hd j z (by assumption) hj e
 cases hj
theorem ziU {β : Type} {f : α → β} {j : Nat} {z : α} (hz : xs[j]? = some z) (hy : xs[k]? = some y) (hj : j < k) (e : f z = f y) : ¬ (xs.map f).Nodup := by
 intro h;obtain ⟨h1, h2⟩ := List.getElem?_eq_some_iff.1 hz;obtain ⟨h3, h4⟩ := List.getElem?_eq_some_iff.1 hy;have h5 := List.pairwise_iff_getElem.1 h j k (by simpa using h1) (by simpa using h3) hj;simp only [List.getElem_map, h2, h4] at h5;exact h5 e
theorem ziJ {β : Type} {f : α → β} (hy : xs[k]? = some y) (h : f y ∈ (xs.take k).map f) : ¬ (xs.map f).Nodup := by
 obtain ⟨z, hz, e⟩ := List.mem_map.1 h;obtain ⟨j, hj⟩ := List.mem_iff_getElem?.1 hz;rw [List.getElem?_take] at hj;split at hj
 ·exact ziU hj hy (by assumption) e
 cases hj
theorem any_not (q : α → Bool) : (xs.any fun x => !q x) = !(xs.all q) := by rw [List.not_all_eq_any_not]
theorem zcM (hy : xs[k]? = some y) (hp : p y = false) : xs.all p = false := by
 rw [List.all_eq_false];exact ⟨y, List.mem_of_getElem? hy, by simp [hp]⟩
end
end Go.Pk

namespace Go.Pk
open Go Go.RowKit
theorem eq_take_succ {α : Type} {a b : List α} {k : Nat} {x y : α} (h : a.take k = b.take k) (ha : a[k]? = some x) (hb : b[k]? = some y) (e : x = y) : a.take (k + 1) = b.take (k + 1) := by
 subst e;rw [List.take_add_one, List.take_add_one, h, ha, hb]
theorem ne_of_get {α : Type} {a b : List α} {k : Nat} {x y : α} (ha : a[k]? = some x) (hb : b[k]? = some y) (e : x ≠ y) : a ≠ b := by
 rintro rfl;rw [ha] at hb; cases hb; exact e rfl
theorem eq_of_take {α : Type} {a b : List α} {k : Nat} (h : a.take k = b.take k) (hl : a.length = b.length) (hk : a.length ≤ k) : a = b := by
 rwa [List.take_of_length_le hk, List.take_of_length_le zr] at h
theorem letters_eq (s : Str) (lo : Int) : zcN s lo = (inB s.length lo 12 && !(s.any fun c => decide ((c.toNat : Int) < 97) || decide (122 < (c.toNat : Int)))) := by
 unfold zcN;rw [Bool.and_comm];congr 1;rw [List.not_any_eq_all_not];congr 1;funext c;simp only [isL, Bool.not_or];congr 1 <;> (rw [← decide_not]; congr 1; simp only [Int.not_lt])
theorem head_eq (h : Head) (h0 : 0 ≤ h.mark) : zeg h = (zcN h.stem 1 && decide (h.mark ≤ 3)) := by
 unfold zeg zdH inB;simp [h0]
theorem zgn (d : Decision) (k : Int) (f : Str) (a : Place) (t : Head) (o : Int) : (d = Decision.mk d.number k f a t o) ↔ (d.kind = k ∧ d.form = f ∧ d.at_ = a ∧ d.to = t ∧ d.of_ = o) := by
 rcases d with ⟨n, k', f', a', t', o'⟩
 simp
theorem zgV {t : Text} {p : Place} (ht : zbk t = true) : ((if (zbk t && zbG t p) = true then (0 : Int) else if zbk t = true then 12 else 10) = 0) = (zbG t p = true) := by
 cases h : zbG t p <;> simp [ht]
theorem dec1_t {t : Text} {d : Decision} (ht : zbk t = true) (hk : d.kind = 1) (hn : (!zcQ [d.number] 1 999) = false) (g : d = Decision.mk d.number d.kind d.form (Place.mk 0 0 0) d.to 0) (e0 : zcN d.form 1 = true) (e1 : zeg d.to = true) : true = zaj t d := by
 rw [inAll_one] at hn;rw [zgn] at g
 try rw [zgV ht] at e0
 try rw [zgV ht] at e1
 simp_all [zaj, zdH, zdE, zdw]
theorem dec1_f0 {t : Text} {d : Decision} (ht : zbk t = true) (hk : d.kind = 1) (hn : (!zcQ [d.number] 1 999) = false) (g : d = Decision.mk d.number d.kind d.form (Place.mk 0 0 0) d.to 0) (e0 : zcN d.form 1 = false) : false = zaj t d := by
 rw [inAll_one] at hn;rw [zgn] at g
 try rw [zgV ht] at e0
 simp_all [zaj, zdH, zdE, zdw]
theorem dec1_f1 {t : Text} {d : Decision} (ht : zbk t = true) (hk : d.kind = 1) (hn : (!zcQ [d.number] 1 999) = false) (g : d = Decision.mk d.number d.kind d.form (Place.mk 0 0 0) d.to 0) (e0 : zcN d.form 1 = true) (e1 : zeg d.to = false) : false = zaj t d := by
 rw [inAll_one] at hn;rw [zgn] at g
 try rw [zgV ht] at e0
 try rw [zgV ht] at e1
 simp_all [zaj, zdH, zdE, zdw]
theorem dec1_n {t : Text} {d : Decision} (ht : zbk t = true) (hk : d.kind = 1) (hn : (!zcQ [d.number] 1 999) = false) (g : ¬ d = Decision.mk d.number d.kind d.form (Place.mk 0 0 0) d.to 0) : false = zaj t d := by
 rw [inAll_one] at hn;rw [zgn] at g
 symm
 rw [Bool.eq_false_iff];intro q;apply g;simp [zaj, hk, zdE, zdw, Bool.and_eq_true] at q;simp_all
theorem dec2_t {t : Text} {d : Decision} (ht : zbk t = true) (hk : d.kind = 2) (hn : (!zcQ [d.number] 1 999) = false) (g : d = Decision.mk d.number d.kind d.form d.at_ d.to 0) (e0 : zcN d.form 1 = true) (e1 : ((if (zbk t && zbG t d.at_) = true then (0 : Int) else if zbk t = true then 12 else 10) = 0)) (e2 : zeg d.to = true) : true = zaj t d := by
 rw [inAll_one] at hn;rw [zgn] at g
 try rw [zgV ht] at e0
 try rw [zgV ht] at e1
 try rw [zgV ht] at e2
 simp_all [zaj, zdH, zdE, zdw]
theorem dec2_f0 {t : Text} {d : Decision} (ht : zbk t = true) (hk : d.kind = 2) (hn : (!zcQ [d.number] 1 999) = false) (g : d = Decision.mk d.number d.kind d.form d.at_ d.to 0) (e0 : zcN d.form 1 = false) : false = zaj t d := by
 rw [inAll_one] at hn;rw [zgn] at g
 try rw [zgV ht] at e0
 simp_all [zaj, zdH, zdE, zdw]
theorem dec2_f1 {t : Text} {d : Decision} (ht : zbk t = true) (hk : d.kind = 2) (hn : (!zcQ [d.number] 1 999) = false) (g : d = Decision.mk d.number d.kind d.form d.at_ d.to 0) (e0 : zcN d.form 1 = true) (e1 : ¬ ((if (zbk t && zbG t d.at_) = true then (0 : Int) else if zbk t = true then 12 else 10) = 0)) : false = zaj t d := by
 rw [inAll_one] at hn;rw [zgn] at g
 try rw [zgV ht] at e0
 try rw [zgV ht] at e1
 simp_all [zaj, zdH, zdE, zdw]
theorem dec2_f2 {t : Text} {d : Decision} (ht : zbk t = true) (hk : d.kind = 2) (hn : (!zcQ [d.number] 1 999) = false) (g : d = Decision.mk d.number d.kind d.form d.at_ d.to 0) (e0 : zcN d.form 1 = true) (e1 : ((if (zbk t && zbG t d.at_) = true then (0 : Int) else if zbk t = true then 12 else 10) = 0)) (e2 : zeg d.to = false) : false = zaj t d := by
 rw [inAll_one] at hn;rw [zgn] at g
 try rw [zgV ht] at e0
 try rw [zgV ht] at e1
 try rw [zgV ht] at e2
 simp_all [zaj, zdH, zdE, zdw]
theorem dec2_n {t : Text} {d : Decision} (ht : zbk t = true) (hk : d.kind = 2) (hn : (!zcQ [d.number] 1 999) = false) (g : ¬ d = Decision.mk d.number d.kind d.form d.at_ d.to 0) : false = zaj t d := by
 rw [inAll_one] at hn;rw [zgn] at g
 symm
 rw [Bool.eq_false_iff];intro q;apply g;simp [zaj, hk, zdE, zdw, Bool.and_eq_true] at q;simp_all
theorem dec3_t {t : Text} {d : Decision} (ht : zbk t = true) (hk : d.kind = 3) (hn : (!zcQ [d.number] 1 999) = false) (g : d = Decision.mk d.number d.kind [] d.at_ d.to 0) (e0 : ((if (zbk t && zbG t d.at_) = true then (0 : Int) else if zbk t = true then 12 else 10) = 0)) (e1 : zeg d.to = true) : true = zaj t d := by
 rw [inAll_one] at hn;rw [zgn] at g
 try rw [zgV ht] at e0
 try rw [zgV ht] at e1
 simp_all [zaj, zdH, zdE, zdw]
theorem dec3_f0 {t : Text} {d : Decision} (ht : zbk t = true) (hk : d.kind = 3) (hn : (!zcQ [d.number] 1 999) = false) (g : d = Decision.mk d.number d.kind [] d.at_ d.to 0) (e0 : ¬ ((if (zbk t && zbG t d.at_) = true then (0 : Int) else if zbk t = true then 12 else 10) = 0)) : false = zaj t d := by
 rw [inAll_one] at hn;rw [zgn] at g
 try rw [zgV ht] at e0
 simp_all [zaj, zdH, zdE, zdw]
theorem dec3_f1 {t : Text} {d : Decision} (ht : zbk t = true) (hk : d.kind = 3) (hn : (!zcQ [d.number] 1 999) = false) (g : d = Decision.mk d.number d.kind [] d.at_ d.to 0) (e0 : ((if (zbk t && zbG t d.at_) = true then (0 : Int) else if zbk t = true then 12 else 10) = 0)) (e1 : zeg d.to = false) : false = zaj t d := by
 rw [inAll_one] at hn;rw [zgn] at g
 try rw [zgV ht] at e0
 try rw [zgV ht] at e1
 simp_all [zaj, zdH, zdE, zdw]
theorem dec3_n {t : Text} {d : Decision} (ht : zbk t = true) (hk : d.kind = 3) (hn : (!zcQ [d.number] 1 999) = false) (g : ¬ d = Decision.mk d.number d.kind [] d.at_ d.to 0) : false = zaj t d := by
 rw [inAll_one] at hn;rw [zgn] at g
 symm
 rw [Bool.eq_false_iff];intro q;apply g;simp [zaj, hk, zdE, zdw, Bool.and_eq_true] at q;simp_all
theorem dec4_t {t : Text} {d : Decision} (ht : zbk t = true) (hk : d.kind = 4) (hn : (!zcQ [d.number] 1 999) = false) (g : d = Decision.mk d.number d.kind [] (Place.mk 0 0 0) (Head.mk [] 0) d.of_) : zcQ [d.of_] 1 (d.number - 1) = zaj t d := by
 rw [inAll_one] at hn ⊢;rw [zgn] at g;simp_all [zaj, zdH, zdE, zdw]
theorem dec4_n {t : Text} {d : Decision} (ht : zbk t = true) (hk : d.kind = 4) (hn : (!zcQ [d.number] 1 999) = false) (g : ¬ d = Decision.mk d.number d.kind [] (Place.mk 0 0 0) (Head.mk [] 0) d.of_) : false = zaj t d := by
 rw [inAll_one] at hn;rw [zgn] at g
 symm
 rw [Bool.eq_false_iff];intro q;apply g;simp [zaj, hk, zdE, zdw, Bool.and_eq_true] at q;have q1 := of_decide_eq_true q.2.1.1.2;have q2 := of_decide_eq_true q.2.1.2;have q3 := q.2.1.1.1;simp_all
theorem line_le {h : Heap} {v : Value} {t : Text} (f : Sl LChapter h v t.chapters) (p : Place) : ((zcZ t p).getD []).length ≤ 281474976710656 := by
 cases e : zcZ t p with
 | none => simp
 | some l =>
  unfold zcZ at e;split at e
  ·cases e2 : t.chapters[p.chapter.toNat]? with
   | none => rw [e2] at e; cases e
   | some c =>
    rw [e2, Option.bind_some] at e;obtain ⟨_, _, _, _, _, hr⟩ := Sl.elem f e2;obtain ⟨v1, rfl, f1⟩ := hr;obtain ⟨_, _, _, _, _, hr2⟩ := Sl.elem f1 e;obtain ⟨v2, rfl, f2⟩ := hr2;exact f2.le
  ·cases e
theorem word_some {t : Text} {p : Place} {wd : Str} (hp : zbG t p = true) (hw : ((zcZ t p).getD [])[p.word.toNat]? = some wd) : zhd t p = some wd := by
 unfold zbG zhd at hp;unfold zhd;split at hp
 ·rename_i h1;rw [if_pos h1];cases e : zcZ t p with
  | none => rw [e] at hw; cases hw
  | some l => rw [e] at hw; exact hw
 cases hp
theorem word_none {t : Text} {p : Place} (hp : zbG t p = false) : zhd t p = none := by
 unfold zbG at hp;cases e : zhd t p with
 | none => rfl
 | some l => rw [e] at hp; cases hp
def Box {α : Type} (L : Lay α) (h : Heap) (c : Bool) (x : α) (v : Value) : Prop := bif c then ∃ b vs, v = .pointer (some ⟨b, 0, none⟩) ∧ Cells h b 0 vs ∧ L.R h vs x else v = .pointer none
theorem Box.nil {α : Type} {L : Lay α} {h : Heap} {c : Bool} {x : α} (e : c = false) : Box L h c x (.pointer none) := by subst e; rfl
theorem Box.some {α : Type} {L : Lay α} {h : Heap} {c : Bool} {x : α} {b : Nat} {vs : List Value} (e : c = true) (hc : Cells h b 0 vs) (hr : L.R h vs x) : Box L h c x (.pointer (some ⟨b, 0, none⟩)) := by subst e; exact ⟨b, vs, rfl, hc, hr⟩
def decP (t : Text) (ds : List Decision) (k : Nat) : Bool := match ds[k]? with | some d => !(decide (d.number ∈ (ds.take k).map (·.number))) && zaj t d | none => true
theorem decP_some {t : Text} {ds : List Decision} {k : Nat} {d : Decision} (h : ds[k]? = some d) : decP t ds k = (!(decide (d.number ∈ (ds.take k).map (·.number))) && zaj t d) := by simp [decP, h]
theorem nodup_upto {α β : Type} {xs : List α} {f : α → β} (h : ∀ j y, xs[j]? = some y → f y ∉ (xs.take j).map f) : ∀ n, n ≤ xs.length → ((xs.take n).map f).Nodup
 | 0, _ => by simp
 | n + 1, hn => by
  have hy : xs[n]? = some xs[n] := List.getElem?_eq_getElem zr;rw [zbf hy, List.map_append, List.nodup_append];refine ⟨nodup_upto h n zr, by simp, ?_⟩;intro a ha b hb e;simp only [List.map_cons, List.map_nil, List.mem_singleton] at hb;subst hb; subst e;exact h n _ hy ha
theorem decisions_iff {t : Text} {ds : List Decision} {b : Bool} (h : b = true ↔ ∀ j, j < ds.length → decP t ds j = true) : b = (ds.all (zaj t) && decide (ds.map (·.number)).Nodup) := by
 rw [Bool.eq_iff_iff, h, Bool.and_eq_true, decide_eq_true_eq, List.all_eq_true];constructor
 ·intro hall;have h1 : ∀ j y, ds[j]? = some y → y.number ∉ (ds.take j).map (·.number) ∧ zaj t y = true := by
   intro j y hy;have := hall j (List.getElem?_eq_some_iff.1 hy).1;rw [decP_some hy] at this;simpa using this
  refine ⟨fun y hy => ?_, ?_⟩
  ·obtain ⟨j, hj⟩ := List.mem_iff_getElem?.1 hy;exact (h1 j y hj).2
  ·have := nodup_upto (f := (·.number)) (fun j y hy => (h1 j y hy).1) ds.length (Nat.le_refl _);rwa [List.take_length] at this
 rintro ⟨h1, h2⟩ j hj;have hy : ds[j]? = some ds[j] := List.getElem?_eq_getElem hj;rw [decP_some hy, h1 _ (List.getElem_mem hj)];simp only [Bool.and_true, Bool.not_eq_true', decide_eq_false_iff_not];intro hm;exact ziJ (f := (·.number)) hy hm h2
end Go.Pk

namespace Go.Pk
open Go Go.RowKit
theorem sub_flat {α : Type} {a b : List (List α)} (h : a.Sublist b) : a.flatten.Sublist b.flatten := by
 induction h with
 | slnil => exact List.Sublist.refl _
 | cons c _ ih => rw [List.flatten_cons]; exact ih.trans (List.sublist_append_right _ _)
 | cons_cons c _ ih => rw [List.flatten_cons, List.flatten_cons]; exact (List.Sublist.refl _).append ih
theorem St.sublist {h0 h : Heap} {w0 w : World} {own own' : Own} (st : St h0 w0 h w own) (hs : own'.Sublist own) : St h0 w0 h w own' := by
 have hsub : own'.flatten.Sublist own.flatten := sub_flat hs;exact ⟨st.le, st.new, st.sub, st.below, fun p hp => st.mine p (hsub.subset hp), (hsub.map _).nodup st.nodup⟩
theorem heapOf_le {h : Heap} {w : World} (hs : Sub h w) : Le h (zfc w) := fun b o hb => hs b o hb
theorem Rets.thaw {P : Program} {f : FuncId} {args : Array Value} {h : Heap} {w : World} {v : Value} (hs : Sub h w) (hc : Calls P f args w (Rets (zfc w) w fun _ _ r => r = v)) : Calls P f args w (Rets h w fun _ _ r => r = v) := by
 refine hc.mono ?_;rintro e w' ⟨h', r, rfl, s, rfl⟩;exact ⟨h, _, rfl, St.thaw s hs, rfl⟩
section
variable {α : Type} {L : Lay α} {T : TypeId} {h : Heap} {v : Value} {xs : List α} {o : List (Nat × Obj)}
theorem OSl.cap {p : Option Addr} {n c : Nat} (e : OSl L T h v xs o) (hv : v = .slice p n c) : n = xs.length ∧ xs.length ≤ c := by
 have h1 := e.caps _ _ _ hv;have h2 := e.len _ _ _ hv;exact ⟨h2, h2 ▸ h1⟩
end
section
variable {P : Program} {n : Nat} {ops : Array Oper} {rest : List Oper} {K : Env → World → Prop} {σ : Env} {w w0 : World} {h0 h : Heap} {own : Own} {ty : TypeId} {pos : String} {aft : Array Edge}
theorem set_seg {cs : List Value} {a s j : Nat} {u : Value} (hl : a + s ≤ cs.length) (hj : j < s) : cs.set (a + j) u = cs.take a ++ ((cs.drop a).take s).set j u ++ cs.drop (a + s) := by
 have e : cs = cs.take a ++ ((cs.drop a).take s ++ cs.drop (a + s)) := by
  have : cs.drop (a + s) = (cs.drop a).drop s := by rw [List.drop_drop]
  rw [this, List.take_append_drop, List.take_append_drop]
 have h1 : (cs.take a).length = a := by rw [List.length_take]; omega
 have h2 : ((cs.drop a).take s).length = s := by rw [List.length_take, List.length_drop]; omega
 conv => lhs; rw [e]
 rw [List.set_append_right _ _ zr, h1, Nat.add_sub_cancel_left, List.set_append_left _ _ zr, List.append_assoc]
theorem OpsL.storeElF {α : Type} {L : Lay α} {T : TypeId} {v : Value} {xs : List α} {o : List (Nat × Obj)} {k i j b off off' : Nat} {y y1 : α} {u : Value} {t : TypeId} {x z : Operand} (st : St h0 w0 h w own) (hO : OSl L T h v xs o) (hk : own[k]? = some o) (hy : xs[i]? = some y) (he : Elem v i L.size b off)
  (hj : Nat.blt j L.size = true) (ho : off' = off + j) (hx : ev σ x = .pointer (some ⟨b, off', none⟩)) (hv : ev σ z = u) (h1 : u.oneCell' = true) (hR : ∀ vs, L.R h vs y → L.R h (vs.set j u) y1) (hz : ∀ w, (sizeOf t).run P w = .ok 1 w)
  (hK : ∀ o' w' own', own' = own.set k o' → OSl L T h v (xs.set i y1) o' → St h0 w0 h w' own' → OpsL P n ops rest K σ w') : OpsL P n ops (⟨none, .store t x z, ty, pos, aft, none⟩ :: rest) K σ w := by
 obtain ⟨cs, e1, ⟨⟨p, rfl⟩, rfl, rfl⟩ | ⟨gb, cap, cur, rfl, rfl, hnc, hcm, hsz, htk⟩⟩ := hO
 ·simp at hy
 ·obtain ⟨off0, n', c', e2, hlt, rfl⟩ := he;cases e2;subst ho;have hj' : j < L.size := Nat.le_of_ble_eq_true hj;obtain ⟨hi, _⟩ := List.getElem?_eq_some_iff.1 hy;have hRus := hR _ (e1.2 i y hy);have h3 : (i + 1) * L.size ≤ xs.length * L.size := Nat.mul_le_mul_right _ hi;have h2 : xs.length * L.size ≤ cap * L.size := Nat.mul_le_mul_right _ hnc;rw [Nat.succ_mul] at h3;have hcl : cur.toList.length = cap * L.size := by rw [Array.length_toList, hsz]
  have hk' : own[k]? = some [(b, .cells cur.toList.toArray T)] := by simpa using hk
  refine zaC st hk' hx hv h1 hz (Nat.ble_eq_true_of_le (show 0 + i * L.size + j < cur.toList.length by omega)) rfl rfl fun w' st' => ?_;refine hK _ _ _ rfl ⟨_, e1.set hi hRus, .inr ⟨b, cap, _, by rw [List.length_set], rfl, by rw [List.length_set]; exact hnc, hcm, by simp [hsz], ?_⟩⟩ st';rw [List.length_set];show (cur.toList.set (0 + i * L.size + j) u).take (xs.length * L.size) = _;rw [List.take_set, htk, Nat.zero_add, set_seg (s := L.size) (by rw [e1.1]; omega) hj', Nat.succ_mul]
end
theorem Box.up {α : Type} {L : Lay α} {h h' : Heap} {c : Bool} {x : α} {v : Value} (f : Box L h c x v) (hl : Le h h') : Box L h' c x v := by
 cases c with
 | false => exact f
 | true => obtain ⟨b, vs, e, hc, hr⟩ := f; exact ⟨b, vs, e, hc.up hl, L.up hr hl⟩
end Go.Pk

namespace Go.Pk
open Go Go.RowKit
theorem St.move {h0 h : Heap} {w0 w : World} {own : Own} (st : St h0 w0 h w own) {k j : Nat} {x y : List (Nat × Obj)} (hk : own[k]? = some x) (hj : own[j]? = some y) (hn : k < j) : St h0 w0 h w ((own.set k y).set j []) := by
 have d := st.drop k;obtain ⟨k1, _⟩ := List.getElem?_eq_some_iff.1 hk;obtain ⟨j1, j2⟩ := List.getElem?_eq_some_iff.1 hj;have hp := @List.set_set_perm _ (own.set k []) k j (by simpa using k1) (by simpa using j1);have e1 : (own.set k [])[j]'(by simpa using j1) = y := by rw [List.getElem_set_ne zr]; exact j2
 have e2 : (own.set k [])[k]'(by simpa using k1) = [] := by rw [List.getElem_set_self]
 rw [e1, e2, List.set_set] at hp;exact d.perm hp.symm
theorem St.thawO {h h' : Heap} {w w' : World} {own : Own} (s : St (zfc w) w h' w' own) (hs : Sub h w) : St h w h w' own :=
 ⟨Le.refl h, fun _ _ => rfl, fun b o hb => s.sub b o (s.le b o (hs b o hb)), s.below, fun p hp => by
  obtain ⟨h1, _, h3⟩ := s.mine p hp;refine ⟨h1, ?_, h3⟩;cases e : h p.1 with
  | none => rfl
  | some o => exact absurd (zcC (hs p.1 o e)) zr, s.nodup⟩
theorem OSl.heap {α : Type} {L : Lay α} {T : TypeId} {h : Heap} {v : Value} {xs : List α} {o : List (Nat × Obj)} (hL : ∀ h1 h2 vs x, L.R h1 vs x → L.R h2 vs x) (e : OSl L T h v xs o) (h' : Heap) : OSl L T h' v xs o := by
 obtain ⟨cs, e1, e2⟩ := e;exact ⟨cs, ⟨e1.1, fun i x hi => hL _ _ _ _ (e1.2 i x hi)⟩, e2⟩
theorem St.to {h0 h : Heap} {w0 w : World} {own own' : Own} (st : St h0 w0 h w own) (e : own = own') : St h0 w0 h w own' := e ▸ st
end Go.Pk

namespace Go.Pk
open Go Go.RowKit
structure VoterR where
 id : Int
 wrong : Int
 hd : Value
def LVoterR : Lay VoterR := { size := 3, R := fun _ vs x => vs = [.int .i64 x.id, .int .i64 x.wrong, x.hd] ∧ x.hd.oneCell' = true, up := (fun h _ => h), len := (by rintro _ _ _ ⟨rfl, _⟩; rfl), one := (by rintro _ _ _ ⟨rfl, h⟩ u hu; simp only [List.mem_cons, List.not_mem_nil, or_false] at hu; rcases hu with rfl | rfl | rfl <;> first | rfl | exact h) }
section
variable {α : Type} {L : Lay α} {T : TypeId} {h0 h h' hB : Heap} {w0 w : World} {own : Own} {v : Value} {xs : List α} {o : List (Nat × Obj)}
def Own1 (L : Lay α) (T : TypeId) (hB h' : Heap) (v : Value) (xs : List α) : Prop := Sl L h' v xs ∧ ∃ o, OSl L T h' v xs o ∧ (o.map (·.1)).Nodup ∧ ∀ p ∈ o, h' p.1 = some p.2 ∧ hB p.1 = none
theorem Own1.up {h2 : Heap} (a : Own1 L T hB h' v xs) (l : Le h' h2) : Own1 L T hB h2 v xs := by
 obtain ⟨s, o, a1, a2, a3⟩ := a;exact ⟨s.up l, o, a1.up l, a2, fun p hp => ⟨l _ _ (a3 p hp).1, (a3 p hp).2⟩⟩
theorem none_le {b : Nat} (l : Le h h') (e : h' b = none) : h b = none := by
 cases q : h b with
 | none => rfl
 | some x => rw [l _ _ q] at e; cases e
theorem Own1.down {h2 : Heap} (a : Own1 L T hB h' v xs) (l : Le h2 hB) : Own1 L T h2 h' v xs := by
 obtain ⟨s, o, a1, a2, a3⟩ := a;exact ⟨s, o, a1, a2, fun p hp => ⟨(a3 p hp).1, none_le l (a3 p hp).2⟩⟩
theorem OSl.freeze1 {k : Nat} (st : St h0 w0 h w own) (e : OSl L T h v xs o) (hk : own[k]? = some o) (hb : xs.length ≤ 281474976710656) : ∃ h', Le h h' ∧ Own1 L T h h' v xs ∧ St h0 w0 h' w (own.set k []) := by
 have e0 := e;obtain ⟨cs, e1, ⟨⟨p, rfl⟩, rfl, rfl⟩ | ⟨g, cap, cur, rfl, rfl, hnc, _, hsz, htk⟩⟩ := e
 ·exact ⟨h, Le.refl h, ⟨⟨p, 0, rfl, ⟨Nat.zero_le _, Nat.zero_le _⟩, .inl rfl⟩, [], e0, by simp, by simp⟩, st.drop k⟩
 obtain ⟨h', hl, hg, st'⟩ := st.freeze hk;have hm := st.mine (g, .cells cur T) (List.mem_flatten.2 ⟨_, List.mem_of_getElem? hk, by simp⟩);refine ⟨h', hl, ⟨⟨_, cap, rfl, ⟨hb, hnc⟩, .inr ⟨g, 0, rfl, fun i x hi => ⟨_, ⟨cur, T, _, hg, fun j u hj => ?_⟩, L.up (e1.2 i x hi) hl⟩⟩⟩, _, e0.up hl, by simp, fun p hp => ?_⟩, st'⟩
 ·have hjl : j < L.size := by
   rw [List.getElem?_take] at hj;split at hj
   ·assumption
   ·cases hj
  rw [List.getElem?_take, if_pos hjl, List.getElem?_drop, ← htk, List.getElem?_take] at hj;split at hj
  ·rw [Nat.zero_add]; simpa using hj
  ·cases hj
 rw [List.mem_singleton] at hp;subst hp;exact ⟨hg, hm.2.1⟩
theorem St.defrost {O : List (Nat × Obj)} (st : St h0 w0 h' w own) (l0 : Le h0 hB) (l : Le hB h') (hO : ∀ p ∈ O, h' p.1 = some p.2 ∧ hB p.1 = none) (hn : (O.map (·.1)).Nodup) : St h0 w0 hB w (own ++ [O]) := by
 refine ⟨l0, fun b hb => ?_, fun b q hq => st.sub b q (l b q hq), st.below, fun p hp => ?_, ?_⟩
 ·have e := st.new b hb;cases q : hB b with
  | some x => rw [← q, q, ← e, l _ _ q]
  | none => exact (none_le l0 q).symm
 ·rw [List.flatten_append, List.mem_append] at hp
  rcases hp with hp | hp
  ·obtain ⟨a, b, c⟩ := st.mine p hp;exact ⟨a, none_le l b, c⟩
  ·simp only [List.flatten_cons, List.flatten_nil, List.append_nil] at hp;obtain ⟨a, b⟩ := hO p hp;refine ⟨st.sub _ _ a, b, ?_⟩
   rcases Nat.lt_or_ge p.1 w0.heap.size with q | q
   ·rw [st.new _ q] at a;rw [l0 _ _ a] at b; cases b
   ·exact q
 rw [List.flatten_append, List.map_append, List.nodup_append];refine ⟨st.nodup, by simpa using hn, ?_⟩;intro a ha b hb e;subst e;obtain ⟨p, hp, rfl⟩ := List.mem_map.1 ha;obtain ⟨q, hq, e⟩ := List.mem_map.1 hb;simp only [List.flatten_cons, List.flatten_nil, List.append_nil] at hq;have h1 := (st.mine p hp).2.1;have h2 := (hO q hq).1;rw [e, h1] at h2; cases h2
theorem St.split {k : Nat} {a b : List (Nat × Obj)} (st : St h0 w0 h w own) (hk : own[k]? = some (a ++ b)) : St h0 w0 h w (own.set k a ++ [b]) := by
 have hlt := (List.getElem?_eq_some_iff.1 hk);obtain ⟨h1, h2⟩ := hlt;have hp : own.flatten.Perm (own.set k a ++ [b]).flatten := by
  have e : own = own.take k ++ (a ++ b) :: own.drop (k + 1) := by
   conv => lhs; rw [← List.take_append_drop k own, List.drop_eq_getElem_cons h1, h2]
  rw [List.set_eq_take_append_cons_drop, if_pos h1]
  conv => lhs; rw [e]
  simp only [List.flatten_append, List.flatten_cons, List.flatten_nil, List.append_nil, List.append_assoc];exact List.Perm.append_left _ (List.Perm.append_left _ List.perm_append_comm)
 exact ⟨st.le, st.new, st.sub, st.below, fun p hq => st.mine p (hp.mem_iff.2 hq), (hp.map _).nodup_iff.1 st.nodup⟩
end
section
variable {T : TypeId} {h h' hB : Heap} {rs : List VoterR} {xs : List Voter} {os : List (List (Nat × Obj))}
def NV (T : TypeId) (hB h : Heap) (rs : List VoterR) (xs : List Voter) : Prop := ∃ os : List (List (Nat × Obj)), rs.length = xs.length ∧ os.length = xs.length ∧
 (∀ (j : Nat) r x o, rs[j]? = some r → xs[j]? = some x → os[j]? = some o → r.id = x.id ∧ r.wrong = x.wrong ∧ OSl LInt T h r.hd x.votes o) ∧ (∀ p ∈ os.flatten, h p.1 = some p.2 ∧ hB p.1 = none) ∧ (os.flatten.map (·.1)).Nodup
theorem NV.nil (T : TypeId) (hB h : Heap) : NV T hB h [] [] := ⟨[], rfl, rfl, by simp, by simp, by simp⟩
theorem NV.len (a : NV T hB h rs xs) : rs.length = xs.length := by obtain ⟨_, a1, _⟩ := a; exact a1
theorem NV.up (a : NV T hB h rs xs) (l : Le h h') : NV T hB h' rs xs := by
 obtain ⟨os, a1, a2, a3, a4, a5⟩ := a;exact ⟨os, a1, a2, fun j r x o e1 e2 e3 => ⟨(a3 j r x o e1 e2 e3).1, (a3 j r x o e1 e2 e3).2.1, (a3 j r x o e1 e2 e3).2.2.up l⟩, fun p hp => ⟨l _ _ (a4 p hp).1, (a4 p hp).2⟩, a5⟩
theorem get_snoc {α : Type} {l : List α} {a b : α} {j : Nat} (e : (l ++ [a])[j]? = some b) : l[j]? = some b ∨ (j = l.length ∧ b = a) := by
 rcases Nat.lt_trichotomy j l.length with q | q | q
 ·rw [List.getElem?_append_left q] at e; exact .inl e
 ·subst q; simp at e; exact .inr ⟨rfl, e.symm⟩
 rw [List.getElem?_eq_none (by simp; omega)] at e; cases e
theorem NV.snoc {x : Voter} {hd : Value} (a : NV T hB h rs xs) (b : Own1 LInt T h h' hd x.votes) (l0 : Le hB h) (l : Le h h') : NV T hB h' (rs ++ [⟨x.id, x.wrong, hd⟩]) (xs ++ [x]) := by
 have a' := a.up l;obtain ⟨os, a1, a2, a3, a4, a5⟩ := a;obtain ⟨_, o, b1, b2, b3⟩ := b;refine ⟨os ++ [o], by simp [a1], by simp [a2], fun j r y q e1 e2 e3 => ?_, fun p hp => ?_, ?_⟩
 ·rcases get_snoc e1 with e1 | ⟨e1, rfl⟩
  ·have hj := (List.getElem?_eq_some_iff.1 e1).1;rw [List.getElem?_append_left zr] at e2 e3;obtain ⟨c1, c2, c3⟩ := a3 j r y q e1 e2 e3;exact ⟨c1, c2, c3.up l⟩
  ·rcases get_snoc e2 with e2 | ⟨_, rfl⟩
   ·have := (List.getElem?_eq_some_iff.1 e2).1; omega
   ·rcases get_snoc e3 with e3 | ⟨_, rfl⟩
    ·have := (List.getElem?_eq_some_iff.1 e3).1; omega
    ·exact ⟨rfl, rfl, b1⟩
 ·rw [List.flatten_append, List.mem_append] at hp
  rcases hp with hp | hp
  ·exact ⟨l _ _ (a4 p hp).1, (a4 p hp).2⟩
  ·simp only [List.flatten_cons, List.flatten_nil, List.append_nil] at hp;exact ⟨(b3 p hp).1, none_le l0 (b3 p hp).2⟩
 rw [List.flatten_append, List.map_append, List.nodup_append];refine ⟨a5, by simpa using b2, ?_⟩;intro c hc d hd' e;subst e;obtain ⟨p, hp, rfl⟩ := List.mem_map.1 hc;obtain ⟨q, hq, e⟩ := List.mem_map.1 hd';simp only [List.flatten_cons, List.flatten_nil, List.append_nil] at hq;have h1 := (a4 p hp).1;have h2 := (b3 q hq).2;rw [e, h1] at h2; cases h2
def NW (T : TypeId) (h : Heap) (rs : List VoterR) (xs : List Voter) (i : Nat) (os : List (List (Nat × Obj))) : Prop := rs.length = xs.length ∧ os.length + i = xs.length ∧
 ∀ (j : Nat) r x, rs[j]? = some r → xs[j]? = some x → r.id = x.id ∧ r.wrong = x.wrong ∧ r.hd.oneCell' = true ∧ (j < i → Sl LInt h r.hd x.votes) ∧ ∀ o, i ≤ j → os[j - i]? = some o → OSl LInt T h r.hd x.votes o
theorem LInt_any : ∀ h1 h2 vs x, LInt.R h1 vs x → LInt.R h2 vs x := fun _ _ _ _ h => h
theorem NV.thaw {h0 : Heap} {w0 w : World} {own : Own} (a : NV T hB h rs xs) (st : St h0 w0 h w own) (l0 : Le h0 hB) (l : Le hB h) : ∃ os, NW T hB rs xs 0 os ∧ St h0 w0 hB w (own ++ [os.flatten]) := by
 obtain ⟨os, a1, a2, a3, a4, a5⟩ := a;refine ⟨os, ⟨a1, by omega, fun j r x e1 e2 => ?_⟩, st.defrost l0 l a4 a5⟩;have hj := (List.getElem?_eq_some_iff.1 e1).1;obtain ⟨c1, c2, c3⟩ := a3 j r x _ e1 e2 (List.getElem?_eq_getElem zr);refine ⟨c1, c2, c3.one, fun q => absurd q zr, fun o _ eo => ?_⟩;obtain ⟨_, _, d⟩ := a3 j r x o e1 e2 eo;exact d.heap LInt_any _
theorem NW.up {i : Nat} (a : NW T h rs xs i os) (l : Le h h') : NW T h' rs xs i os :=
 ⟨a.1, a.2.1, fun j r x e1 e2 => ⟨(a.2.2 j r x e1 e2).1, (a.2.2 j r x e1 e2).2.1, (a.2.2 j r x e1 e2).2.2.1, fun q => ((a.2.2 j r x e1 e2).2.2.2.1 q).up l, fun o q e => ((a.2.2 j r x e1 e2).2.2.2.2 o q e).up l⟩⟩
theorem NW.open {i : Nat} (a : NW T h rs xs i os) {x : Voter} (hx : xs[i]? = some x) : ∃ r o os', rs[i]? = some r ∧ os = o :: os' ∧ r.id = x.id ∧ r.wrong = x.wrong ∧ OSl LInt T h r.hd x.votes o := by
 obtain ⟨a1, a2, a3⟩ := a;have hi := (List.getElem?_eq_some_iff.1 hx).1;cases os with
 | nil => simp at a2; omega
 | cons o os' =>
  obtain ⟨c1, c2, _, _, c5⟩ := a3 i _ x (List.getElem?_eq_getElem zr) hx;exact ⟨_, o, os', List.getElem?_eq_getElem zr, rfl, c1, c2, c5 o (Nat.le_refl _) (by simp)⟩
theorem NW.step {i : Nat} {o : List (Nat × Obj)} (a : NW T h rs xs i (o :: os)) {x : Voter} {r : VoterR} {zs : List Int} {w' : Int} (hr : rs[i]? = some r) (hx : xs[i]? = some x) (hz : Sl LInt h r.hd zs) : NW T h (rs.set i { r with wrong := w' }) (xs.set i ⟨x.id, w', zs⟩) (i + 1) os := by
 obtain ⟨a1, a2, a3⟩ := a;refine ⟨by simp [a1], by simp at a2 ⊢; omega, fun j s y e1 e2 => ?_⟩
 by_cases e : j = i
 ·subst e;rw [List.getElem?_set_self (by have := (List.getElem?_eq_some_iff.1 hr).1; omega)] at e1;rw [List.getElem?_set_self (by have := (List.getElem?_eq_some_iff.1 hx).1; omega)] at e2;cases e1; cases e2;obtain ⟨c1, _, c3, _⟩ := a3 j r x hr hx;exact ⟨c1, rfl, c3, fun _ => hz, fun _ q => absurd q zr⟩
 rw [List.getElem?_set_ne (fun q => e q.symm)] at e1 e2;obtain ⟨c1, c2, c3, c4, c5⟩ := a3 j s y e1 e2;refine ⟨c1, c2, c3, fun q => c4 zr, fun p q eo => c5 p zr ?_⟩;rw [show j - i = (j - (i + 1)) + 1 by omega]; simpa using eo
theorem NW.close {i : Nat} (a : NW T h rs xs i os) (hi : xs.length ≤ i) {T2 : TypeId} {v : Value} {o : List (Nat × Obj)} (e : OSl LVoterR T2 h v rs o) : OSl LVoter T2 h v xs o := by
 obtain ⟨a1, a2, a3⟩ := a;obtain ⟨cs, e1, e2⟩ := e;refine ⟨cs, ⟨by rw [e1.1, a1]; rfl, fun j x hx => ?_⟩, ?_⟩
 ·have hj := (List.getElem?_eq_some_iff.1 hx).1;obtain ⟨r, hr⟩ : ∃ r, rs[j]? = some r := ⟨_, List.getElem?_eq_getElem zr⟩;obtain ⟨c1, c2, _, c4, _⟩ := a3 j r x hr hx;obtain ⟨d1, _⟩ := e1.2 j r hr;refine ⟨r.hd, ?_, c4 zr⟩;rw [← c1, ← c2]; exact d1
 rcases e2 with ⟨p, q, z⟩ | ⟨g, cap, cur, q1, q2, q3, q4, q5, q6⟩
 ·subst q;exact .inl ⟨p, List.eq_nil_of_length_eq_zero (by simpa using a1.symm), z⟩
 exact .inr ⟨g, cap, cur, by rw [q1, a1], q2, by rw [← a1]; exact q3, q4, q5, by rw [← a1]; exact q6⟩
end
end Go.Pk

namespace Go.Pk
open Go Go.RowKit
theorem reads_Place {P : Program} {W : World} {t : TypeId} {fs : Array Field} (hu : P.underlying t = some (.struct fs)) (hc : P.cellsOf t = 3) {f0 : Field} (h0 : fs[0]? = some f0) (o0 : f0.offset = 0) (n0 : P.cellsOf f0.type = 1) (r0 : Reads P W f0.type LInt) {f1 : Field} (h1 : fs[1]? = some f1) (o1 : f1.offset = 1) (n1 : P.cellsOf f1.type = 1) (r1 : Reads P W f1.type LInt) {f2 : Field} (h2 : fs[2]? = some f2) (o2 : f2.offset = 2) (n2 : P.cellsOf f2.type = 1) (r2 : Reads P W f2.type LInt) : Reads P W t LPlace := by
 intro H enc sp held fuel cs d ps h hw;obtain ⟨hl, hf⟩ := zdD hu hc h hw
 match cs, hl with
 | [c0, c1, c2], _ =>
 obtain ⟨x0, e0⟩ := hf 0 f0 h0 r0;rw [o0, n0] at e0;simp only [List.drop_succ_cons, List.drop_zero, List.take_succ_cons, List.take_zero] at e0;cases (show [c0] = [_] from e0);obtain ⟨x1, e1⟩ := hf 1 f1 h1 r1;rw [o1, n1] at e1;simp only [List.drop_succ_cons, List.drop_zero, List.take_succ_cons, List.take_zero] at e1;cases (show [c1] = [_] from e1);obtain ⟨x2, e2⟩ := hf 2 f2 h2 r2;rw [o2, n2] at e2;simp only [List.drop_succ_cons, List.drop_zero, List.take_succ_cons, List.take_zero] at e2;cases (show [c2] = [_] from e2);exact ⟨⟨x0, x1, x2⟩, rfl⟩
theorem reads_Chapter {P : Program} {W : World} {t : TypeId} {fs : Array Field} (hu : P.underlying t = some (.struct fs)) (hc : P.cellsOf t = 2) {f0 : Field} (h0 : fs[0]? = some f0) (o0 : f0.offset = 0) (n0 : P.cellsOf f0.type = 1) (r0 : Reads P W f0.type LInt) {f1 : Field} (h1 : fs[1]? = some f1) (o1 : f1.offset = 1) (n1 : P.cellsOf f1.type = 1) (r1 : Reads P W f1.type (LSl (LSl LStr))) : Reads P W t LChapter := by
 intro H enc sp held fuel cs d ps h hw;obtain ⟨hl, hf⟩ := zdD hu hc h hw
 match cs, hl with
 | [c0, c1], _ =>
 obtain ⟨x0, e0⟩ := hf 0 f0 h0 r0;rw [o0, n0] at e0;simp only [List.drop_succ_cons, List.drop_zero, List.take_succ_cons, List.take_zero] at e0;cases (show [c0] = [_] from e0);obtain ⟨x1, e1⟩ := hf 1 f1 h1 r1;rw [o1, n1] at e1;simp only [List.drop_succ_cons, List.drop_zero, List.take_succ_cons, List.take_zero] at e1;obtain ⟨v1, q1, g1⟩ := e1;cases q1;exact ⟨⟨x0, x1⟩, ⟨_, rfl, g1⟩⟩
theorem reads_Text {P : Program} {W : World} {t : TypeId} {fs : Array Field} (hu : P.underlying t = some (.struct fs)) (hc : P.cellsOf t = 1) {f0 : Field} (h0 : fs[0]? = some f0) (o0 : f0.offset = 0) (n0 : P.cellsOf f0.type = 1) (r0 : Reads P W f0.type (LSl LChapter)) : Reads P W t LText := by
 intro H enc sp held fuel cs d ps h hw;obtain ⟨hl, hf⟩ := zdD hu hc h hw
 match cs, hl with
 | [c0], _ =>
 obtain ⟨x0, e0⟩ := hf 0 f0 h0 r0;rw [o0, n0] at e0;simp only [List.drop_succ_cons, List.drop_zero, List.take_succ_cons, List.take_zero] at e0;obtain ⟨v0, q0, g0⟩ := e0;cases q0;exact ⟨⟨x0⟩, ⟨_, rfl, g0⟩⟩
theorem reads_Head {P : Program} {W : World} {t : TypeId} {fs : Array Field} (hu : P.underlying t = some (.struct fs)) (hc : P.cellsOf t = 2) {f0 : Field} (h0 : fs[0]? = some f0) (o0 : f0.offset = 0) (n0 : P.cellsOf f0.type = 1) (r0 : Reads P W f0.type LStr) {f1 : Field} (h1 : fs[1]? = some f1) (o1 : f1.offset = 1) (n1 : P.cellsOf f1.type = 1) (r1 : Reads P W f1.type LU8) : Reads P W t LHead := by
 intro H enc sp held fuel cs d ps h hw;obtain ⟨hl, hf⟩ := zdD hu hc h hw
 match cs, hl with
 | [c0, c1], _ =>
 obtain ⟨x0, e0⟩ := hf 0 f0 h0 r0;rw [o0, n0] at e0;simp only [List.drop_succ_cons, List.drop_zero, List.take_succ_cons, List.take_zero] at e0;obtain ⟨q0, g0⟩ := e0;cases q0;obtain ⟨x1, e1⟩ := hf 1 f1 h1 r1;rw [o1, n1] at e1;simp only [List.drop_succ_cons, List.drop_zero, List.take_succ_cons, List.take_zero] at e1;obtain ⟨q1, g1⟩ := e1;cases q1;exact ⟨⟨x0, x1⟩, ⟨rfl, g0, g1⟩⟩
theorem reads_Rule {P : Program} {W : World} {t : TypeId} {fs : Array Field} (hu : P.underlying t = some (.struct fs)) (hc : P.cellsOf t = 3) {f0 : Field} (h0 : fs[0]? = some f0) (o0 : f0.offset = 0) (n0 : P.cellsOf f0.type = 1) (r0 : Reads P W f0.type LStr) {f1 : Field} (h1 : fs[1]? = some f1) (o1 : f1.offset = 1) (n1 : P.cellsOf f1.type = 1) (r1 : Reads P W f1.type LStr) {f2 : Field} (h2 : fs[2]? = some f2) (o2 : f2.offset = 2) (n2 : P.cellsOf f2.type = 1) (r2 : Reads P W f2.type LInt) : Reads P W t LRule := by
 intro H enc sp held fuel cs d ps h hw;obtain ⟨hl, hf⟩ := zdD hu hc h hw
 match cs, hl with
 | [c0, c1, c2], _ =>
 obtain ⟨x0, e0⟩ := hf 0 f0 h0 r0;rw [o0, n0] at e0;simp only [List.drop_succ_cons, List.drop_zero, List.take_succ_cons, List.take_zero] at e0;obtain ⟨q0, g0⟩ := e0;cases q0;obtain ⟨x1, e1⟩ := hf 1 f1 h1 r1;rw [o1, n1] at e1;simp only [List.drop_succ_cons, List.drop_zero, List.take_succ_cons, List.take_zero] at e1;obtain ⟨q1, g1⟩ := e1;cases q1;obtain ⟨x2, e2⟩ := hf 2 f2 h2 r2;rw [o2, n2] at e2;simp only [List.drop_succ_cons, List.drop_zero, List.take_succ_cons, List.take_zero] at e2;cases (show [c2] = [_] from e2);exact ⟨⟨x0, x1, x2⟩, ⟨rfl, g0, g1⟩⟩
theorem reads_Decision {P : Program} {W : World} {t : TypeId} {fs : Array Field} (hu : P.underlying t = some (.struct fs)) (hc : P.cellsOf t = 9) {f0 : Field} (h0 : fs[0]? = some f0) (o0 : f0.offset = 0) (n0 : P.cellsOf f0.type = 1) (r0 : Reads P W f0.type LInt) {f1 : Field} (h1 : fs[1]? = some f1) (o1 : f1.offset = 1) (n1 : P.cellsOf f1.type = 1) (r1 : Reads P W f1.type LU8) {f2 : Field} (h2 : fs[2]? = some f2) (o2 : f2.offset = 2) (n2 : P.cellsOf f2.type = 1) (r2 : Reads P W f2.type LStr) {f3 : Field} (h3 : fs[3]? = some f3) (o3 : f3.offset = 3) (n3 : P.cellsOf f3.type = 3) (r3 : Reads P W f3.type LPlace) {f4 : Field} (h4 : fs[4]? = some f4) (o4 : f4.offset = 6) (n4 : P.cellsOf f4.type = 2) (r4 : Reads P W f4.type LHead) {f5 : Field} (h5 : fs[5]? = some f5) (o5 : f5.offset = 8) (n5 : P.cellsOf f5.type = 1) (r5 : Reads P W f5.type LInt) : Reads P W t LDecision := by
 intro H enc sp held fuel cs d ps h hw;obtain ⟨hl, hf⟩ := zdD hu hc h hw
 match cs, hl with
 | [c0, c1, c2, c3, c4, c5, c6, c7, c8], _ =>
 obtain ⟨x0, e0⟩ := hf 0 f0 h0 r0;rw [o0, n0] at e0;simp only [List.drop_succ_cons, List.drop_zero, List.take_succ_cons, List.take_zero] at e0;cases (show [c0] = [_] from e0);obtain ⟨x1, e1⟩ := hf 1 f1 h1 r1;rw [o1, n1] at e1;simp only [List.drop_succ_cons, List.drop_zero, List.take_succ_cons, List.take_zero] at e1;obtain ⟨q1, g1⟩ := e1;cases q1;obtain ⟨x2, e2⟩ := hf 2 f2 h2 r2;rw [o2, n2] at e2;simp only [List.drop_succ_cons, List.drop_zero, List.take_succ_cons, List.take_zero] at e2;obtain ⟨q2, g2⟩ := e2;cases q2;obtain ⟨x3, e3⟩ := hf 3 f3 h3 r3;rw [o3, n3] at e3;simp only [List.drop_succ_cons, List.drop_zero, List.take_succ_cons, List.take_zero] at e3;have q3 := e3;cases (show [c3, c4, c5] = _ from q3);obtain ⟨x4, e4⟩ := hf 4 f4 h4 r4;rw [o4, n4] at e4;simp only [List.drop_succ_cons, List.drop_zero, List.take_succ_cons, List.take_zero] at e4;obtain ⟨q4, g4_0, g4_1⟩ := e4;cases (show [c6, c7] = _ from q4);obtain ⟨x5, e5⟩ := hf 5 f5 h5 r5;rw [o5, n5] at e5;simp only [List.drop_succ_cons, List.drop_zero, List.take_succ_cons, List.take_zero] at e5;cases (show [c8] = [_] from e5);exact ⟨⟨x0, x1, x2, x3, x4, x5⟩, ⟨rfl, g1, g2, g4_0, g4_1⟩⟩
theorem reads_Lexicon {P : Program} {W : World} {t : TypeId} {fs : Array Field} (hu : P.underlying t = some (.struct fs)) (hc : P.cellsOf t = 2) {f0 : Field} (h0 : fs[0]? = some f0) (o0 : f0.offset = 0) (n0 : P.cellsOf f0.type = 1) (r0 : Reads P W f0.type (LSl LRule)) {f1 : Field} (h1 : fs[1]? = some f1) (o1 : f1.offset = 1) (n1 : P.cellsOf f1.type = 1) (r1 : Reads P W f1.type (LSl LDecision)) : Reads P W t LLexicon := by
 intro H enc sp held fuel cs d ps h hw;obtain ⟨hl, hf⟩ := zdD hu hc h hw
 match cs, hl with
 | [c0, c1], _ =>
 obtain ⟨x0, e0⟩ := hf 0 f0 h0 r0;rw [o0, n0] at e0;simp only [List.drop_succ_cons, List.drop_zero, List.take_succ_cons, List.take_zero] at e0;obtain ⟨v0, q0, g0⟩ := e0;cases q0;obtain ⟨x1, e1⟩ := hf 1 f1 h1 r1;rw [o1, n1] at e1;simp only [List.drop_succ_cons, List.drop_zero, List.take_succ_cons, List.take_zero] at e1;obtain ⟨v1, q1, g1⟩ := e1;cases q1;exact ⟨⟨x0, x1⟩, ⟨_, _, rfl, g0, g1⟩⟩
theorem reads_Question {P : Program} {W : World} {t : TypeId} {fs : Array Field} (hu : P.underlying t = some (.struct fs)) (hc : P.cellsOf t = 4) {f0 : Field} (h0 : fs[0]? = some f0) (o0 : f0.offset = 0) (n0 : P.cellsOf f0.type = 3) (r0 : Reads P W f0.type LPlace) {f1 : Field} (h1 : fs[1]? = some f1) (o1 : f1.offset = 3) (n1 : P.cellsOf f1.type = 1) (r1 : Reads P W f1.type (LSl LHead)) : Reads P W t LQuestion := by
 intro H enc sp held fuel cs d ps h hw;obtain ⟨hl, hf⟩ := zdD hu hc h hw
 match cs, hl with
 | [c0, c1, c2, c3], _ =>
 obtain ⟨x0, e0⟩ := hf 0 f0 h0 r0;rw [o0, n0] at e0;simp only [List.drop_succ_cons, List.drop_zero, List.take_succ_cons, List.take_zero] at e0;have q0 := e0;cases (show [c0, c1, c2] = _ from q0);obtain ⟨x1, e1⟩ := hf 1 f1 h1 r1;rw [o1, n1] at e1;simp only [List.drop_succ_cons, List.drop_zero, List.take_succ_cons, List.take_zero] at e1;obtain ⟨v1, q1, g1⟩ := e1;cases q1;exact ⟨⟨x0, x1⟩, ⟨_, rfl, g1⟩⟩
theorem reads_Voter {P : Program} {W : World} {t : TypeId} {fs : Array Field} (hu : P.underlying t = some (.struct fs)) (hc : P.cellsOf t = 3) {f0 : Field} (h0 : fs[0]? = some f0) (o0 : f0.offset = 0) (n0 : P.cellsOf f0.type = 1) (r0 : Reads P W f0.type LInt) {f1 : Field} (h1 : fs[1]? = some f1) (o1 : f1.offset = 1) (n1 : P.cellsOf f1.type = 1) (r1 : Reads P W f1.type LInt) {f2 : Field} (h2 : fs[2]? = some f2) (o2 : f2.offset = 2) (n2 : P.cellsOf f2.type = 1) (r2 : Reads P W f2.type (LSl LInt)) : Reads P W t LVoter := by
 intro H enc sp held fuel cs d ps h hw;obtain ⟨hl, hf⟩ := zdD hu hc h hw
 match cs, hl with
 | [c0, c1, c2], _ =>
 obtain ⟨x0, e0⟩ := hf 0 f0 h0 r0;rw [o0, n0] at e0;simp only [List.drop_succ_cons, List.drop_zero, List.take_succ_cons, List.take_zero] at e0;cases (show [c0] = [_] from e0);obtain ⟨x1, e1⟩ := hf 1 f1 h1 r1;rw [o1, n1] at e1;simp only [List.drop_succ_cons, List.drop_zero, List.take_succ_cons, List.take_zero] at e1;cases (show [c1] = [_] from e1);obtain ⟨x2, e2⟩ := hf 2 f2 h2 r2;rw [o2, n2] at e2;simp only [List.drop_succ_cons, List.drop_zero, List.take_succ_cons, List.take_zero] at e2;obtain ⟨v2, q2, g2⟩ := e2;cases q2;exact ⟨⟨x0, x1, x2⟩, ⟨_, rfl, g2⟩⟩
theorem reads_Poll {P : Program} {W : World} {t : TypeId} {fs : Array Field} (hu : P.underlying t = some (.struct fs)) (hc : P.cellsOf t = 5) {f0 : Field} (h0 : fs[0]? = some f0) (o0 : f0.offset = 0) (n0 : P.cellsOf f0.type = 1) (r0 : Reads P W f0.type LText) {f1 : Field} (h1 : fs[1]? = some f1) (o1 : f1.offset = 1) (n1 : P.cellsOf f1.type = 2) (r1 : Reads P W f1.type LLexicon) {f2 : Field} (h2 : fs[2]? = some f2) (o2 : f2.offset = 3) (n2 : P.cellsOf f2.type = 1) (r2 : Reads P W f2.type (LSl LQuestion)) {f3 : Field} (h3 : fs[3]? = some f3) (o3 : f3.offset = 4) (n3 : P.cellsOf f3.type = 1) (r3 : Reads P W f3.type (LSl LVoter)) : Reads P W t LPoll := by
 intro H enc sp held fuel cs d ps h hw;obtain ⟨hl, hf⟩ := zdD hu hc h hw
 match cs, hl with
 | [c0, c1, c2, c3, c4], _ =>
 obtain ⟨x0, e0⟩ := hf 0 f0 h0 r0;rw [o0, n0] at e0;simp only [List.drop_succ_cons, List.drop_zero, List.take_succ_cons, List.take_zero] at e0;obtain ⟨w0_0, q0, g0_0⟩ := e0;cases (show [c0] = _ from q0);obtain ⟨x1, e1⟩ := hf 1 f1 h1 r1;rw [o1, n1] at e1;simp only [List.drop_succ_cons, List.drop_zero, List.take_succ_cons, List.take_zero] at e1;obtain ⟨w1_0, w1_1, q1, g1_0, g1_1⟩ := e1;cases (show [c1, c2] = _ from q1);obtain ⟨x2, e2⟩ := hf 2 f2 h2 r2;rw [o2, n2] at e2;simp only [List.drop_succ_cons, List.drop_zero, List.take_succ_cons, List.take_zero] at e2;obtain ⟨v2, q2, g2⟩ := e2;cases q2;obtain ⟨x3, e3⟩ := hf 3 f3 h3 r3;rw [o3, n3] at e3;simp only [List.drop_succ_cons, List.drop_zero, List.take_succ_cons, List.take_zero] at e3;obtain ⟨v3, q3, g3⟩ := e3;cases q3;exact ⟨⟨x0, x1, x2, x3⟩, ⟨_, _, _, _, _, rfl, g0_0, g1_0, g1_1, g2, g3⟩⟩
end Go.Pk

namespace Go.Pk
open Go Go.RowKit
theorem St.setAt {h0 h : Heap} {w0 w : World} {A C : Own} {b : Nat} {o : Obj} (st : St h0 w0 h w (A ++ [(b, o)] :: C)) (o' : Obj) : St h0 w0 h (w.putObj b o') (A ++ [(b, o')] :: C) := by
 have := st.set (k := A.length) (b := b) (o := o) o' (by simp);have e : (A ++ [(b, o)] :: C).set A.length [(b, o')] = A ++ [(b, o')] :: C := by
  rw [List.set_append_right _ _ (Nat.le_refl _), Nat.sub_self, List.set_cons_zero]
 rw [e] at this; exact this
theorem St.at {h0 h : Heap} {w0 w : World} {A C : Own} {b : Nat} {o : Obj} (st : St h0 w0 h w (A ++ [(b, o)] :: C)) : w.heap[b]? = some o := st.get (k := A.length) (by simp)
def Yields (P : Program) (l : Nat) (args : Array Value) (w : World) (R : Value → World → Prop) : Prop :=
 ∃ fn tmps assign body, (Instr.yield l args).run P w = .ok (.round l fn tmps assign body) w ∧ RoundIn Fence.wide 0 P l fn tmps assign body w fun e w' => ∃ v, e = .returned v ∧ R v w'
theorem OpsL.yields {P : Program} {n : Nat} {ops : Array Oper} {rest : List Oper} {K : Env → World → Prop} {σ : Env} {w : World} {o : Oper} {x : Operand} {args : Array Operand} {ats : Array TypeId} {l : Nat} {vs : List Value}
  (ho : o.op = .call ⟨.value x, args, ats⟩) (hg : o.guard = none) (hd : zfw n o.dst = true) (hx : ev σ x = .func (.yield l) #[] #[]) (hv : args.toList.map (ev σ) = vs)
  (h : Yields P l vs.toArray w fun v w' => OpsL P n ops rest K (updO σ o.dst v) w') : OpsL P n ops (o :: rest) K σ w := by
 obtain ⟨fn, tmps, assign, body, hr, hR⟩ := h;refine OpsL.round (l := l) (f := fn) (tmps := tmps) (assign := assign) (body := body) (w' := w) hg hd ?_ hR;subst hv;have e : args.map (ev σ) = (args.toList.map (ev σ)).toArray := amap (ev σ) args;rw [← e] at hr;unfold execOp;simp [ho, resolve, hx, invoke, callFunc, hr, go_sem]
theorem St.tl {h0 h : Heap} {w0 w : World} {o : List (Nat × Obj)} {own : Own} (st : St h0 w0 h w (o :: own)) : St h0 w0 h w own := by
 have s := st.drop 0;rw [List.set_cons_zero] at s;exact ⟨s.le, s.new, s.sub, s.below, fun p hp => s.mine p (by simpa using hp), by simpa using s.nodup⟩
theorem Yields.mono {P : Program} {l : Nat} {args : Array Value} {w : World} {R R' : Value → World → Prop} (h : Yields P l args w R) (hr : ∀ v w', R v w' → R' v w') : Yields P l args w R' := by
 obtain ⟨fn, tmps, assign, body, hrun, hR⟩ := h;exact ⟨fn, tmps, assign, body, hrun, RoundIn.mono hR fun e w' ⟨v, he, h⟩ => ⟨v, he, hr v w' h⟩⟩
theorem zeR {P : Program} {n : Nat} {ops : Array Oper} {rest : List Oper} {K : Env → World → Prop} {σ : Env} {w : World} {o : Oper} {x : Operand} {args : Array Operand} {ats : Array TypeId} {l : Nat} {vs : List Value} {h0 h1 : Heap} {w0 : World} {B : Own} {J1 J2 : Heap → Own → Prop}
  (ho : o.op = .call ⟨.value x, args, ats⟩) (hg : o.guard = none) (hd : zfw n o.dst = true) (hx : ev σ x = .func (.yield l) #[] #[]) (hv : args.toList.map (ev σ) = vs)
  (h : Yields P l vs.toArray w fun v w2 => ∃ h2 rest2, Le h1 h2 ∧ St h0 w0 h2 w2 (B ++ rest2) ∧ ((v = .bool true ∧ J1 h2 rest2) ∨ (v = .bool false ∧ J2 h2 rest2)))
  (hk : ∀ b w2 h2 rest2, Le h1 h2 → St h0 w0 h2 w2 (B ++ rest2) → (b = true → J1 h2 rest2) → (b = false → J2 h2 rest2) → OpsL P n ops rest K (updO σ o.dst (.bool b)) w2) : OpsL P n ops (o :: rest) K σ w := by
 refine OpsL.yields ho hg hd hx hv (h.mono ?_);rintro v w2 ⟨h2, rest2, le, st, ⟨rfl, hj⟩ | ⟨rfl, hj⟩⟩
 ·exact hk true w2 h2 rest2 le st (fun _ => hj) (fun e => by cases e)
 ·exact hk false w2 h2 rest2 le st (fun e => by cases e) (fun _ => hj)
theorem zcV {P : Program} {n : Nat} {ops : Array Oper} {rest : List Oper} {K : Env → World → Prop} {σ : Env} {w w0 : World} {h0 h : Heap} {own : Own} {o : Oper} {f : FuncId} {x : Operand} {fs cs : List Value} {args : Array Operand} {ats : Array TypeId} {vs : List Value} {Φ : Heap → World → Value → Prop} (st : St h0 w0 h w own) (ho : o.op = .call ⟨.value x, args, ats⟩) (hx : ev σ x = .func (.func f) fs.toArray cs.toArray) (hg : o.guard = none) (hd : zfw n o.dst = true) (hf : ∀ a w, (callFunc f a).run P w = .ok (.enter f a) w)
  (hv : fs ++ args.toList.map (ev σ) ++ cs = vs) (hc : Calls P f vs.toArray w (Rets h w Φ))
  (hk : ∀ v w' h', Le h h' → St h0 w0 h' w' own → Φ h' w' v → OpsL P n ops rest K (updO σ o.dst v) w') : OpsL P n ops (o :: rest) K σ w := by
 refine zaE hg hd (zce ho hx hf hv) (hc.mono ?_);rintro e w' ⟨h', v, rfl, s, hΦ⟩;exact ⟨v, rfl, hk v w' h' s.le (st.call0 s) hΦ⟩
def Gives {α : Type} (P : Program) (gf : FuncId) (caps : List Value) (A : Heap → Value → α → Prop) (S : List α → Prop) (h0 : Heap) (w0 : World) (h : Heap) : Prop :=
 ∀ (l : Nat) (J Jx : List α → Heap → Own → Prop),
  (∀ xs h1 h2 o, J xs h1 o → Le h1 h2 → J xs h2 o) → (∀ xs h1 h2 o, Jx xs h1 o → Le h1 h2 → Jx xs h2 o) →
  (∀ pre x h1 w1 B rest u, Le h h1 → J pre h1 rest → St h0 w0 h1 w1 (B ++ rest) → A h1 u x → Yields P l #[u] w1 fun v w2 => ∃ h2 rest2, Le h1 h2 ∧ St h0 w0 h2 w2 (B ++ rest2) ∧ ((v = .bool true ∧ J (pre ++ [x]) h2 rest2) ∨ (v = .bool false ∧ Jx (pre ++ [x]) h2 rest2))) →
  ∀ h1 w rest, Le h h1 → J [] h1 rest → St h0 w0 h1 w rest →
   Calls P gf (.func (.yield l) #[] #[] :: caps).toArray w fun e w' => ∃ h' rest' v, e = .returned v ∧ Le h1 h' ∧ St h0 w0 h' w' rest' ∧ ((∃ xs, S xs ∧ J xs h' rest') ∨ (∃ pre, Jx pre h' rest'))

structure FitsD (ds : List Deferred) (n : Nat) (a : Act) (σ : Env) : Prop where
 size : a.tmps.size = n
 defers : a.defers = ds
 at_ : ∀ i, a.tmps.getD i undef = σ i
abbrev VS := List Deferred × Env
theorem FitsD.bare {ds : List Deferred} {n : Nat} {a : Act} {σ : Env} (h : FitsD ds n a σ) : Fits n { a with defers := [] } σ := ⟨h.size, rfl, h.at_⟩
theorem FitsD.eval {ds : List Deferred} {n : Nat} {a : Act} {σ : Env} (h : FitsD ds n a σ) : a.eval = ev σ := by
 funext x; cases x <;> simp only [Act.eval, ev]; exact h.at_ _
def V (F : Fence) (P : Program) (n : Nat) (c : Code) (Q : Exit → VS → World → Prop) (s : VS) (w : World) : Prop :=
 ∀ k a, FitsD s.1 n a s.2 → c.wpIn F k P (fun e a' w' => ∃ s' : VS, FitsD s'.1 n a' s'.2 ∧ Q e s' w') a w
def ThenV (K : VS → World → Prop) (Q : Exit → VS → World → Prop) : Exit → VS → World → Prop
 | .normal, σ, w => K σ w
 | e, σ, w => Q e σ w
def BlkV (id : Nat) (Q : Exit → VS → World → Prop) : Exit → VS → World → Prop
 | .exit id', σ, w => if id' = id then Q .normal σ w else Q (.exit id') σ w
 | e, σ, w => Q e σ w
theorem zaV {K : VS → World → Prop} {Q : Exit → VS → World → Prop} {s : VS} {w : World} (h : K s w) : ThenV K Q .normal s w := h
theorem ThenV.exit {K : VS → World → Prop} {Q : Exit → VS → World → Prop} {s : VS} {w : World} {id : Nat} (h : Q (.exit id) s w) : ThenV K Q (.exit id) s w := h
theorem ThenV.ret {K : VS → World → Prop} {Q : Exit → VS → World → Prop} {s : VS} {w : World} (h : Q .ret s w) : ThenV K Q .ret s w := h
theorem zdq {id : Nat} {Q : Exit → VS → World → Prop} {s : VS} {w : World} (h : Q .normal s w) : BlkV id Q .normal s w := h
theorem BlkV.ret {id : Nat} {Q : Exit → VS → World → Prop} {s : VS} {w : World} (h : Q .ret s w) : BlkV id Q .ret s w := h
section
variable {F : Fence} {P : Program} {n : Nat} {Q : Exit → VS → World → Prop} {s : VS} {w : World}
theorem V.skip (h : Q .normal s w) : V F P n .skip Q s w := fun _ _ ha => wpIn_skip ⟨s, ha, h⟩
theorem V.label {l : Nat} (h : Q .normal s w) : V F P n (.label l) Q s w := fun _ _ ha => wpIn_label ⟨s, ha, h⟩
theorem V.exit {id : Nat} (h : Q (.exit id) s w) : V F P n (.exit id) Q s w := fun _ _ ha => wpIn_exit ⟨s, ha, h⟩
theorem V.ret (h : Q .ret s w) : V F P n .ret Q s w := fun _ _ ha => wpIn_ret ⟨s, ha, h⟩
theorem zdv {x y : Code} (h : V F P n x (ThenV (V F P n y Q) Q) s w) : V F P n (.seq x y) Q s w := by
 intro k a ha;refine wpIn_seq (wpIn_mono (h k a ha) ?_);rintro e a' w' ⟨s', hf, q⟩;cases e <;> first | exact q k a' hf | exact ⟨s', hf, q⟩
theorem zht {id : Nat} {c : Code} (h : V F P n c (BlkV id Q) s w) : V F P n (.block id c) Q s w := by
 intro k a ha;refine wpIn_block (wpIn_mono (h k a ha) ?_);rintro e a' w' ⟨s', hf, q⟩;cases e with
 | exit id' =>
  simp only [BlkV] at q;simp only [Exit.inBlock];split
  ·rename_i h; rw [if_pos h] at q; exact ⟨s', hf, q⟩
  ·rename_i h; rw [if_neg h] at q; exact ⟨s', hf, q⟩
 | _ => exact ⟨s', hf, q⟩
theorem V.cond {c : Operand} {x y : Code} {t : Bool} (hc : ev s.2 c = .bool t) (ht : t = true → V F P n x Q s w) (hf : t = false → V F P n y Q s w) : V F P n (.cond c x y) Q s w := by
 intro k a ha;exact wpIn_cond_split (t := t) (by rw [ha.eval]; exact hc) (fun e => ht e k a ha) (fun e => hf e k a ha)
def noDefer : List Oper → Bool
 | [] => true
 | o :: l => (match o.op with | .defer _ => false | _ => true) && noDefer l
theorem noDefer_one {o : Oper} (h : (match o.op with | .defer _ => false | _ => true) = true) : ∀ c, o.op ≠ .defer c := by
 intro c e; rw [e] at h; cases h
theorem listIn_of {ops : Array Oper} {ds : List Deferred} {q : Exit → Act → World → Prop} {q' : Exit → Act → World → Prop} {r : Option Nat} (hq : ∀ e a1 a2 w, a2.tmps = a1.tmps → a2.defers = a1.defers ++ ds → q e a1 w → q' e a2 w) (hn : ∀ e a w, q e a w → e = .normal) {k : Nat} :
  ∀ (l : List Oper) (a1 a2 : Act) (w : World), noDefer l = true → a2.tmps = a1.tmps → a2.defers = a1.defers ++ ds → wpListIn Fence.wide 0 P ops q l a1 w → wpListIn { Fence.wide with round := r } k P ops q' l a2 w
 | [], a1, a2, w, _, h1, h2, h => hq _ _ _ _ h1 h2 h
 | o :: l, a1, a2, w, hd, h1, h2, h => by
  simp only [noDefer, Bool.and_eq_true] at hd;have ih := fun a1 a2 w => listIn_of (r := r) (ops := ops) hq hn (k := k) l a1 a2 w hd.2;have hev : a2.eval = a1.eval := by funext x; cases x <;> simp only [Act.eval, h1]
  unfold wpListIn at h ⊢;rw [h1];have hp1 : ∀ (d : Option Tmp) (v : Value), (a2.put d v).tmps = (a1.put d v).tmps := by
   intro d v; cases d <;> simp [Act.put, h1]
  have hp2 : ∀ (d : Option Tmp) (v : Value), (a2.put d v).defers = (a1.put d v).defers ++ ds := by
   intro d v; cases d <;> simp [Act.put, h2]
  split
  ·rename_i hw;rw [if_pos hw] at h;obtain ⟨_, h⟩ := h;refine ⟨fun _ _ => trivial, ?_⟩;rw [Oper.semAt_eq _ _ _ (noDefer_one hd.1), hev];have h : o.uponIn Fence.wide 0 P a1 _ _ ((execOp a1.eval o).run P w) := h;cases hr : (execOp a1.eval o).run P w with
   | ok nx w' =>
    rw [hr] at h;cases nx with
    | value v => exact ih _ _ _ (hp1 _ _) (hp2 _ _) h
    | skip => exact ih _ _ _ (hp1 _ _) (hp2 _ _) h
    | defer d =>
     refine ih _ _ _ ?_ ?_ h
     ·cases o.dst <;> simp [Act.put, h1]
     ·cases o.dst <;> simp [Act.put, h2]
    | enter f args =>
     refine ⟨fun hh => absurd hh (by simp [Fence.wide]), ?_⟩;have h2' := (callsIn_wide (n := k - 1)).2 (callsIn_wide.1 h.2);have h3 : CallsIn { Fence.wide with round := r } (k - 1) P f args w' _ := h2';refine CallsIn.mono h3 ?_;intro e w'' he;cases e with
     | returned v => exact ih _ _ _ (hp1 _ _) (hp2 _ _) he
     | panicked c => exact absurd (hn _ _ _ he) (by simp)
     | outgrown => obtain ⟨_, _, he⟩ := he; exact absurd (hn _ _ _ he) (by simp)
    | round l f tmps assign body =>
     refine ⟨fun hh => absurd hh (by simp [Fence.wide]), ?_⟩;have h3 : RoundIn { Fence.wide with round := r } (k - 1) P l f tmps assign body w' _ := ⟨trivial, fun c cs _ => h.2.2 c cs (room_wide _)⟩;refine RoundIn.mono h3 ?_;intro e w'' he;cases e with
     | returned v => exact ih _ _ _ (hp1 _ _) (hp2 _ _) he
     | panicked c => exact absurd (hn _ _ _ he) (by simp)
     | outgrown => obtain ⟨_, _, he⟩ := he; exact absurd (hn _ _ _ he) (by simp)
    | row rw_ args =>
     refine ⟨fun hh => absurd hh (by simp [Fence.wide]), ?_⟩;have h3 : RowsIn { Fence.wide with round := r } (k - 1) P rw_ args w' _ := fun c cs _ => h.2 c cs (room_wide _);refine RowsIn.mono h3 ?_;intro v w'' he;exact ih _ _ _ (hp1 _ _) (hp2 _ _) he
    | _ => exact h.elim
   | halt x w' =>
    rw [hr] at h;cases x with
    | panic v => exact absurd (hn _ _ _ h) (by simp)
    | _ => exact h.elim
  ·rename_i hw;rw [if_neg hw] at h;obtain ⟨_, h⟩ := h;exact ⟨fun _ _ => trivial, ih _ _ _ (hp1 _ _) (hp2 _ _) h⟩
theorem zbo {r : Option Nat} {ds : List Deferred} {σ : Env} {id : Nat} {l : List Oper} (hnd : noDefer l = true) (h : OpsL P n l.toArray l (fun σ w => Q .normal (ds, σ) w) σ w) : V { Fence.wide with round := r } P n (.region id l.toArray false) Q (ds, σ) w := by
 intro k a ha;refine wpIn_region_lit (listIn_of (ds := ds) ?_ ?_ l { a with defers := [] } a w hnd rfl (by simpa using ha.defers) (h _ ha.bare))
 ·rintro e a1 a2 w h1 h2 ⟨rfl, σ', hf, q⟩;refine ⟨(ds, σ'), ⟨by rw [h1]; exact hf.size, by rw [h2, hf.defers]; rfl, by rw [h1]; exact hf.at_⟩, q⟩
 rintro e a w ⟨rfl, _⟩; rfl
end
theorem V.mono {F : Fence} {P : Program} {n : Nat} {Q Q' : Exit → VS → World → Prop} {s : VS} {w : World} {c : Code} (h : V F P n c Q s w) (hq : ∀ e s w, Q e s w → Q' e s w) : V F P n c Q' s w :=
 fun k a ha => wpIn_mono (h k a ha) fun _ _ _ ⟨s', hf, q⟩ => ⟨s', hf, hq _ _ _ q⟩
theorem V.ofW {P : Program} {n : Nat} {c : Code} {Q : Exit → VS → World → Prop} {σ : Env} {w : World} (h : W P n c (fun e σ' w' => Q e ([], σ') w') σ w) : V Fence.wide P n c Q ([], σ) w := by
 intro k a ha;have hf : Fits n a σ := ⟨ha.size, ha.defers, ha.at_⟩;refine (wpIn_wide (n := k)).2 (Code.wp_mono ?_ (h a hf));rintro e a' w' ⟨σ', hf', q⟩;exact ⟨([], σ'), ⟨hf'.size, hf'.defers, hf'.at_⟩, q⟩
def RPost {α : Type} (I : List α → Heap → Own → Prop) (Ix : Code → List α → Heap → Own → Prop) (h0 : Heap) (w0 : World) (h2 : Heap) (xs : List α) (tail : Own) : Exit → VS → World → Prop := fun e _ w4 =>
 ∃ h3 own3, Le h2 h3 ∧ St h0 w0 h3 w4 (own3 ++ tail) ∧ (match e with
  | .normal => I xs h3 own3
  | .ret => Ix .ret xs h3 own3
  | .exit id => Ix (.exit id) xs h3 own3
  | .goto t => Ix (.goto t) xs h3 own3
  | _ => False)
def APost {α : Type} (F : Fence) (P : Program) (n : Nat) (body : Code) (I : List α → Heap → Own → Prop) (Ix : Code → List α → Heap → Own → Prop) (h0 : Heap) (w0 : World) (h1 : Heap) (xs : List α) (tail : Own) : Exit → VS → World → Prop := fun e s w2 =>
 e = .normal ∧ ∃ h2 own2, Le h1 h2 ∧ St h0 w0 h2 w2 (own2 ++ tail) ∧ ∀ tail' w3, St h0 w0 h2 w3 (own2 ++ tail') → V F P n body (RPost I Ix h0 w0 h2 xs tail') s w3
theorem APost.mk {α : Type} {F : Fence} {P : Program} {n : Nat} {body : Code} {I : List α → Heap → Own → Prop} {Ix : Code → List α → Heap → Own → Prop} {h0 h1 h2 : Heap} {w0 : World} {xs : List α} {own2 tail : Own} {s : VS} {w2 : World} (le : Le h1 h2) (st : St h0 w0 h2 w2 (own2 ++ tail))
  (hb : ∀ tail' w3, St h0 w0 h2 w3 (own2 ++ tail') → V F P n body (RPost I Ix h0 w0 h2 xs tail') s w3) : APost F P n body I Ix h0 w0 h1 xs tail .normal s w2 := ⟨rfl, h2, own2, le, st, hb⟩
theorem zee {α : Type} {I : List α → Heap → Own → Prop} {Ix : Code → List α → Heap → Own → Prop} {h0 h2 h3 : Heap} {w0 : World} {xs : List α} {own3 tail : Own} {s : VS} {w4 : World} (le : Le h2 h3) (st : St h0 w0 h3 w4 (own3 ++ tail)) (hI : I xs h3 own3) : RPost I Ix h0 w0 h2 xs tail .normal s w4 := ⟨h3, own3, le, st, hI⟩
theorem RPost.exit {α : Type} {I : List α → Heap → Own → Prop} {Ix : Code → List α → Heap → Own → Prop} {h0 h2 h3 : Heap} {w0 : World} {xs : List α} {own3 tail : Own} {s : VS} {w4 : World} {id : Nat} (le : Le h2 h3) (st : St h0 w0 h3 w4 (own3 ++ tail)) (hI : Ix (.exit id) xs h3 own3) : RPost I Ix h0 w0 h2 xs tail (.exit id) s w4 := ⟨h3, own3, le, st, hI⟩
theorem perm_end {α : Type} (A B C : List α) : (B ++ (A ++ C)).Perm (A ++ (C ++ B)) := by
 rw [← List.append_assoc A C B]; exact List.perm_append_comm
def GivesG {α : Type} (P : Program) (gf : FuncId) (caps : List Value) (A : List α → Heap → List Value → α → Prop) (S : List α → Prop) (h0 : Heap) (w0 : World) (h : Heap) : Prop :=
 ∀ (l : Nat) (J Jx : List α → Heap → Own → Prop),
  (∀ xs h1 h2 o, J xs h1 o → Le h1 h2 → J xs h2 o) → (∀ xs h1 h2 o, Jx xs h1 o → Le h1 h2 → Jx xs h2 o) →
  (∀ pre x h1 w1 B rest us, Le h h1 → J pre h1 rest → St h0 w0 h1 w1 (B ++ rest) → A pre h1 us x → Yields P l us.toArray w1 fun v w2 => ∃ h2 rest2, Le h1 h2 ∧ St h0 w0 h2 w2 (B ++ rest2) ∧ ((v = .bool true ∧ J (pre ++ [x]) h2 rest2) ∨ (v = .bool false ∧ Jx (pre ++ [x]) h2 rest2))) →
  ∀ h1 w rest, Le h h1 → J [] h1 rest → St h0 w0 h1 w rest →
   Calls P gf (.func (.yield l) #[] #[] :: caps).toArray w fun e w' => ∃ h' rest' v, e = .returned v ∧ Le h1 h' ∧ St h0 w0 h' w' rest' ∧ ((∃ xs, S xs ∧ J xs h' rest') ∨ (∃ pre, Jx pre h' rest'))
theorem V.rangeFuncG {α : Type} {P : Program} {n : Nat} {Q : Exit → VS → World → Prop} {A : List α → Heap → List Value → α → Prop} {g : Operand} {ps : Array Tmp} {up : List Value → Env} {assign body : Code} {σ : Env} {w : World} {gf : FuncId} {caps : List Value} {S : List α → Prop} {h0 h : Heap} {w0 : World} {own : Own}
  (st : St h0 w0 h w own) (hg : ev σ g = .func (.func gf) #[] caps.toArray) (eg : ∀ a w, (callFunc gf a).run P w = .ok (.enter gf a) w) (hput : ∀ (a : Act) pre us h x, FitsD [] n a σ → A pre h us x → FitsD [] n ({ tmps := (ps.zip us.toArray).foldl (fun tmps (x : Nat × Value) => tmps.setIfInBounds x.1 x.2) a.tmps, defers := [] } : Act) (up us)) (hsz : ∀ pre us h x, A pre h us x → us.toArray.size = ps.size)
  (seq : GivesG P gf caps A S h0 w0 h) (I : List α → Heap → Own → Prop) (Ix : Code → List α → Heap → Own → Prop)
  (hI : ∀ xs h1 h2 o, I xs h1 o → Le h1 h2 → I xs h2 o) (hIx : ∀ c xs h1 h2 o, Ix c xs h1 o → Le h1 h2 → Ix c xs h2 o) (h00 : I [] h own)
  (hround : ∀ (l : Nat) pre x h1 w1 own1 tail us, Le h h1 → I pre h1 own1 → St h0 w0 h1 w1 (own1 ++ tail) → A pre h1 us x →
   V { Fence.wide with round := some l } P n assign (APost { Fence.wide with round := some l } P n body I Ix h0 w0 h1 (pre ++ [x]) tail) ([], up us) w1)
  (hdone : ∀ D xs h' w' own', Le h h' → S xs → I xs h' own' → St h0 w0 h' w' (own' ++ [[(D, .deferred (some []))]]) → Q .normal ([{ target := .collected D, args := #[] }], σ) w')
  (hstop : ∀ D c pre h' w' own', Le h h' → Ix c pre h' own' → St h0 w0 h' w' (own' ++ [[(D, .deferred (some []))]]) → V Fence.wide P n c Q ([{ target := .collected D, args := #[] }], σ) w') :
  V Fence.wide P n (.rangeFunc g ps assign body) Q ([], σ) w := by
 intro k a ha;refine wpIn_rangeFunc ?_;intro fn _;obtain ⟨D, hD⟩ : ∃ D, D = w.heap.size := ⟨_, rfl⟩;obtain ⟨l, hl⟩ : ∃ l, l = w.heap.size + 1 := ⟨_, rfl⟩;obtain ⟨rec, hrec⟩ : ∃ rec : LoopState → Option Code → Loop, rec = fun st pe => { state := st, pending := pe, fn, tmps := a.tmps, params := ps, assign, body, defers := D } := ⟨_, rfl⟩;have st1 := (st.alloc (.deferred (some []))).alloc (.loop (rec .ready none));have hsz' : (w.alloc (.deferred (some []))).heap.size = l := by rw [hl]; simp
 rw [hsz', ← hD] at st1;have hxa : a.eval = ev σ := ha.eval;obtain ⟨w1, ew1⟩ : ∃ w1, w1 = (w.alloc (.deferred (some []))).alloc (.loop (rec .ready none)) := ⟨_, rfl⟩;rw [← ew1] at st1;have e1 : (Instr.enterLoop fn a.tmps ps assign body none).run P w = .ok (l, [({ target := .collected D, args := #[] } : Deferred)]) w1 := by
  rw [ew1, hrec, hl, hD]; exact run_enterLoop_outer _ _ _ _ _
 refine ⟨l, [({ target := .collected D, args := #[] } : Deferred)], w1, ({ target := .fn (.func gf) caps.toArray, args := #[.func (.yield l) #[] #[]] } : Deferred), w1, gf, #[.func (.yield l) #[] #[]] ++ caps.toArray, w1, ?_, ?_, fun _ _ => trivial, ?_, fun hh => absurd hh (by simp [Fence.wide]), ?_⟩
 ·exact e1
 ·simp only [resolve, hxa, hg];simp [go_sem, rangeCall, ev]
 ·simp [invoke, go_sem, eg]
 ·have con := seq l (fun pre h1 rest => ∃ own1, I pre h1 own1 ∧ rest = own1 ++ [[(D, .deferred (some []))], [(l, .loop (rec .ready none))]])
   (fun pre h1 rest => ∃ own1 c, Ix c pre h1 own1 ∧ rest = own1 ++ [[(D, .deferred (some []))], [(l, .loop (rec .done (some c)))]])
   (by rintro xs h1 h2 o ⟨own1, hi, rfl⟩ le; exact ⟨own1, hI _ _ _ _ hi le, rfl⟩) (by rintro xs h1 h2 o ⟨own1, c, hi, rfl⟩ le; exact ⟨own1, c, hIx _ _ _ _ _ hi le, rfl⟩) ?_ h _ _ (Le.refl h) ⟨own, h00, rfl⟩ (by simpa using st1)
  ·refine (callsIn_wide.2 ?_);have e0 : (.func (.yield l) #[] #[] :: caps : List Value).toArray = #[.func (.yield l) #[] #[]] ++ caps.toArray := by simp
   rw [e0] at con;refine con.mono ?_;rintro e w2 ⟨h', rest', v, rfl, le, st2, hout⟩;have tk : ∀ {own1 : Own} {r : Loop}, St h0 w0 h' w2 (own1 ++ [[(D, .deferred (some []))], [(l, .loop r)]]) → ∀ o', St h0 w0 h' (w2.putObj l o') (own1 ++ [[(D, .deferred (some []))]]) := by
    intro own1 r s o';have s2 : St h0 w0 h' w2 ((own1 ++ [[(D, .deferred (some []))]]) ++ [(l, .loop r)] :: []) := by simpa using s
    have s3 := (s2.setAt o').take (own1 ++ [[(D, Obj.deferred (some []))]]).length;rwa [List.take_left'] at s3;rfl
   rcases hout with ⟨xs, hS, own1, hi, rfl⟩ | ⟨pre, own1, c, hi, rfl⟩
   ·have hlr : w2.heap[l]? = some (.loop (rec .ready none)) := St.at (A := own1 ++ [[(D, .deferred (some []))]]) (C := []) (by simpa using st2);have hend := run_endLoop (P := P) hlr (by rw [hrec]; simp);rw [hrec] at hend;refine ⟨none, _, hend, ⟨([{ target := .collected D, args := #[] }], σ), ⟨ha.size, by simp [ha.defers], ha.at_⟩, hdone D xs h' _ own1 le hS hi (tk st2 _)⟩⟩
   ·have hlr : w2.heap[l]? = some (.loop (rec .done (some c))) := St.at (A := own1 ++ [[(D, .deferred (some []))]]) (C := []) (by simpa using st2);have hend := run_endLoop (P := P) hlr (by rw [hrec]; simp);rw [hrec] at hend;refine ⟨some c, _, hend, ?_⟩;exact hstop D c pre h' _ own1 le hi (tk st2 _) k _ ⟨ha.size, by simp [ha.defers], ha.at_⟩
  ·rintro pre x h1 w1 B rest us le ⟨own1, hi, rfl⟩ s1 hA;have hlr : w1.heap[l]? = some (.loop (rec .ready none)) := St.at (A := B ++ (own1 ++ [[(D, .deferred (some []))]])) (C := []) (by simpa using s1);have hy := run_yield (P := P) (args := us.toArray) hlr (by rw [hrec]; exact hsz pre us h1 x hA);rw [hrec] at hy;refine ⟨fn, _, assign, body, hy, roundIn_of_wpIn trivial ?_⟩
   -- the caller's entries first
   have s2 : St h0 w0 h1 w1 (own1 ++ ([[(D, .deferred (some []))], [(l, .loop (rec .ready none))]] ++ B)) := s1.perm (perm_end own1 B _);have hfit := hput { tmps := a.tmps, defers := [] } pre us h1 x ⟨ha.size, rfl, ha.at_⟩ hA;have hr := hround l pre x h1 w1 own1 _ us le hi s2 hA 0 _ hfit;refine wpIn_mono hr ?_;rintro e a2 w2 ⟨s', hf2, rfl, h2, own2, le2, s3, hbody⟩;have s3' : St h0 w0 h2 w2 ((own2 ++ [[(D, .deferred (some []))]]) ++ [(l, .loop (rec .ready none))] :: B) := by simpa using s3
   have hl2 := s3'.at;have hbr := run_beginRound (P := P) hl2 (by rw [hrec]);refine ⟨_, hbr, ?_⟩;have s4 := s3'.setAt (.loop { rec .ready none with state := .busy });have s4' := s4;rw [show (own2 ++ [[(D, .deferred (some []))]]) ++ [(l, .loop { rec .ready none with state := .busy })] :: B = own2 ++ ([[(D, .deferred (some []))], [(l, .loop { rec .ready none with state := .busy })]] ++ B) by simp] at s4';refine wpIn_mono (hbody _ _ s4' 0 a2 hf2) ?_;have fin : ∀ (jump : Option Code) (h3 : Heap) (own3 : Own) (w4 : World), St h0 w0 h3 w4 (own3 ++ ([[(D, .deferred (some []))], [(l, .loop { rec .ready none with state := .busy })]] ++ B)) →
     ∃ w5, (Instr.endRound l jump).run P w4 = .ok (.bool jump.isNone) w5 ∧ St h0 w0 h3 w5 (B ++ (own3 ++ [[(D, .deferred (some []))], [(l, .loop (rec (if jump.isNone then .ready else .done) jump))]])) := by
    intro jump h3 own3 w4 s5;have s5' : St h0 w0 h3 w4 ((own3 ++ [[(D, .deferred (some []))]]) ++ [(l, .loop { rec .ready none with state := .busy })] :: B) := by simpa using s5
    refine ⟨_, run_endRound (P := P) jump s5'.at, ?_⟩;have s6 := s5'.setAt (.loop (rec (if jump.isNone then .ready else .done) jump));rw [show (own3 ++ [[(D, .deferred (some []))]]) ++ [(l, .loop (rec (if jump.isNone then .ready else .done) jump))] :: B = own3 ++ ([[(D, .deferred (some []))], [(l, .loop (rec (if jump.isNone then .ready else .done) jump))]] ++ B) by simp] at s6;have s7 := s6.perm (perm_end own3 B _).symm;rw [hrec] at s7 ⊢;exact s7
   rintro e a4 w4 ⟨s'', hf4, h3, own3, le3, s5, hm⟩;cases e with
   | normal =>
    obtain ⟨w5, hr5, s6⟩ := fin none h3 own3 w4 s5;exact ⟨_, w5, hr5, _, rfl, h3, _, le2.trans le3, s6, .inl ⟨rfl, own3, hm, rfl⟩⟩
   | ret =>
    obtain ⟨w5, hr5, s6⟩ := fin (some .ret) h3 own3 w4 s5;exact ⟨_, w5, hr5, _, rfl, h3, _, le2.trans le3, s6, .inr ⟨rfl, own3, .ret, hm, rfl⟩⟩
   | exit id =>
    obtain ⟨w5, hr5, s6⟩ := fin (some (.exit id)) h3 own3 w4 s5;exact ⟨_, w5, hr5, _, rfl, h3, _, le2.trans le3, s6, .inr ⟨rfl, own3, .exit id, hm, rfl⟩⟩
   | goto t =>
    obtain ⟨w5, hr5, s6⟩ := fin (some (.goto t)) h3 own3 w4 s5;exact ⟨_, w5, hr5, _, rfl, h3, _, le2.trans le3, s6, .inr ⟨rfl, own3, .goto t, hm, rfl⟩⟩
   | panic ch => exact hm.elim
   | outgrown => exact hm.elim
theorem V.rangeFunc {α : Type} {P : Program} {n : Nat} {Q : Exit → VS → World → Prop} {A : Heap → Value → α → Prop} {g : Operand} {p : Tmp} {assign body : Code} {σ : Env} {w : World} {gf : FuncId} {caps : List Value} {S : List α → Prop} {h0 h : Heap} {w0 : World} {own : Own}
  (st : St h0 w0 h w own) (hg : ev σ g = .func (.func gf) #[] caps.toArray) (eg : ∀ a w, (callFunc gf a).run P w = .ok (.enter gf a) w) (hp : Nat.blt p n = true)
  (seq : Gives P gf caps A S h0 w0 h) (I : List α → Heap → Own → Prop) (Ix : Code → List α → Heap → Own → Prop)
  (hI : ∀ xs h1 h2 o, I xs h1 o → Le h1 h2 → I xs h2 o) (hIx : ∀ c xs h1 h2 o, Ix c xs h1 o → Le h1 h2 → Ix c xs h2 o) (h00 : I [] h own)
  (hround : ∀ (l : Nat) pre x h1 w1 own1 tail u, Le h h1 → I pre h1 own1 → St h0 w0 h1 w1 (own1 ++ tail) → A h1 u x →
   V { Fence.wide with round := some l } P n assign (APost { Fence.wide with round := some l } P n body I Ix h0 w0 h1 (pre ++ [x]) tail) ([], upd σ p u) w1)
  (hdone : ∀ D xs h' w' own', Le h h' → S xs → I xs h' own' → St h0 w0 h' w' (own' ++ [[(D, .deferred (some []))]]) → Q .normal ([{ target := .collected D, args := #[] }], σ) w')
  (hstop : ∀ D c pre h' w' own', Le h h' → Ix c pre h' own' → St h0 w0 h' w' (own' ++ [[(D, .deferred (some []))]]) → V Fence.wide P n c Q ([{ target := .collected D, args := #[] }], σ) w') :
  V Fence.wide P n (.rangeFunc g #[p] assign body) Q ([], σ) w := by
 refine V.rangeFuncG (A := fun _ h us x => ∃ u, us = [u] ∧ A h u x) (up := fun us => upd σ p (us.headD undef)) st hg eg ?_ (by rintro _ _ _ _ ⟨u, rfl, _⟩; rfl) ?_ I Ix hI hIx h00 ?_ hdone hstop
 ·rintro a pre us h x hf ⟨u, rfl, _⟩;have h2 := hf.bare.put (d := some p) (by exact hp) u;have e1 : (#[p].zip [u].toArray).foldl (fun tmps (x : Nat × Value) => tmps.setIfInBounds x.1 x.2) a.tmps = a.tmps.setIfInBounds p u := by simp
  show FitsD [] n ({ tmps := (#[p].zip [u].toArray).foldl (fun tmps (x : Nat × Value) => tmps.setIfInBounds x.1 x.2) a.tmps, defers := [] } : Act) (upd σ p u);rw [e1]; exact ⟨h2.size, rfl, h2.at_⟩
 ·intro l J Jx hm hxm hY;exact seq l J Jx hm hxm fun pre x h1 w1 B rest u a b c d => hY pre x h1 w1 B rest [u] a b c ⟨u, rfl, d⟩
 ·rintro l pre x h1 w1 own1 tail us a b c ⟨u, rfl, d⟩;exact hround l pre x h1 w1 own1 tail u a b c d
def Taken (P : Program) : List Deferred → World → (World → Prop) → Prop
 | [], w, K => K w
 | d :: ds, w, K => ∃ D, d.target = .collected D ∧ w.heap[D]? = some (.deferred (some [])) ∧ Taken P ds (w.putObj D (.deferred none)) K
def PostV (fn : Func) (P : Program) (R : Ending → World → Prop) : Exit → VS → World → Prop
 | .normal, s, w | .ret, s, w => Taken P s.1 w fun w' => Post fn P R .ret s.2 w'
 | _, _, _ => False
theorem V.calls {P : Program} {f : FuncId} {fn : Func} {c : Code} {n : Nat} {args : List Value} {w : World} {R : Ending → World → Prop}
  (hf : P.funcs[f]? = some fn) (hb : fn.body = some c) (hn : fn.ntmps = n) (hl : Nat.ble args.length n = true)
  (h : V Fence.wide P n c (PostV fn P R) ([], start args) w) : Calls P f args.toArray w R := by
 have hl' : args.length ≤ n := by simpa using hl
 refine (callsIn_wide (n := 0)).1 (callsIn_of_wp_marks hf hb trivial ?_);have hfit : FitsD [] n { tmps := args.toArray ++ Array.replicate (fn.ntmps - args.toArray.size) undef, defers := [] } (start args) := by
  refine ⟨by simp [hn]; omega, rfl, fun i => ?_⟩;rw [← start_eq];simp only [Array.getD_eq_getD_getElem?, List.getD_eq_getElem?_getD]
  by_cases hi : i < args.length
  ·rw [Array.getElem?_append_left (by simpa using hi)]; simp
  ·rw [Array.getElem?_append_right (by simpa using hi), List.getElem?_eq_none zr]
   by_cases hj : i - args.toArray.size < fn.ntmps - args.toArray.size
   ·rw [Array.getElem?_replicate, if_pos hj]; rfl
   ·rw [Array.getElem?_replicate, if_neg hj]
 have key : ∀ (ds : List Deferred) (w : World) (tmps : Array Value) (σ : Env), (∀ i, tmps.getD i undef = σ i) → Taken P ds w (fun w' => Post fn P R .ret σ w') → LeavesInM Fence.wide 0 P fn tmps R ds .returning w := by
  intro ds
  induction ds with
  | nil =>
   intro w tmps σ ht h;exact h tmps ht
  | cons d ds ih =>
   intro w tmps σ ht h;obtain ⟨D, hd, hD, h⟩ := h;exact ⟨by simp, .inl ⟨D, _, hd, run_takeDeferred hD, ih _ _ _ ht h⟩⟩
 refine wpIn_mono (h 0 _ hfit) ?_;rintro e a' w' ⟨s', hf', hq⟩;cases e with
 | normal => show LeavesInM _ _ _ _ _ _ a'.defers _ _; rw [hf'.defers]; exact key _ _ _ _ hf'.at_ hq
 | ret => show LeavesInM _ _ _ _ _ _ a'.defers _ _; rw [hf'.defers]; exact key _ _ _ _ hf'.at_ hq
 | exit id => exact hq.elim
 | goto l => exact hq.elim
 | panic ch => exact hq.elim
 | outgrown => exact hq.elim
theorem PostV.zero {fn : Func} {P : Program} {R : Ending → World → Prop} {σ : Env} {w : World} (h : Post fn P R .ret σ w) : PostV fn P R .ret ([], σ) w := h
theorem zhZ {fn : Func} {P : Program} {R : Ending → World → Prop} {σ : Env} {w w0 : World} {h0 h : Heap} {own : Own} {D : Nat} (st : St h0 w0 h w (own ++ [[(D, .deferred (some []))]])) (hk : ∀ w', St h0 w0 h w' own → Post fn P R .ret σ w') : PostV fn P R .ret ([{ target := .collected D, args := #[] }], σ) w := by
 have s2 : St h0 w0 h w (own ++ [(D, .deferred (some []))] :: []) := st;refine ⟨D, rfl, s2.at, hk _ ?_⟩;have s3 := (s2.setAt (.deferred none)).take own.length;rwa [List.take_left'] at s3;rfl
end Go.Pk

namespace Go.Pk
open Go Go.RowKit
theorem RPost.ret {α : Type} {I : List α → Heap → Own → Prop} {Ix : Code → List α → Heap → Own → Prop} {h0 h2 h3 : Heap} {w0 : World} {xs : List α} {own3 tail : Own} {s : VS} {w4 : World} (le : Le h2 h3) (st : St h0 w0 h3 w4 (own3 ++ tail)) (hI : Ix .ret xs h3 own3) : RPost I Ix h0 w0 h2 xs tail .ret s w4 := ⟨h3, own3, le, st, hI⟩
theorem r_quo {P : Program} {σ : Env} {w : World} {dst : Option Tmp} {ty t t' : TypeId} {pos : String} {aft : Array Edge} {g : Option (Nat × Bool)} {x y : Operand} {a b : Int} (hx : ev σ x = .int .i64 a) (hy : ev σ y = .int .i64 b) (hb : 0 < b) (ha : 0 ≤ a ∧ a ≤ 9223372036854775807) : Run P σ w ⟨dst, .binOp .quo t x y t', ty, pos, aft, g⟩ (.int .i64 (a.tdiv b)) w := by
 have h1 : 0 ≤ a.tdiv b := Int.tdiv_nonneg ha.1 zr;have h2 : a.tdiv b ≤ a := by rw [Int.tdiv_eq_ediv_of_nonneg ha.1]; exact Int.ediv_le_self _ ha.1
 have hw := IntWalk.i64_in (a.tdiv b) zr;simp [Run, execOp, hx, hy, eqGuard, binOp, Op.intDiv, show b ≠ 0 by omega, hw]
end Go.Pk

namespace Go.Pk
open Go Go.RowKit Go.ChangeShapes Go.WideShapes Go.ChangeAt
def LU32 : Lay Int := { size := 1, R := fun _ vs x => vs = [.int .u32 x] ∧ 0 ≤ x ∧ x ≤ 4294967295, up := fun h _ => h, len := by rintro _ _ _ ⟨rfl, _⟩; rfl, one := by rintro _ _ _ ⟨rfl, _⟩ u hu; simp at hu; subst hu; rfl }
section
variable {P : Program} {W : World} {t : TypeId}
theorem reads_u32 (hu : P.underlying t = some (.int .u32)) : Reads P W t LU32 := by
 intro H enc sp held fuel cs d ps h _;obtain ⟨n, rfl, _, hw⟩ := DataW.trod_int hu h;simp [Lit.wf, IntKind.min, IntKind.max, IntKind.bits, IntKind.signed] at hw;exact ⟨n, rfl, by omega⟩
theorem reads_slarg {α : Type} {L : Lay α} {H : Type} {enc : TypeId × Value → H} {sp : Nat → Bool} {held : Bool} {r : Reach} {base : Nat} {v : Value} {d : DataW H} {ps : List MemPlace} {e : TypeId} (hu : P.underlying t = some (.slice e)) (hr : Reads P W t (LSl L)) (hok : Value.okWide P W r base t v) (h : DataW.Trod enc P W 0 sp held t v d ps) (hw : ∀ n ∈ d.weights P t, n ≤ reachBytes) :
  ∃ xs : List α, Sl L (zfc W) v xs := by
 obtain ⟨fuel, h⟩ := h;obtain ⟨xs, v', e1, hs⟩ := hr enc sp held fuel _ d ps h hw;obtain ⟨p, c, hv, _⟩ := id hs;cases v with
 | agg cs =>
  simp only [Value.okWide, hu, Cell.okWide] at hok;unfold Cell.ok at hok;rw [hu] at hok;exact hok.elim
 | _ =>
  simp only [Value.cells, List.cons.injEq, and_true] at e1;subst e1;exact ⟨xs, hs⟩
end
end Go.Pk
