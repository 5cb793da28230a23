/- A PART OF THE PROOF: contracts of functions, each walked once (much of it printed by a program of the author's own). -/
import Derived.Test.YtfpiiheehdedmaaGreatDoorT1
import Derived.Laws.CopyRow
import Derived.Test.YtfpiiheehdedmaaGreatDoorT0
import Derived.Laws.OwnMore
import Derived.DeepKeys5
import Derived.Shelf.SlSortCmp.NoneTotal
import Derived.Lib.Bytealg
set_option linter.unusedSimpArgs false
set_option linter.unusedVariables false
set_option maxRecDepth 4000
namespace Go.Pk
open Go Go.RowKit
section
variable {α : Type} {L : Lay α} {T : TypeId} {h : Heap}
def vtake : Value → Nat → Value
 | .slice p _ c, k => .slice p k c
 | v, _ => v
def zfK (s : Nat) : Value → Nat → Value
 | .slice p n c, k => .slice (if c = k then p else p.map (·.add (k * s))) (n - k) (c - k)
 | v, _ => v
theorem Enc.take {cs : List Value} {xs : List α} (e : Enc L h cs xs) {k : Nat} (hk : k ≤ xs.length) : Enc L h (cs.take (k * L.size)) (xs.take k) := by
 have hle : k * L.size ≤ cs.length := by rw [e.1]; exact Nat.mul_le_mul_right _ hk
 refine ⟨by rw [List.length_take, List.length_take, Nat.min_eq_left hle, Nat.min_eq_left hk], fun i x hi => ?_⟩
 have hik : i < k := by
  rw [List.getElem?_take] at hi
  split at hi
  ·assumption
  ·cases hi
 rw [List.getElem?_take, if_pos hik] at hi
 have hr := e.2 i x hi
 have h1 : i * L.size + L.size ≤ k * L.size := by rw [← Nat.succ_mul]; exact Nat.mul_le_mul_right _ hik
 rw [List.drop_take, List.take_take, Nat.min_eq_left (by omega)]
 exact hr
theorem Enc.drop {cs : List Value} {xs : List α} (e : Enc L h cs xs) (k : Nat) : Enc L h (cs.drop (k * L.size)) (xs.drop k) := by
 refine ⟨by rw [List.length_drop, List.length_drop, e.1, Nat.sub_mul], fun i x hi => ?_⟩
 rw [List.getElem?_drop] at hi
 have hr := e.2 _ x hi
 rw [List.drop_drop, ← Nat.add_mul]
 exact hr
theorem Enc.set {cs vs : List Value} {xs : List α} {i : Nat} {y : α} (e : Enc L h cs xs) (hi : i < xs.length) (hr : L.R h vs y) : Enc L h (cs.take (i * L.size) ++ vs ++ cs.drop ((i + 1) * L.size)) (xs.set i y) := by
 rw [List.set_eq_take_append_cons_drop, if_pos hi]
 have h1 := ((e.take (Nat.le_of_lt hi)).append (Enc.one1 hr)).append (e.drop (i + 1))
 rw [List.append_assoc (xs.take i)] at h1
 exact h1
theorem OSl.take {v : Value} {xs : List α} {o : List (Nat × Obj)} (e : OSl L T h v xs o) {k : Nat} (hk : k ≤ xs.length) : OSl L T h (vtake v k) (xs.take k) o := by
 obtain ⟨cs, e1, ⟨⟨p, rfl⟩, rfl, rfl⟩ | ⟨g, cap, cur, rfl, rfl, hnc, hcm, hsz, htk⟩⟩ := e
 ·have : k = 0 := by simpa using hk
  subst this
  exact ⟨[], ⟨by simp, by simp⟩, .inl ⟨⟨p, rfl⟩, by simp, rfl⟩⟩
 have hl : (xs.take k).length = k := by rw [List.length_take, Nat.min_eq_left hk]
 refine ⟨_, e1.take hk, .inr ⟨g, cap, cur, by rw [hl]; rfl, rfl, by omega, hcm, hsz, ?_⟩⟩
 rw [hl, ← htk, List.take_take, Nat.min_eq_left (Nat.mul_le_mul_right _ hk)]
theorem Elem.drop {v : Value} {k j s b o : Nat} (e : Elem v (k + j) s b o) (hc : ∀ p n c, v = .slice p n c → n ≤ c) : Elem (zfK s v k) j s b o := by
 obtain ⟨off, n, c, rfl, hlt, rfl⟩ := e
 have := hc _ _ _ rfl
 refine ⟨off + k * s, n - k, c - k, ?_, by omega, by rw [Nat.add_mul]; omega⟩
 simp only [zfK]
 rw [if_neg (by omega)]
 simp [zdn]
theorem Elem.drop' {v : Value} {k j m s b o : Nat} (e : Elem v m s b o) (hm : m = k + j) (hc : ∀ p n c, v = .slice p n c → n ≤ c) : Elem (zfK s v k) j s b o := by
 subst hm; exact e.drop hc
theorem OSl.caps {v : Value} {xs : List α} {o : List (Nat × Obj)} (e : OSl L T h v xs o) : ∀ p n c, v = .slice p n c → n ≤ c := by
 rintro p n c rfl
 obtain ⟨cs, e1, ⟨⟨q, e2⟩, rfl, rfl⟩ | ⟨g, cap, cur, e2, rfl, hnc, hcm, hsz, htk⟩⟩ := e
 ·cases e2; exact Nat.le_refl _
 cases e2; exact hnc
theorem OSl.len {v : Value} {xs : List α} {o : List (Nat × Obj)} (e : OSl L T h v xs o) : ∀ p n c, v = .slice p n c → n = xs.length := by
 rintro p n c rfl
 obtain ⟨q, c', e2⟩ := e.form
 cases e2; rfl
end
section
variable {P : Program} {n : Nat} {ops : Array Oper} {rest : List Oper} {K : Env → World → Prop} {σ : Env} {w w0 : World} {h0 h : Heap} {own : Own} {ty : TypeId} {pos : String} {aft : Array Edge} {d : Nat} {dst : Option Tmp} {g : Option (Nat × Bool)}
theorem zhR {α : Type} {L : Lay α} {T : TypeId} {xs : List α} {v : Value} {o : List (Nat × Obj)} {t e : TypeId} {x hi_ : Operand} {i : Int} {k m : Nat} (hO : OSl L T h v xs o) (hx : ev σ x = v) (hi : ev σ hi_ = .int .i64 i) (hk : i = (k : Int)) (hle : k ≤ xs.length) (hu : P.underlying t = some (.slice e)) (hz : ∀ w, (sizeOf e).run P w = .ok m w) :
  Run P σ w ⟨dst, .slice t x none (some hi_) none, ty, pos, aft, g⟩ (vtake v k) w := by
 subst hk
 obtain ⟨p, c, rfl⟩ := hO.form
 have hc := hO.caps _ _ _ rfl
 have h1 : k ≤ c := by omega
 cases p <;> simp [Run, execOp, hx, hi, Instr.sliceAt, Instr.slice, run_underlying hu, Instr.sliceBounds, Instr.sliceBound, asIntOf, hz, h1, vtake]
 rename_i a
 intro _
 cases a
 rfl
theorem zeq {α : Type} {L : Lay α} {T : TypeId} {xs : List α} {v : Value} {o : List (Nat × Obj)} {t e : TypeId} {x lo : Operand} {i : Int} {k m : Nat} (hO : OSl L T h v xs o) (hx : ev σ x = v) (hi : ev σ lo = .int .i64 i) (hk : i = (k : Int)) (hle : k ≤ xs.length) (hu : P.underlying t = some (.slice e)) (hz : ∀ w, (sizeOf e).run P w = .ok m w) :
  Run P σ w ⟨dst, .slice t x (some lo) none none, ty, pos, aft, g⟩ (zfK m v k) w := by
 subst hk
 obtain ⟨p, c, rfl⟩ := hO.form
 have h1 : k ≤ xs.length := hle
 simp [Run, execOp, hx, hi, Instr.sliceAt, Instr.slice, run_underlying hu, Instr.sliceBounds, Instr.sliceBound, asIntOf, hz, h1, zfK]
theorem r_len_vdrop {v : Value} {t e : TypeId} {x : Operand} {s k len : Nat} (hx : ev σ x = zfK s v k) (hl : ∃ p c, v = .slice p len c) (hu : P.underlying t = some (.slice e)) :
  Run P σ w ⟨dst, .call ⟨.builtin .len, #[x], #[t]⟩, ty, pos, aft, g⟩ (.int .i64 ((len - k : Nat) : Int)) w := by
 obtain ⟨p, c, rfl⟩ := hl
 exact r_len_sl hx hu
theorem spliced_split : ∀ (us pre : List Value) (cs : List Value), us.length ≤ cs.length → zfQ (pre ++ cs) pre.length us = pre ++ us ++ cs.drop us.length
 | [], pre, cs, _ => by simp [zfQ]
 | u :: us, pre, [], h => by simp at h
 | u :: us, pre, c :: cs, h => by
  have ih := spliced_split us (pre ++ [u]) cs (by simpa using h)
  simp only [List.length_append, List.length_cons, List.length_nil, Nat.zero_add] at ih
  rw [zfQ, List.set_append_right _ _ (Nat.le_refl _), Nat.sub_self, List.set_cons_zero]
  rw [show pre ++ u :: cs = pre ++ [u] ++ cs by simp, ih]
  simp
theorem spliced_eq' {cs us : List Value} {off : Nat} (h : off + us.length ≤ cs.length) : zfQ cs off us = cs.take off ++ us ++ cs.drop (off + us.length) := by
 have h1 := spliced_split us (cs.take off) (cs.drop off) (by rw [List.length_drop]; omega)
 rw [List.take_append_drop, List.length_take, Nat.min_eq_left (by omega), List.drop_drop] at h1
 exact h1
theorem OpsL.storeEl {α : Type} {L : Lay α} {T : TypeId} {v : Value} {xs : List α} {o : List (Nat × Obj)} {k i b off : Nat} {y0 : α} {us : List Value} {t : TypeId} {x y : Operand} (st : St h0 w0 h w own) (hO : OSl L T h v xs o) (hk : own[k]? = some o) (hi : i < xs.length) (he : Elem v i L.size b off)
  (hx : ev σ x = .pointer (some ⟨b, off, none⟩)) (hy : ev σ y = .agg us.toArray) (hR : L.R h us y0) (hz : ∀ w, (sizeOf t).run P w = .ok us.length w)
  (hK : ∀ o' w' own', own' = own.set k o' → OSl L T h v (xs.set i y0) o' → St h0 w0 h w' own' → OpsL P n ops rest K σ w') : OpsL P n ops (⟨none, .store t x y, ty, pos, aft, none⟩ :: rest) K σ w := by
 obtain ⟨cs, e1, ⟨⟨p, rfl⟩, rfl, rfl⟩ | ⟨gb, cap, cur, rfl, rfl, hnc, hcm, hsz, htk⟩⟩ := hO
 ·simp at hi
 ·obtain ⟨off0, n', c', e2, hlt, rfl⟩ := he
  cases e2
  have hul := L.len hR
  have h1 : (i + 1) * L.size ≤ xs.length * L.size := Nat.mul_le_mul_right _ hi
  have h2 : xs.length * L.size ≤ cap * L.size := Nat.mul_le_mul_right _ hnc
  rw [Nat.succ_mul] at h1
  have hcl : cur.toList.length = cap * L.size := by rw [Array.length_toList, hsz]
  have ho : (0 + i * L.size) + us.length ≤ cur.toList.length := by rw [hcl]; have hul' : us.length = L.size := hul; omega
  have hk' : own[k]? = some [(b, .cells cur.toList.toArray T)] := by simpa using hk
  have hsp := spliced_eq' ho
  refine zI st hk' hx hy (by rw [List.all_eq_true]; exact fun u hu => L.one hR u hu) hz (by simpa using ho) hsp rfl fun w' st' => ?_
  have hlen : (cur.toList.take (0 + i * L.size)).length = i * L.size := by rw [List.length_take, hcl]; omega
  refine hK _ _ _ rfl ⟨_, e1.set hi hR, .inr ⟨b, cap, _, by rw [List.length_set], rfl, by rw [List.length_set]; exact hnc, hcm, ?_, ?_⟩⟩ st'
  ·simp only [List.size_toArray, List.length_append, hlen, List.length_drop, hcl]
   omega
  ·rw [List.length_set, ← htk]
   have e3 : (i + 1) * L.size = i * L.size + L.size := Nat.succ_mul _ _
   have hul' : us.length = L.size := hul
   rw [List.take_take, Nat.min_eq_left (by omega), e3, List.drop_take]
   rw [List.take_append, List.take_of_length_le (l := cur.toList.take (0 + i * L.size) ++ us) (by rw [List.length_append, hlen]; omega), List.length_append, hlen, hul', Nat.zero_add]
theorem zdS {α : Type} {L : Lay α} {T : TypeId} {v : Value} {xs : List α} {o : List (Nat × Obj)} {k i b off : Nat} {y0 : α} {u : Value} {t : TypeId} {x y : Operand} (st : St h0 w0 h w own) (hO : OSl L T h v xs o) (hk : own[k]? = some o) (hi : i < xs.length) (he : Elem v i L.size b off)
  (hx : ev σ x = .pointer (some ⟨b, off, none⟩)) (hy : ev σ y = u) (hR : L.R h [u] y0) (hz : ∀ w, (sizeOf t).run P w = .ok 1 w)
  (hK : ∀ o' w' own', own' = own.set k o' → OSl L T h v (xs.set i y0) o' → St h0 w0 h w' own' → OpsL P n ops rest K σ w') : OpsL P n ops (⟨none, .store t x y, ty, pos, aft, none⟩ :: rest) K σ w := by
 obtain ⟨cs, e1, ⟨⟨p, rfl⟩, rfl, rfl⟩ | ⟨gb, cap, cur, rfl, rfl, hnc, hcm, hsz, htk⟩⟩ := hO
 ·simp at hi
 ·obtain ⟨off0, n', c', e2, hlt, rfl⟩ := he
  cases e2
  have hul := L.len hR
  have h1 : (i + 1) * L.size ≤ xs.length * L.size := Nat.mul_le_mul_right _ hi
  have h2 : xs.length * L.size ≤ cap * L.size := Nat.mul_le_mul_right _ hnc
  rw [Nat.succ_mul] at h1
  have hcl : cur.toList.length = cap * L.size := by rw [Array.length_toList, hsz]
  have hs1 : L.size = 1 := by rw [← hul]; rfl
  have ho : (0 + i * L.size) + [u].length ≤ cur.toList.length := by rw [hcl]; have hul' : [u].length = L.size := hul; omega
  have hk' : own[k]? = some [(b, .cells cur.toList.toArray T)] := by simpa using hk
  have hsp := spliced_eq' ho
  have hlen : (cur.toList.take (0 + i * L.size)).length = i * L.size := by rw [List.length_take, hcl]; omega
  have hlt' : 0 + i * L.size < cur.toList.length := by have h9 : [u].length = 1 := rfl; omega
  refine zar st hk' hx hy (L.one hR u (by simp)) hz (by simpa using hlt') rfl rfl fun w' st' => ?_
  refine hK _ _ _ rfl ⟨_, e1.set hi hR, .inr ⟨b, cap, _, by rw [List.length_set], rfl, by rw [List.length_set]; exact hnc, hcm, ?_, ?_⟩⟩ st'
  ·simp [hsz]
  ·have hset : cur.toList.set (0 + i * L.size) u = cur.toList.take (0 + i * L.size) ++ [u] ++ cur.toList.drop (0 + i * L.size + [u].length) := by
    rw [← hsp]; rfl
   rw [List.length_set, ← htk]
   have e3 : (i + 1) * L.size = i * L.size + L.size := Nat.succ_mul _ _
   rw [List.take_take, Nat.min_eq_left (by omega), e3, List.drop_take]
   have hul' : [u].length = L.size := hul
   show (cur.toList.set (0 + i * L.size) u).take (xs.length * L.size) = _
   rw [hset, List.take_append, List.take_of_length_le (l := cur.toList.take (0 + i * L.size) ++ [u]) (by rw [List.length_append, hlen]; omega), List.length_append, hlen, hul', Nat.zero_add]
def vsub (s : Nat) : Value → Nat → Nat → Value
 | .slice p _ c, l, m => .slice (if c = l then p else p.map (·.add (l * s))) (m - l) (c - l)
 | v, _, _ => v
theorem set_same {own : Own} {k : Nat} {o : List (Nat × Obj)} (hk : own[k]? = some o) : own.set k o = own := by
 apply List.ext_getElem?
 intro q
 rw [List.getElem?_set]
 split
 ·rename_i e4; subst e4
  split
  ·exact hk.symm
  ·rename_i h5; rw [List.getElem?_eq_none (by omega)]
 rfl
theorem OpsL.clearSub {α : Type} {L : Lay α} {T : TypeId} {v : Value} {xs : List α} {o : List (Nat × Obj)} {k l m : Nat} {t e : TypeId} {z : Value} {x : Operand} (st : St h0 w0 h w own) (hO : OSl L T h v xs o) (hk : own[k]? = some o) (hlm : l ≤ m) (hmc : ∀ p n c, v = .slice p n c → m ≤ c)
  (hx : ev σ x = vsub L.size v l m) (ht : P.underlying t = some (.slice e)) (hz : ∀ w, (zeroValue e).run P w = .ok z w) (hzs : z.cells.size = L.size) (hz1 : ∀ u ∈ z.cells.toList, u.oneCell' = true)
  (hK : ∀ o' w' own', own' = own.set k o' → (∀ j, j ≤ l → j ≤ xs.length → OSl L T h (vtake v j) (xs.take j) o') → St h0 w0 h w' own' → OpsL P n ops rest K σ w') : OpsL P n ops (⟨none, .call ⟨.builtin .clear, #[x], #[t]⟩, ty, pos, aft, none⟩ :: rest) K σ w := by
 have hset := set_same hk
 have run (v' : Value) (w' : World) (hv : vsub L.size v l m = v') (hr : (Builtin.clear_ #[t] ty #[v']).run P w = .ok (.tuple #[]) w') : Run P σ w ⟨none, .call ⟨.builtin .clear, #[x], #[t]⟩, ty, pos, aft, none⟩ (.tuple #[]) w' := by
  refine run_bi rfl (vs := [v']) (by simp [hx, hv]) fun cs => ?_
  simp only [builtin, Sem.run_bind, hr, Result.andThen_ok, Sem.run_pure]
 obtain ⟨cs, e1, ⟨⟨p, rfl⟩, rfl, rfl⟩ | ⟨gb, cap, cur, rfl, rfl, hnc, hcm, hsz, htk⟩⟩ := hO
 ·have hm0 : m - l = 0 := by have := hmc _ _ _ rfl; omega
  refine zi rfl rfl (run _ w rfl ?_) (hK [] w _ rfl (fun j _ hj => ?_) (by rw [hset]; exact st))
  ·simp only [vsub, hm0]
   split <;> cases p <;> simp [Builtin.clear_, run_underlying ht]
  ·have : j = 0 := by simpa using hj
   subst this
   exact ⟨[], ⟨by simp, by simp⟩, .inl ⟨⟨p, rfl⟩, by simp, rfl⟩⟩
 ·have hmc := hmc _ _ _ rfl
  have hcl : cur.toList.length = cap * L.size := by rw [Array.length_toList, hsz]
  have fin : ∀ (cur' : Array Value) w', cur'.size = cap * L.size → cur'.toList.take (l * L.size) = cur.toList.take (l * L.size) → St h0 w0 h w' (own.set k [(gb, .cells cur' T)]) → OpsL P n ops rest K σ w' := by
   intro cur' w' h1 h2 s
   refine hK _ w' _ rfl (fun j hjl hj => ⟨_, e1.take hj, .inr ⟨gb, cap, cur', ?_, rfl, ?_, hcm, h1, ?_⟩⟩) s
   ·rw [List.length_take, Nat.min_eq_left hj]; rfl
   ·rw [List.length_take, Nat.min_eq_left hj]; omega
   ·have h3 := congrArg (List.take (j * L.size)) h2
    rw [List.take_take, List.take_take, Nat.min_eq_left (Nat.mul_le_mul_right _ hjl)] at h3
    rw [List.length_take, Nat.min_eq_left hj, h3, ← htk, List.take_take, Nat.min_eq_left (Nat.mul_le_mul_right _ hj)]
  by_cases h0 : m - l = 0
  ·refine zi rfl rfl (run _ w rfl ?_) (fin cur w hsz rfl (by rw [hset]; exact st))
   simp only [vsub, h0]
   split <;> simp [Builtin.clear_, run_underlying ht]
  ·have hgw := st.get hk
   have hfit : l * L.size + (List.length (Builtin.zeroCells z.cells (m - l)).toList) ≤ cur.size := by
    rw [Array.length_toList, size_zeroCells, hzs, hsz]
    have h2 : (l + (m - l)) * L.size ≤ cap * L.size := Nat.mul_le_mul_right _ (by omega)
    rw [Nat.add_mul] at h2
    exact h2
   have hst := run_storeCells_at P gb (l * L.size) T (Builtin.zeroCells z.cells (m - l)).toList 0 cur w hgw (by simpa using hfit) ?_
   ·simp only [Nat.add_zero] at hst
    refine zi rfl rfl (run (.slice ((some (⟨gb, 0, none⟩ : Addr)).map (·.add (l * L.size))) (m - l) (cap - l)) (w.setRow gb (cur.toList.take (l * L.size) ++ (Builtin.zeroCells z.cells (m - l)).toList ++ cur.toList.drop (l * L.size + (Builtin.zeroCells z.cells (m - l)).toList.length)).toArray) (by simp only [vsub]; rw [if_neg (by omega : ¬ cap = l)]) ?_) (fin (cur.toList.take (l * L.size) ++ (Builtin.zeroCells z.cells (m - l)).toList ++ cur.toList.drop (l * L.size + (Builtin.zeroCells z.cells (m - l)).toList.length)).toArray _ ?_ ?_ ?_)
    ·obtain ⟨q, hm⟩ : ∃ q, m - l = q + 1 := ⟨m - l - 1, by omega⟩
     rw [hm] at hst
     simp [Builtin.clear_, run_underlying ht, hm, hz, zdn, hst]
    ·rw [List.size_toArray, List.length_append, List.length_append, List.length_take, List.length_drop, hcl]
     omega
    ·rw [List.append_assoc, List.take_append, List.length_take, hcl]
     rw [List.take_take, Nat.min_self, show l * L.size - min (l * L.size) (cap * L.size) = 0 by have := Nat.mul_le_mul_right L.size (show l ≤ cap by omega); omega, List.take_zero, List.append_nil]
    ·have := st.set (.cells (cur.toList.take (l * L.size) ++ (Builtin.zeroCells z.cells (m - l)).toList ++ cur.toList.drop (l * L.size + (Builtin.zeroCells z.cells (m - l)).toList.length)).toArray T) hk
     refine this.same ?_ rfl rfl rfl (Nat.le_refl _)
     apply Array.ext_getElem?
     intro q
     have hlt := zcA hgw
     by_cases ej : q = gb
     ·subst ej
      rw [setRow_heap w _ cur _ T _ hgw]; simp [hlt]
     ·rw [setRow_other w gb q _ ej]; simp [Ne.symm ej]
   ·intro u hu
    refine hz1 u ?_
    simp only [Builtin.zeroCells, Array.toList_map, List.mem_map] at hu
    obtain ⟨q, hq, rfl⟩ := hu
    have hq2 : q < (m - l) * z.cells.size := by simpa using hq
    have hpos : 0 < z.cells.size := by
     rcases Nat.eq_zero_or_pos z.cells.size with e0 | e0
     ·rw [e0] at hq2; omega
     ·exact e0
    have hm := Nat.mod_lt q hpos
    rw [getElem!_pos z.cells _ hm]
    exact Array.getElem_mem_toList hm
theorem zid {α : Type} {L : Lay α} {T : TypeId} {v : Value} {xs : List α} {o : List (Nat × Obj)} {k j : Nat} {t e : TypeId} {z : Value} {x : Operand} (st : St h0 w0 h w own) (hO : OSl L T h v xs o) (hk : own[k]? = some o) (hj : j ≤ xs.length)
  (hx : ev σ x = zfK L.size v j) (ht : P.underlying t = some (.slice e)) (hz : ∀ w, (zeroValue e).run P w = .ok z w) (hzs : z.cells.size = L.size) (hz1 : ∀ u ∈ z.cells.toList, u.oneCell' = true)
  (hK : ∀ o' w' own', own' = own.set k o' → OSl L T h (vtake v j) (xs.take j) o' → St h0 w0 h w' own' → OpsL P n ops rest K σ w') : OpsL P n ops (⟨none, .call ⟨.builtin .clear, #[x], #[t]⟩, ty, pos, aft, none⟩ :: rest) K σ w := by
 obtain ⟨p, c, rfl⟩ := hO.form
 refine OpsL.clearSub (l := j) (m := xs.length) st hO hk hj (fun p n c e => ?_) hx ht hz hzs hz1 (fun o' w' own' e1 f s => hK o' w' own' e1 (f j (Nat.le_refl _) hj) s)
 have := hO.len _ _ _ e; have := hO.caps _ _ _ e; omega
theorem Sl.ofCells {α : Type} {L : Lay α} {b off : Nat} {cs : List Value} {xs : List α} (hc : Cells h b off cs) (hE : Enc L h cs xs) (hb : xs.length ≤ big) : Sl L h (.slice (some ⟨b, off, none⟩) xs.length xs.length) xs := by
 refine ⟨_, xs.length, rfl, ⟨hb, Nat.le_refl _⟩, .inr ⟨b, off, rfl, fun i x hi => ⟨_, ?_, hE.2 i x hi⟩⟩⟩
 obtain ⟨row, T, fr, hb, hh⟩ := hc
 refine ⟨row, T, fr, hb, fun j u hj => ?_⟩
 rw [List.getElem?_take] at hj
 split at hj
 ·rw [List.getElem?_drop] at hj
  have := hh _ _ hj
  rw [Nat.add_assoc]; exact this
 cases hj
theorem r_slice_arr {b off len m : Nat} {t e : TypeId} {x : Operand} (hx : ev σ x = .pointer (some ⟨b, off, none⟩)) (hu : P.underlying t = some (.array len e)) (hz : ∀ w, (sizeOf e).run P w = .ok m w) :
  Run P σ w ⟨dst, .slice t x none none none, ty, pos, aft, g⟩ (.slice (some ⟨b, off, none⟩) len len) w := by
 by_cases h : len = 0 <;> simp [Run, execOp, hx, Instr.sliceAt, run_underlying hu, Instr.sliceBounds, hz, Instr.sureAddr, zdn, h]
theorem r_fieldN {s : TypeId} {x : Operand} {k m : Nat} {fs : Array Field} {f : Field} {vs us : List Value} (hx : ev σ x = .agg vs.toArray) (hu : P.underlying s = some (.struct fs)) (hf : fs[k]? = some f) (ha : ∀ w, (isAgg f.type).run P w = .ok true w) (hz : ∀ w, (sizeOf f.type).run P w = .ok m w) (hv : (vs.drop f.offset).take m = us) (hl : us.length = m) :
  Run P σ w ⟨dst, .field s x k, ty, pos, aft, g⟩ (.agg us.toArray) w := by
 subst hv
 simp [Run, execOp, hx, Instr.field, run_underlying hu, hf, asAgg, part, ha, hz]
theorem zcE {fn : Func} {P : Program} {R : Ending → World → Prop} {a b n u : Nat} {t : TypeId} {σ : Env} {w : World} {cs : List Value} {T : TypeId} (hr : fn.results = #[.cell a t, .tmp u]) (hp : σ a = .pointer (some ⟨b, 0, none⟩)) (ha : ∀ w, (isAgg t).run P w = .ok true w) (hz : ∀ w, (sizeOf t).run P w = .ok n w) (hn : cs.length = n)
  (hb : w.heap[b]? = some (.cells cs.toArray T)) (h : R (.returned (.tuple #[.agg cs.toArray, σ u])) w) : Post fn P R .ret σ w := by
 intro tmps ht
 refine ⟨_, ?_, h⟩
 subst hn
 have hl := run_loadCells_list (P := P) (w := w) ⟨b, 0, none⟩ cs (fun j v hj => by rw [zdn]; simp [World.cell?, hb, hj])
 have hp' : tmps.getD a undef = .pointer (some ⟨b, 0, none⟩) := by rw [ht, hp]
 have hu := ht u
 simp only [Array.getD_eq_getD_getElem?] at hp' hu
 simp [results, hr, hp', hu, asAddr, loadVar, ha, hz, hl]
theorem Post.retcell2F {fn : Func} {P : Program} {R : Ending → World → Prop} {a b n u : Nat} {t : TypeId} {σ : Env} {w : World} {cs : List Value} {h : Heap} (hr : fn.results = #[.cell a t, .tmp u]) (hp : σ a = .pointer (some ⟨b, 0, none⟩)) (ha : ∀ w, (isAgg t).run P w = .ok true w) (hz : ∀ w, (sizeOf t).run P w = .ok n w) (hn : cs.length = n)
  (hs : Sub h w) (hb : Cells h b 0 cs) (hR : R (.returned (.tuple #[.agg cs.toArray, σ u])) w) : Post fn P R .ret σ w := by
 intro tmps ht
 refine ⟨_, ?_, hR⟩
 subst hn
 have hl := run_loadCells_list (P := P) (w := w) ⟨b, 0, none⟩ cs (fun j v hj => by rw [zdn]; exact hb.cell hs hj)
 have hp' : tmps.getD a undef = .pointer (some ⟨b, 0, none⟩) := by rw [ht, hp]
 have hu := ht u
 simp only [Array.getD_eq_getD_getElem?] at hp' hu
 simp [results, hr, hp', hu, asAddr, loadVar, ha, hz, hl]
end
theorem zap {P : Program} {n : Nat} {ops : Array Oper} {C : World → Prop} {rest : List Oper} {K : Env → Prop} {σ : Env} {dst : Option Tmp} {op : Op} {type : TypeId} {pos : String} {after : Array Edge} {g d : Nat} {b : Bool}
  (hg : (ops[g]?).bind (·.dst) = some d) (hd : Nat.blt d n = true) (hv : σ d = undef) (hdst : zfN n dst = true)
  (h : OpsQ P n ops C rest K (updO σ dst undef)) : OpsQ P n ops C (⟨dst, op, type, pos, after, some (g, b)⟩ :: rest) K σ := by
 intro a ha
 unfold wpQuiet
 rw [if_neg (by simp [Region.wanted, yielded_undef ha hg hd hv])]
 exact h _ (ha.put hdst _)
theorem OSl.whole {α : Type} {L : Lay α} {T : TypeId} {h0 h : Heap} {w0 w : World} {own : Own} {k : Nat} {v : Value} {xs : List α} {o : List (Nat × Obj)} (st : St h0 w0 h w own) (e : OSl L T h v xs o) (hk : own[k]? = some o) (hb : xs.length ≤ 281474976710656) : Le h (zeR w) ∧ Sl L (zeR w) v xs := by
 have hle : Le h (zeR w) := fun b o hb => st.sub b o hb
 refine ⟨hle, ?_⟩
 obtain ⟨cs, e1, ⟨⟨p, rfl⟩, rfl, rfl⟩ | ⟨g, cap, cur, rfl, rfl, hnc, _, hsz, htk⟩⟩ := e
 ·exact ⟨p, 0, rfl, ⟨Nat.zero_le _, Nat.zero_le _⟩, .inl rfl⟩
 have hg := st.get hk
 refine ⟨_, cap, rfl, ⟨hb, hnc⟩, .inr ⟨g, 0, rfl, fun i x hi => ⟨_, ⟨cur, T, _, hg, fun j u hj => ?_⟩, L.up (e1.2 i x hi) hle⟩⟩⟩
 have hjl : j < L.size := by
  rw [List.getElem?_take] at hj
  split at hj
  ·assumption
  ·cases hj
 rw [List.getElem?_take, if_pos hjl, List.getElem?_drop, ← htk, List.getElem?_take] at hj
 split at hj
 ·rw [Nat.zero_add]; simpa using hj
 cases hj
theorem St.thaw {h h' : Heap} {w w' : World} (s : St (zeR w) w h' w' []) (hs : Sub h w) : St h w h w' [] :=
 ⟨Le.refl h, fun _ _ => rfl, fun b o hb => s.sub b o (s.le b o (hs b o hb)), s.below, by simp, by simp⟩
theorem Sl.take {α : Type} {L : Lay α} {h : Heap} {v : Value} {xs : List α} (e : Sl L h v xs) {k : Nat} (hk : k ≤ xs.length) : Sl L h (vtake v k) (xs.take k) := by
 obtain ⟨p, c, rfl, ⟨hb, hc⟩, hh⟩ := e
 have hl : (xs.take k).length = k := by rw [List.length_take, Nat.min_eq_left hk]
 refine ⟨p, c, by rw [hl]; rfl, ⟨by omega, by omega⟩, ?_⟩
 rcases hh with rfl | ⟨b, off, rfl, hh⟩
 ·exact .inl (by simp)
 refine .inr ⟨b, off, rfl, fun i x hi => hh i x ?_⟩
 rw [List.getElem?_take] at hi
 split at hi
 ·exact hi
 cases hi
theorem Sl.drop {α : Type} {L : Lay α} {h : Heap} {v : Value} {xs : List α} (e : Sl L h v xs) {k : Nat} (hk : k ≤ xs.length) : Sl L h (zfK L.size v k) (xs.drop k) := by
 obtain ⟨p, c, rfl, ⟨hb, hc⟩, hh⟩ := e
 have hl : (xs.drop k).length = xs.length - k := List.length_drop
 refine ⟨_, _, by rw [hl]; rfl, ⟨by omega, by omega⟩, ?_⟩
 rcases hh with rfl | ⟨b, off, rfl, hh⟩
 ·exact .inl (by simp)
 by_cases h1 : c = k
 ·exact .inl (List.drop_eq_nil_of_le (by omega))
 rw [if_neg h1]
 refine .inr ⟨b, off + k * L.size, by simp [zdn], fun i x hi => ?_⟩
 rw [List.getElem?_drop] at hi
 obtain ⟨vs, h2, h3⟩ := hh _ x hi
 refine ⟨vs, ?_, h3⟩
 rw [Nat.add_assoc, ← Nat.add_mul]; exact h2
theorem Sl.caps {α : Type} {L : Lay α} {h : Heap} {v : Value} {xs : List α} (e : Sl L h v xs) : ∀ p n c, v = .slice p n c → n ≤ c := by
 rintro p n c rfl
 obtain ⟨q, c', e2, ⟨_, hc⟩, _⟩ := e
 cases e2; exact hc
theorem r_slice_to_sl {P : Program} {σ : Env} {w : World} {ty : TypeId} {pos : String} {aft : Array Edge} {dst : Option Tmp} {g : Option (Nat × Bool)} {α : Type} {L : Lay α} {h : Heap} {xs : List α} {v : Value} {t e : TypeId} {x hi_ : Operand} {i : Int} {k m : Nat} (hO : Sl L h v xs) (hx : ev σ x = v) (hi : ev σ hi_ = .int .i64 i) (hk : i = (k : Int)) (hle : k ≤ xs.length) (hu : P.underlying t = some (.slice e)) (hz : ∀ w, (sizeOf e).run P w = .ok m w) :
  Run P σ w ⟨dst, .slice t x none (some hi_) none, ty, pos, aft, g⟩ (vtake v k) w := by
 subst hk
 obtain ⟨p, c, rfl⟩ := hO.form
 have hc := hO.caps _ _ _ rfl
 have h1 : k ≤ c := by omega
 cases p <;> simp [Run, execOp, hx, hi, Instr.sliceAt, Instr.slice, run_underlying hu, Instr.sliceBounds, Instr.sliceBound, asIntOf, hz, h1, vtake]
 rename_i a
 intro _
 cases a
 rfl
theorem r_slice_from_sl {P : Program} {σ : Env} {w : World} {ty : TypeId} {pos : String} {aft : Array Edge} {dst : Option Tmp} {g : Option (Nat × Bool)} {α : Type} {L : Lay α} {h : Heap} {xs : List α} {v : Value} {t e : TypeId} {x lo : Operand} {i : Int} {k m : Nat} (hO : Sl L h v xs) (hx : ev σ x = v) (hi : ev σ lo = .int .i64 i) (hk : i = (k : Int)) (hle : k ≤ xs.length) (hu : P.underlying t = some (.slice e)) (hz : ∀ w, (sizeOf e).run P w = .ok m w) :
  Run P σ w ⟨dst, .slice t x (some lo) none none, ty, pos, aft, g⟩ (zfK m v k) w := by
 subst hk
 obtain ⟨p, c, rfl⟩ := hO.form
 have h1 : k ≤ xs.length := hle
 simp [Run, execOp, hx, hi, Instr.sliceAt, Instr.slice, run_underlying hu, Instr.sliceBounds, Instr.sliceBound, asIntOf, hz, h1, zfK]
end Go.Pk

namespace Go.Pk
open Go Go.RowKit
theorem X {α : Sort _} {a : α} : a = a := rfl
theorem t_kr {p : Prop} (h : p := by kernel_rfl) : p := h
theorem zbr {p : Prop} (h : p := by first | assumption | (simp [big]; done) | (simp [big]; omega) | omega) : p := h
theorem t_u8 {p : Prop} (h : p := by first | assumption | decide | omega | (dsimp only; omega) | (simp; omega)) : p := h
theorem t_om {p : Prop} (h : p := by first | omega | (simp; omega)) : p := h
theorem zau {p : Prop} (h : p := by repeat (first | exact Agree.mix _ _ _ | exact Agree.refl _ _ | refine Agree.updO rfl ?_ | refine Agree.upd rfl ?_ | refine Agree.known rfl ?_ | refine Agree.sub rfl ?_)) : p := h
theorem zaW {p : Prop} (h : p := by first | omega | simp | trivial) : p := h
theorem t_of {p : Prop} [Decidable p] (h : decide p = false) : ¬ p := of_decide_eq_false h
theorem t_ot {p : Prop} [Decidable p] (h : decide p = true) : p := of_decide_eq_true h
theorem t_ge {α : Type} {l : List α} {k : Nat} (h : k < l.length) : ∃ y, l[k]? = some y := ⟨_, List.getElem?_eq_getElem h⟩
def t_rg (a n : Nat) : List Nat := List.range' a n
theorem t_s0 {h : Heap} {w : World} (hs : Sub h w) : St h w h w [] := St.start hs
theorem zC {P : Program} {n : Nat} {Q : Exit → Env → World → Prop} {σ : Env} {w : World} {c : Operand} {x y : Code} {p : Prop} [Decidable p] (hc : ev σ c = .bool (decide p)) (ht : p → W P n x Q σ w) (hf : ¬ p → W P n y Q σ w) : W P n (.cond c x y) Q σ w := zae hc (fun h => ht (of_decide_eq_true h)) (fun h => hf (of_decide_eq_false h))
theorem zY {P : Program} {n : Nat} {ops : Array Oper} {K : Env → World → Prop} {σ : Env} {w : World} {l : List Oper} {d : Nat} {p : Prop} [Decidable p] (hv : σ d = .bool (decide p)) (h1 : p → OpsL P n ops l K (upd σ d (.bool true)) w) (h2 : ¬ p → OpsL P n ops l K (upd σ d (.bool false)) w) : OpsL P n ops l K σ w := zaw hv (fun h => h1 (of_decide_eq_true h)) (fun h => h2 (of_decide_eq_false h))
theorem ziq {P : Program} {n : Nat} {ops : Array Oper} {C : World → Prop} {K : Env → Prop} {σ : Env} {l : List Oper} {d : Nat} {p : Prop} [Decidable p] (hv : σ d = .bool (decide p)) (h1 : p → OpsQ P n ops C l K (upd σ d (.bool true))) (h2 : ¬ p → OpsQ P n ops C l K (upd σ d (.bool false))) : OpsQ P n ops C l K σ := zgc hv (fun h => h1 (of_decide_eq_true h)) (fun h => h2 (of_decide_eq_false h))
section
variable {P : Program} {n : Nat} {ops : Array Oper} {rest : List Oper} {K : Env → World → Prop} {C : World → Prop} {σ : Env} {w : World} {ty : TypeId} {pos : String} {aft : Array Edge} {d : Nat}
theorem M {dst : Option Tmp} {op : Op} {g : Nat} {b c : Bool} (hg : (ops[g]?).bind (·.dst) = some d) (hd : Nat.blt d n = true) (hv : σ d = .bool c) (hc : (c == b) = false) (hdst : zfN n dst = true) (h : OpsL P n ops rest K (updO σ dst undef) w) : OpsL P n ops (⟨dst, op, ty, pos, aft, some (g, b)⟩ :: rest) K σ w := OpsL.skipped hg hd hv hc hdst h
theorem W.sr {Q : Exit → Env → World → Prop} {id : Nat} {l : List Oper} {y : Code} (h : OpsL P n l.toArray l (fun σ w => Then (W P n y Q) Q .normal σ w) σ w) : W P n (.seq (.region id l.toArray false) y) Q σ w := zj (zn h)
theorem Y {Q : Exit → Env → World → Prop} {K' : Env → World → Prop} (h : K' σ w) : OpsL P n ops [] (fun σ w => Then K' Q .normal σ w) σ w := zp (O h)
end
section
variable {P : Program} {nT : Nat} {opT : Array Oper} {rsT : List Oper} {KT : Env → World → Prop} {CT : World → Prop} {σ : Env} {w : World} {ty : TypeId} {pos : String} {aft : Array Edge} {dT : Nat}

theorem zaM {t t' : TypeId} {x y : Operand} {a b : Int} (hx : ev σ x = .int .i64 a) (hy : ev σ y = .int .i64 b) (hb : -9223372036854775808 ≤ a + b ∧ a + b ≤ 9223372036854775807) (hdT : Nat.blt dT nT = true) (hKT : OpsL P nT opT rsT KT (upd σ dT (.int .i64 (a + b))) w) : OpsL P nT opT (⟨some dT, .binOp .add t x y t', ty, pos, aft, none⟩ :: rsT) KT σ w := zi rfl hdT (zhs hx hy hb) hKT
theorem zF {x : Operand} {a : Bool} (hv : ev σ x = .bool a) (hdT : Nat.blt dT nT = true) (hKT : OpsL P nT opT rsT KT (upd σ dT (.bool a)) w) : OpsL P nT opT (⟨some dT, .assign x, ty, pos, aft, none⟩ :: rsT) KT σ w := zi rfl hdT (r_asB hv) hKT
theorem u_asB {KT : Env → Prop} {x : Operand} {a : Bool} (hv : ev σ x = .bool a) (hdT : Nat.blt dT nT = true) (hKT : OpsQ P nT opT CT rsT KT (upd σ dT (.bool a))) : OpsQ P nT opT CT (⟨some dT, .assign x, ty, pos, aft, none⟩ :: rsT) KT σ := zH rfl hdT (fun _ _ => r_asB hv) hKT
theorem zq {x : Operand} {k : IntKind} {a : Int} (hv : ev σ x = .int k a) (hdT : Nat.blt dT nT = true) (hKT : OpsL P nT opT rsT KT (upd σ dT (.int k a)) w) : OpsL P nT opT (⟨some dT, .assign x, ty, pos, aft, none⟩ :: rsT) KT σ w := zi rfl hdT (r_asI hv) hKT
theorem u_asI {KT : Env → Prop} {x : Operand} {k : IntKind} {a : Int} (hv : ev σ x = .int k a) (hdT : Nat.blt dT nT = true) (hKT : OpsQ P nT opT CT rsT KT (upd σ dT (.int k a))) : OpsQ P nT opT CT (⟨some dT, .assign x, ty, pos, aft, none⟩ :: rsT) KT σ := zH rfl hdT (fun _ _ => r_asI hv) hKT
theorem zcM {x : Operand} {a : Option Addr} {m c : Nat} (hv : ev σ x = .slice a m c) (hdT : Nat.blt dT nT = true) (hKT : OpsL P nT opT rsT KT (upd σ dT (.slice a m c)) w) : OpsL P nT opT (⟨some dT, .assign x, ty, pos, aft, none⟩ :: rsT) KT σ w := zi rfl hdT (r_asL hv) hKT
theorem v_asP {x : Operand} {a : Option Addr} (hv : ev σ x = .pointer a) (hdT : Nat.blt dT nT = true) (hKT : OpsL P nT opT rsT KT (upd σ dT (.pointer a)) w) : OpsL P nT opT (⟨some dT, .assign x, ty, pos, aft, none⟩ :: rsT) KT σ w := zi rfl hdT (r_asP hv) hKT
theorem zfD {x : Operand} {a : Str} (hv : ev σ x = strV a) (hdT : Nat.blt dT nT = true) (hKT : OpsL P nT opT rsT KT (upd σ dT (strV a)) w) : OpsL P nT opT (⟨some dT, .assign x, ty, pos, aft, none⟩ :: rsT) KT σ w := zi rfl hdT (r_asS hv) hKT
theorem u_asS {KT : Env → Prop} {x : Operand} {a : Str} (hv : ev σ x = strV a) (hdT : Nat.blt dT nT = true) (hKT : OpsQ P nT opT CT rsT KT (upd σ dT (strV a))) : OpsQ P nT opT CT (⟨some dT, .assign x, ty, pos, aft, none⟩ :: rsT) KT σ := zH rfl hdT (fun _ _ => r_asS hv) hKT
theorem zaf {x : Operand} {v : Value} (hv : ev σ x = v) (hdT : Nat.blt dT nT = true) (hKT : OpsL P nT opT rsT KT (upd σ dT v) w) : OpsL P nT opT (⟨some dT, .assign x, ty, pos, aft, none⟩ :: rsT) KT σ w := zi rfl hdT (zha hv) hKT
theorem u_assign {KT : Env → Prop} {x : Operand} {v : Value} (hv : ev σ x = v) (hdT : Nat.blt dT nT = true) (hKT : OpsQ P nT opT CT rsT KT (upd σ dT v)) : OpsQ P nT opT CT (⟨some dT, .assign x, ty, pos, aft, none⟩ :: rsT) KT σ := zH rfl hdT (fun _ _ => zha hv) hKT
theorem zdd {t t' : TypeId} {x y : Operand} {k : IntKind} {a b : Int} (hx : ev σ x = .int k a) (hy : ev σ y = .int k b) (hdT : Nat.blt dT nT = true) (hKT : OpsL P nT opT rsT KT (upd σ dT (.bool (decide (a = b)))) w) : OpsL P nT opT (⟨some dT, .binOp .eql t x y t', ty, pos, aft, none⟩ :: rsT) KT σ w := zi rfl hdT (r_eql hx hy) hKT
theorem u_eql {KT : Env → Prop} {t t' : TypeId} {x y : Operand} {k : IntKind} {a b : Int} (hx : ev σ x = .int k a) (hy : ev σ y = .int k b) (hdT : Nat.blt dT nT = true) (hKT : OpsQ P nT opT CT rsT KT (upd σ dT (.bool (decide (a = b))))) : OpsQ P nT opT CT (⟨some dT, .binOp .eql t x y t', ty, pos, aft, none⟩ :: rsT) KT σ := zH rfl hdT (fun _ _ => r_eql hx hy) hKT
theorem zA {x : Operand} {k : Nat} {vs : List Value} {v : Value} (hx : ev σ x = .tuple vs.toArray) (hv : vs[k]? = some v) (hdT : Nat.blt dT nT = true) (hKT : OpsL P nT opT rsT KT (upd σ dT v) w) : OpsL P nT opT (⟨some dT, .extract x k, ty, pos, aft, none⟩ :: rsT) KT σ w := zi rfl hdT (zhH hx hv) hKT
theorem u_extract {KT : Env → Prop} {x : Operand} {k : Nat} {vs : List Value} {v : Value} (hx : ev σ x = .tuple vs.toArray) (hv : vs[k]? = some v) (hdT : Nat.blt dT nT = true) (hKT : OpsQ P nT opT CT rsT KT (upd σ dT v)) : OpsQ P nT opT CT (⟨some dT, .extract x k, ty, pos, aft, none⟩ :: rsT) KT σ := zH rfl hdT (fun _ _ => zhH hx hv) hKT
theorem E {s : TypeId} {x : Operand} {k b off m : Nat} {fs : Array Field} {f : Field} (hx : ev σ x = .pointer (some ⟨b, off, none⟩)) (hu : P.underlying s = some (.struct fs)) (hf : fs[k]? = some f) (hz : ∀ w, (sizeOf f.type).run P w = .ok (m + 1) w) {off' : Nat} (ho : off + f.offset = off') (hdT : Nat.blt dT nT = true) (hKT : OpsL P nT opT rsT KT (upd σ dT (.pointer (some ⟨b, off', none⟩))) w) : OpsL P nT opT (⟨some dT, .fieldAddr s x k, ty, pos, aft, none⟩ :: rsT) KT σ w := zi rfl hdT (zB hx hu hf hz ho) hKT
theorem zZ {KT : Env → Prop} {s : TypeId} {x : Operand} {k b off m : Nat} {fs : Array Field} {f : Field} (hx : ev σ x = .pointer (some ⟨b, off, none⟩)) (hu : P.underlying s = some (.struct fs)) (hf : fs[k]? = some f) (hz : ∀ w, (sizeOf f.type).run P w = .ok (m + 1) w) {off' : Nat} (ho : off + f.offset = off') (hdT : Nat.blt dT nT = true) (hKT : OpsQ P nT opT CT rsT KT (upd σ dT (.pointer (some ⟨b, off', none⟩)))) : OpsQ P nT opT CT (⟨some dT, .fieldAddr s x k, ty, pos, aft, none⟩ :: rsT) KT σ := zH rfl hdT (fun _ _ => zB hx hu hf hz ho) hKT
theorem zhq {t t' : TypeId} {x y : Operand} {k : IntKind} {a b : Int} (hx : ev σ x = .int k a) (hy : ev σ y = .int k b) (hdT : Nat.blt dT nT = true) (hKT : OpsL P nT opT rsT KT (upd σ dT (.bool (decide (b ≤ a)))) w) : OpsL P nT opT (⟨some dT, .binOp .geq t x y t', ty, pos, aft, none⟩ :: rsT) KT σ w := zi rfl hdT (r_geq hx hy) hKT
theorem u_geq {KT : Env → Prop} {t t' : TypeId} {x y : Operand} {k : IntKind} {a b : Int} (hx : ev σ x = .int k a) (hy : ev σ y = .int k b) (hdT : Nat.blt dT nT = true) (hKT : OpsQ P nT opT CT rsT KT (upd σ dT (.bool (decide (b ≤ a))))) : OpsQ P nT opT CT (⟨some dT, .binOp .geq t x y t', ty, pos, aft, none⟩ :: rsT) KT σ := zH rfl hdT (fun _ _ => r_geq hx hy) hKT
theorem zdm {t t' : TypeId} {x y : Operand} {k : IntKind} {a b : Int} (hx : ev σ x = .int k a) (hy : ev σ y = .int k b) (hdT : Nat.blt dT nT = true) (hKT : OpsL P nT opT rsT KT (upd σ dT (.bool (decide (b < a)))) w) : OpsL P nT opT (⟨some dT, .binOp .gtr t x y t', ty, pos, aft, none⟩ :: rsT) KT σ w := zi rfl hdT (r_gtr hx hy) hKT
theorem u_gtr {KT : Env → Prop} {t t' : TypeId} {x y : Operand} {k : IntKind} {a b : Int} (hx : ev σ x = .int k a) (hy : ev σ y = .int k b) (hdT : Nat.blt dT nT = true) (hKT : OpsQ P nT opT CT rsT KT (upd σ dT (.bool (decide (b < a))))) : OpsQ P nT opT CT (⟨some dT, .binOp .gtr t x y t', ty, pos, aft, none⟩ :: rsT) KT σ := zH rfl hdT (fun _ _ => r_gtr hx hy) hKT
theorem zU {v : Value} {t e : TypeId} {x ix : Operand} {i : Int} {k s b o : Nat} (he : Elem v k s b o) (hx : ev σ x = v) (hi : ev σ ix = .int .i64 i) (hk : i = (k : Int)) (hu : P.underlying t = some (.slice e)) (hz : ∀ w, (sizeOf e).run P w = .ok s w) (hdT : Nat.blt dT nT = true) (hKT : OpsL P nT opT rsT KT (upd σ dT (.pointer (some ⟨b, o, none⟩))) w) : OpsL P nT opT (⟨some dT, .indexAddr t x ix, ty, pos, aft, none⟩ :: rsT) KT σ w := zi rfl hdT (zav he hx hi hk hu hz) hKT
theorem zbZ {KT : Env → Prop} {v : Value} {t e : TypeId} {x ix : Operand} {i : Int} {k s b o : Nat} (he : Elem v k s b o) (hx : ev σ x = v) (hi : ev σ ix = .int .i64 i) (hk : i = (k : Int)) (hu : P.underlying t = some (.slice e)) (hz : ∀ w, (sizeOf e).run P w = .ok s w) (hdT : Nat.blt dT nT = true) (hKT : OpsQ P nT opT CT rsT KT (upd σ dT (.pointer (some ⟨b, o, none⟩)))) : OpsQ P nT opT CT (⟨some dT, .indexAddr t x ix, ty, pos, aft, none⟩ :: rsT) KT σ := zH rfl hdT (fun _ _ => zav he hx hi hk hu hz) hKT
theorem zaH {α : Type} {L : Lay α} {h : Heap} {xs : List α} {v : Value} {t e : TypeId} {x : Operand} (hs : Sl L h v xs) (hx : ev σ x = v) (hu : P.underlying t = some (.slice e)) (hdT : Nat.blt dT nT = true) (hKT : OpsL P nT opT rsT KT (upd σ dT (.int .i64 xs.length)) w) : OpsL P nT opT (⟨some dT, .call ⟨.builtin .len, #[x], #[t]⟩, ty, pos, aft, none⟩ :: rsT) KT σ w := zi rfl hdT (zhS hs hx hu) hKT
theorem u_len {KT : Env → Prop} {α : Type} {L : Lay α} {h : Heap} {xs : List α} {v : Value} {t e : TypeId} {x : Operand} (hs : Sl L h v xs) (hx : ev σ x = v) (hu : P.underlying t = some (.slice e)) (hdT : Nat.blt dT nT = true) (hKT : OpsQ P nT opT CT rsT KT (upd σ dT (.int .i64 xs.length))) : OpsQ P nT opT CT (⟨some dT, .call ⟨.builtin .len, #[x], #[t]⟩, ty, pos, aft, none⟩ :: rsT) KT σ := zH rfl hdT (fun _ _ => zhS hs hx hu) hKT
theorem zfq {h : Heap} {α : Type} {L : Lay α} {T : TypeId} {xs : List α} {v : Value} {o : List (Nat × Obj)} {t e : TypeId} {x : Operand} (hs : OSl L T h v xs o) (hx : ev σ x = v) (hu : P.underlying t = some (.slice e)) (hdT : Nat.blt dT nT = true) (hKT : OpsL P nT opT rsT KT (upd σ dT (.int .i64 xs.length)) w) : OpsL P nT opT (⟨some dT, .call ⟨.builtin .len, #[x], #[t]⟩, ty, pos, aft, none⟩ :: rsT) KT σ w := zi rfl hdT (r_len_own hs hx hu) hKT
theorem zcx {t : TypeId} {x : Operand} {s : Str} (hx : ev σ x = strV s) (hu : P.underlying t = some .string) (hdT : Nat.blt dT nT = true) (hKT : OpsL P nT opT rsT KT (upd σ dT (.int .i64 s.length)) w) : OpsL P nT opT (⟨some dT, .call ⟨.builtin .len, #[x], #[t]⟩, ty, pos, aft, none⟩ :: rsT) KT σ w := zi rfl hdT (r_len_str hx hu) hKT
theorem zbi {b off : Nat} {cs : List Value} {T : TypeId} {fr : Nat × Nat} {v : Value} {t : TypeId} {x : Operand} (hb : w.heap[b]? = some (.cells cs.toArray T fr)) (hx : ev σ x = .pointer (some ⟨b, off, none⟩)) (hv : cs[off]? = some v) (ha : ∀ w, (isAgg t).run P w = .ok false w) (hdT : Nat.blt dT nT = true) (hKT : OpsL P nT opT rsT KT (upd σ dT v) w) : OpsL P nT opT (⟨some dT, .load t x, ty, pos, aft, none⟩ :: rsT) KT σ w := zi rfl hdT (ziG hb hx hv ha) hKT
theorem zbc {b m : Nat} {cs : List Value} {T : TypeId} {fr : Nat × Nat} {t : TypeId} {x : Operand} (hb : w.heap[b]? = some (.cells cs.toArray T fr)) (hx : ev σ x = .pointer (some ⟨b, 0, none⟩)) (ha : ∀ w, (isAgg t).run P w = .ok true w) (hz : ∀ w, (sizeOf t).run P w = .ok m w) (hn : cs.length = m) (hdT : Nat.blt dT nT = true) (hKT : OpsL P nT opT rsT KT (upd σ dT (.agg cs.toArray)) w) : OpsL P nT opT (⟨some dT, .load t x, ty, pos, aft, none⟩ :: rsT) KT σ w := zi rfl hdT (r_load_ball hb hx ha hz hn) hKT
theorem zr {h : Heap} (hs : Sub h w) {t : TypeId} {x : Operand} {b o m : Nat} {vs : List Value} (hc : Cells h b o vs) (hx : ev σ x = .pointer (some ⟨b, o, none⟩)) (ha : ∀ w, (isAgg t).run P w = .ok true w) (hz : ∀ w, (sizeOf t).run P w = .ok m w) (hn : vs.length = m) (hdT : Nat.blt dT nT = true) (hKT : OpsL P nT opT rsT KT (upd σ dT (.agg vs.toArray)) w) : OpsL P nT opT (⟨some dT, .load t x, ty, pos, aft, none⟩ :: rsT) KT σ w := zi rfl hdT (zat hs hc hx ha hz hn) hKT
theorem U {h : Heap} (hs : Sub h w) {t : TypeId} {x : Operand} {b off j : Nat} {vs : List Value} {v : Value} (hc : Cells h b off vs) {off' : Nat} (hx : ev σ x = .pointer (some ⟨b, off', none⟩)) (ho : off' = off + j) (hv : vs[j]? = some v) (ha : ∀ w, (isAgg t).run P w = .ok false w) (hdT : Nat.blt dT nT = true) (hKT : OpsL P nT opT rsT KT (upd σ dT v) w) : OpsL P nT opT (⟨some dT, .load t x, ty, pos, aft, none⟩ :: rsT) KT σ w := zi rfl hdT (zf hs hc hx ho hv ha) hKT
theorem zal {h : Heap} (hs : Sub h w) {t : TypeId} {x : Operand} {b off j n : Nat} {vs us : List Value} (hc : Cells h b off vs) {off' : Nat} (hx : ev σ x = .pointer (some ⟨b, off', none⟩)) (ho : off' = off + j) (ha : ∀ w, (isAgg t).run P w = .ok true w) (hz : ∀ w, (sizeOf t).run P w = .ok n w) (hu : (vs.drop j).take n = us) (hn : us.length = n) (hdT : Nat.blt dT nT = true) (hKT : OpsL P nT opT rsT KT (upd σ dT (.agg us.toArray)) w) : OpsL P nT opT (⟨some dT, .load t x, ty, pos, aft, none⟩ :: rsT) KT σ w := zi rfl hdT (zcD hs hc hx ho ha hz hu hn) hKT
theorem zaX {t t' : TypeId} {x y : Operand} {k : IntKind} {a b : Int} (hx : ev σ x = .int k a) (hy : ev σ y = .int k b) (hdT : Nat.blt dT nT = true) (hKT : OpsL P nT opT rsT KT (upd σ dT (.bool (decide (a < b)))) w) : OpsL P nT opT (⟨some dT, .binOp .lss t x y t', ty, pos, aft, none⟩ :: rsT) KT σ w := zi rfl hdT (r_lss hx hy) hKT
theorem u_lss {KT : Env → Prop} {t t' : TypeId} {x y : Operand} {k : IntKind} {a b : Int} (hx : ev σ x = .int k a) (hy : ev σ y = .int k b) (hdT : Nat.blt dT nT = true) (hKT : OpsQ P nT opT CT rsT KT (upd σ dT (.bool (decide (a < b))))) : OpsQ P nT opT CT (⟨some dT, .binOp .lss t x y t', ty, pos, aft, none⟩ :: rsT) KT σ := zH rfl hdT (fun _ _ => r_lss hx hy) hKT
theorem zcL {fn : Fn} {first captured : Array Operand} {fs cs : List Value} (hf : first.toList.map (ev σ) = fs) (hc : captured.toList.map (ev σ) = cs) (hdT : Nat.blt dT nT = true) (hKT : OpsL P nT opT rsT KT (upd σ dT (.func fn fs.toArray cs.toArray)) w) : OpsL P nT opT (⟨some dT, .makeFunc fn first captured, ty, pos, aft, none⟩ :: rsT) KT σ w := zi rfl hdT (r_make_func hf hc) hKT
theorem zR {x : Operand} {v : Value} (hv : ev σ x = v) (hdT : Nat.blt dT nT = true) (hKT : OpsL P nT opT rsT KT (upd σ dT v) w) : OpsL P nT opT (⟨some dT, .move x, ty, pos, aft, none⟩ :: rsT) KT σ w := zi rfl hdT (zeQ hv) hKT
theorem zfU {KT : Env → Prop} {x : Operand} {v : Value} (hv : ev σ x = v) (hdT : Nat.blt dT nT = true) (hKT : OpsQ P nT opT CT rsT KT (upd σ dT v)) : OpsQ P nT opT CT (⟨some dT, .move x, ty, pos, aft, none⟩ :: rsT) KT σ := zH rfl hdT (fun _ _ => zeQ hv) hKT
theorem zS {x : Operand} {a : Bool} (hv : ev σ x = .bool a) (hdT : Nat.blt dT nT = true) (hKT : OpsL P nT opT rsT KT (upd σ dT (.bool a)) w) : OpsL P nT opT (⟨some dT, .move x, ty, pos, aft, none⟩ :: rsT) KT σ w := zi rfl hdT (zeW hv) hKT
theorem zhr {KT : Env → Prop} {x : Operand} {a : Bool} (hv : ev σ x = .bool a) (hdT : Nat.blt dT nT = true) (hKT : OpsQ P nT opT CT rsT KT (upd σ dT (.bool a))) : OpsQ P nT opT CT (⟨some dT, .move x, ty, pos, aft, none⟩ :: rsT) KT σ := zH rfl hdT (fun _ _ => zeW hv) hKT
theorem zgY {x : Operand} {f : Fn} {a c : Array Value} (hv : ev σ x = .func f a c) (hdT : Nat.blt dT nT = true) (hKT : OpsL P nT opT rsT KT (upd σ dT (.func f a c)) w) : OpsL P nT opT (⟨some dT, .move x, ty, pos, aft, none⟩ :: rsT) KT σ w := zi rfl hdT (r_mvF hv) hKT
theorem zh {x : Operand} {k : IntKind} {a : Int} (hv : ev σ x = .int k a) (hdT : Nat.blt dT nT = true) (hKT : OpsL P nT opT rsT KT (upd σ dT (.int k a)) w) : OpsL P nT opT (⟨some dT, .move x, ty, pos, aft, none⟩ :: rsT) KT σ w := zi rfl hdT (zel hv) hKT
theorem zde {KT : Env → Prop} {x : Operand} {k : IntKind} {a : Int} (hv : ev σ x = .int k a) (hdT : Nat.blt dT nT = true) (hKT : OpsQ P nT opT CT rsT KT (upd σ dT (.int k a))) : OpsQ P nT opT CT (⟨some dT, .move x, ty, pos, aft, none⟩ :: rsT) KT σ := zH rfl hdT (fun _ _ => zel hv) hKT
theorem v_mvP {x : Operand} {a : Option Addr} (hv : ev σ x = .pointer a) (hdT : Nat.blt dT nT = true) (hKT : OpsL P nT opT rsT KT (upd σ dT (.pointer a)) w) : OpsL P nT opT (⟨some dT, .move x, ty, pos, aft, none⟩ :: rsT) KT σ w := zi rfl hdT (r_mvP hv) hKT
theorem u_mvP {KT : Env → Prop} {x : Operand} {a : Option Addr} (hv : ev σ x = .pointer a) (hdT : Nat.blt dT nT = true) (hKT : OpsQ P nT opT CT rsT KT (upd σ dT (.pointer a))) : OpsQ P nT opT CT (⟨some dT, .move x, ty, pos, aft, none⟩ :: rsT) KT σ := zH rfl hdT (fun _ _ => r_mvP hv) hKT
theorem zcn {x : Operand} {a : Str} (hv : ev σ x = strV a) (hdT : Nat.blt dT nT = true) (hKT : OpsL P nT opT rsT KT (upd σ dT (strV a)) w) : OpsL P nT opT (⟨some dT, .move x, ty, pos, aft, none⟩ :: rsT) KT σ w := zi rfl hdT (r_mvS hv) hKT
theorem zbY {x : Operand} {a : List Value} (hv : ev σ x = .tuple a.toArray) (hdT : Nat.blt dT nT = true) (hKT : OpsL P nT opT rsT KT (upd σ dT (.tuple a.toArray)) w) : OpsL P nT opT (⟨some dT, .move x, ty, pos, aft, none⟩ :: rsT) KT σ w := zi rfl hdT (r_mvT hv) hKT
theorem u_mvT {KT : Env → Prop} {x : Operand} {a : List Value} (hv : ev σ x = .tuple a.toArray) (hdT : Nat.blt dT nT = true) (hKT : OpsQ P nT opT CT rsT KT (upd σ dT (.tuple a.toArray))) : OpsQ P nT opT CT (⟨some dT, .move x, ty, pos, aft, none⟩ :: rsT) KT σ := zH rfl hdT (fun _ _ => r_mvT hv) hKT
theorem zcf {t t' : TypeId} {x y : Operand} {k : IntKind} {a b : Int} (hx : ev σ x = .int k a) (hy : ev σ y = .int k b) (hdT : Nat.blt dT nT = true) (hKT : OpsL P nT opT rsT KT (upd σ dT (.bool (decide (a ≠ b)))) w) : OpsL P nT opT (⟨some dT, .binOp .neq t x y t', ty, pos, aft, none⟩ :: rsT) KT σ w := zi rfl hdT (r_neq hx hy) hKT
theorem u_neq {KT : Env → Prop} {t t' : TypeId} {x y : Operand} {k : IntKind} {a b : Int} (hx : ev σ x = .int k a) (hy : ev σ y = .int k b) (hdT : Nat.blt dT nT = true) (hKT : OpsQ P nT opT CT rsT KT (upd σ dT (.bool (decide (a ≠ b))))) : OpsQ P nT opT CT (⟨some dT, .binOp .neq t x y t', ty, pos, aft, none⟩ :: rsT) KT σ := zH rfl hdT (fun _ _ => r_neq hx hy) hKT
theorem zbl {t : TypeId} {x : Operand} {b : Bool} (hx : ev σ x = .bool b) (hdT : Nat.blt dT nT = true) (hKT : OpsL P nT opT rsT KT (upd σ dT (.bool (!b))) w) : OpsL P nT opT (⟨some dT, .unOp .not t x, ty, pos, aft, none⟩ :: rsT) KT σ w := zi rfl hdT (r_not hx) hKT
theorem u_not {KT : Env → Prop} {t : TypeId} {x : Operand} {b : Bool} (hx : ev σ x = .bool b) (hdT : Nat.blt dT nT = true) (hKT : OpsQ P nT opT CT rsT KT (upd σ dT (.bool (!b)))) : OpsQ P nT opT CT (⟨some dT, .unOp .not t x, ty, pos, aft, none⟩ :: rsT) KT σ := zH rfl hdT (fun _ _ => r_not hx) hKT
theorem zN {c a b : Operand} {v : Value} (hc : ev σ c = .bool false) (hv : ev σ b = v) (hdT : Nat.blt dT nT = true) (hKT : OpsL P nT opT rsT KT (upd σ dT v) w) : OpsL P nT opT (⟨some dT, .pick c a b, ty, pos, aft, none⟩ :: rsT) KT σ w := zi rfl hdT (zfR hc hv) hKT
theorem zef {KT : Env → Prop} {c a b : Operand} {v : Value} (hc : ev σ c = .bool false) (hv : ev σ b = v) (hdT : Nat.blt dT nT = true) (hKT : OpsQ P nT opT CT rsT KT (upd σ dT v)) : OpsQ P nT opT CT (⟨some dT, .pick c a b, ty, pos, aft, none⟩ :: rsT) KT σ := zH rfl hdT (fun _ _ => zfR hc hv) hKT
theorem zT {c a b : Operand} {v : Value} (hc : ev σ c = .bool true) (hv : ev σ a = v) (hdT : Nat.blt dT nT = true) (hKT : OpsL P nT opT rsT KT (upd σ dT v) w) : OpsL P nT opT (⟨some dT, .pick c a b, ty, pos, aft, none⟩ :: rsT) KT σ w := zi rfl hdT (zhz hc hv) hKT
theorem zfP {KT : Env → Prop} {c a b : Operand} {v : Value} (hc : ev σ c = .bool true) (hv : ev σ a = v) (hdT : Nat.blt dT nT = true) (hKT : OpsQ P nT opT CT rsT KT (upd σ dT v)) : OpsQ P nT opT CT (⟨some dT, .pick c a b, ty, pos, aft, none⟩ :: rsT) KT σ := zH rfl hdT (fun _ _ => zhz hc hv) hKT
theorem v_seql {t t' : TypeId} {x y : Operand} {a b : Str} (hx : ev σ x = strV a) (hy : ev σ y = strV b) (hdT : Nat.blt dT nT = true) (hKT : OpsL P nT opT rsT KT (upd σ dT (.bool (decide (a = b)))) w) : OpsL P nT opT (⟨some dT, .binOp .eql t x y t', ty, pos, aft, none⟩ :: rsT) KT σ w := zi rfl hdT (r_seql hx hy) hKT
theorem u_seql {KT : Env → Prop} {t t' : TypeId} {x y : Operand} {a b : Str} (hx : ev σ x = strV a) (hy : ev σ y = strV b) (hdT : Nat.blt dT nT = true) (hKT : OpsQ P nT opT CT rsT KT (upd σ dT (.bool (decide (a = b))))) : OpsQ P nT opT CT (⟨some dT, .binOp .eql t x y t', ty, pos, aft, none⟩ :: rsT) KT σ := zH rfl hdT (fun _ _ => r_seql hx hy) hKT
theorem ziC {t t' : TypeId} {x y : Operand} {a b : Int} (hx : ev σ x = .int .i64 a) (hy : ev σ y = .int .i64 b) (hb : -9223372036854775808 ≤ a - b ∧ a - b ≤ 9223372036854775807) (hdT : Nat.blt dT nT = true) (hKT : OpsL P nT opT rsT KT (upd σ dT (.int .i64 (a - b))) w) : OpsL P nT opT (⟨some dT, .binOp .sub t x y t', ty, pos, aft, none⟩ :: rsT) KT σ w := zi rfl hdT (ziF hx hy hb) hKT
theorem u_sub {KT : Env → Prop} {t t' : TypeId} {x y : Operand} {a b : Int} (hx : ev σ x = .int .i64 a) (hy : ev σ y = .int .i64 b) (hb : -9223372036854775808 ≤ a - b ∧ a - b ≤ 9223372036854775807) (hdT : Nat.blt dT nT = true) (hKT : OpsQ P nT opT CT rsT KT (upd σ dT (.int .i64 (a - b)))) : OpsQ P nT opT CT (⟨some dT, .binOp .sub t x y t', ty, pos, aft, none⟩ :: rsT) KT σ := zH rfl hdT (fun _ _ => ziF hx hy hb) hKT
end
end Go.Pk

namespace Go.Pk
open Go Go.RowKit
variable {P : Program} {n : Nat} {σ : Env} {w : World}
theorem W.join {c : Code} {G : Type} {Q : Exit → Env → World → Prop} (mods : List Nat) (vals : G → List (Nat × Value)) (I : G → World → Prop)
  (h1 : W P n c (fun e σ' w' => e = .normal ∧ ∃ g, Has σ' (vals g) ∧ Agree mods σ' σ ∧ I g w') σ w)
  (h2 : ∀ g τ w', I g w' → Q .normal (known (vals g) (mix mods τ σ)) w') : W P n c Q σ w := by
 refine W.mono h1 ?_
 rintro e σ'' w'' ⟨rfl, g', a1, a2, a3⟩
 obtain ⟨τ', hτ'⟩ := loop_back a1 a2
 rw [hτ']; exact h2 g' τ' w'' a3
end Go.Pk

namespace Go.Pk
open Go Go.RowKit
section
variable {P : Program} {n : Nat} {ops : Array Oper} {rest : List Oper} {K : Env → World → Prop} {σ : Env} {w w0 : World} {h0 h : Heap} {own : Own} {ty : TypeId} {pos : String} {aft : Array Edge} {d : Nat}
theorem OpsL.makeInts (st : St h0 w0 h w own) {t e : TypeId} {i : TypeInfo} {x y : Operand} {m : Nat} (hd : Nat.blt d n = true) (ht : P.underlying t = some (.slice e)) (hi : P.info? e = some i) (hz : i.zero = some (.int .i64 0)) (hs : i.size = 1) (hx : ev σ x = .int .i64 (m : Int)) (hy : ev σ y = .int .i64 (m : Int)) (hb : i.bytes * m ≤ 281474976710656) (hm : m ≤ 1000000)
  (hK : ∀ v o w', OSl LInt e h v (List.replicate m (0 : Int)) o → St h0 w0 h w' (own ++ [o]) → OpsL P n ops rest K (upd σ d v) w') :
  OpsL P n ops (⟨some d, .makeSlice t x y, ty, pos, aft, none⟩ :: rest) K σ w := by
 have hb' : (i.bytes : Int) * (m : Int) ≤ 281474976710656 := by
  have h : ((i.bytes * m : Nat) : Int) ≤ 281474976710656 := by omega
  rwa [Int.natCast_mul] at h
 have hr := run_make (P := P) w t e i _ ht hi hz .i64 .i64 m m (by omega) (Int.le_refl _) hb' (by omega)
 simp only [Int.toNat_natCast, hs, Nat.mul_one] at hr
 refine zi rfl hd (v := .slice (some ⟨w.heap.size, 0, none⟩) m m) (by simp [Run, execOp, hx, hy, hr]) (hK _ [(w.heap.size, .cells (madeCells (Value.int .i64 0).cells m) e)] _ ?_ (st.alloc _))
 have hc : (madeCells (Value.int .i64 0).cells m).toList = List.replicate m (.int .i64 0) := toList_madeCells_one _ _
 have hl : LInt.size = 1 := rfl
 refine ⟨List.replicate m (.int .i64 0), ⟨by simp [hl], ?_⟩, .inr ⟨_, m, _, by simp, rfl, by simp, by simp [maxLen]; omega, ?_, ?_⟩⟩
 ·intro k y hy
  obtain ⟨h1, h2⟩ := List.getElem?_eq_some_iff.1 hy
  rw [List.length_replicate] at h1
  rw [List.getElem_replicate] at h2
  subst h2
  rw [hl, Nat.mul_one, List.drop_replicate, List.take_replicate, Nat.min_eq_left (by omega)]
  rfl
 ·rw [← Array.length_toList, hc]; simp [hl]
 ·rw [hc]; simp [hl]
end
section
variable {P : Program} {n : Nat} {ops : Array Oper} {rest : List Oper} {K : Env → World → Prop} {σ : Env} {w w0 : World} {h0 h : Heap} {own : Own} {ty : TypeId} {pos : String} {aft : Array Edge} {d : Nat}
end
end Go.Pk

namespace Go.Pk
open Go Go.RowKit
structure Six where
 a : Int
 b : Int
 c : Int
 d : Int
 e : Int
 f : Int
deriving DecidableEq
def sixV (s : Six) : Value := .agg #[.int .i64 s.a, .int .i64 s.b, .int .i64 s.c, .int .i64 s.d, .int .i64 s.e, .int .i64 s.f]
theorem six_one {P : Program} {e : TypeId} (he : P.underlying e = some (.int .i64)) (d : Nat) (a b : Int) (w : World) : (Op.equalIn (d + 1) e (.int .i64 a) (.int .i64 b)).run P w = .ok (a == b) w := by
 rw [Op.equalIn]
 simp [run_underlying he]
theorem six_equal {P : Program} {kt e_ : TypeId} (hu : P.underlying kt = some (.array 6 e_)) (he : P.underlying e_ = some (.int .i64)) (ha : ∀ w, (isAgg e_).run P w = .ok false w) (hz : ∀ w, (sizeOf e_).run P w = .ok 1 w) (s t : Six) (w : World) : (Op.equal kt (sixV s) (sixV t)).run P w = .ok (decide (s = t)) w := by
 rcases s with ⟨a, b, c, d, e, f⟩; rcases t with ⟨a', b', c', d', e', f'⟩
 show (Op.equalIn (9998 + 1 + 1) kt _ _).run P w = _
 rw [Op.equalIn]
 simp only [Sem.run_bind, run_underlying hu, Result.andThen_ok, sixV, hz]
 have p1 : ∀ (n : Nat) (xs : Array Value) (v : Value), xs[n]? = some v → (part e_ xs n).run P w = .ok v w := by
  intro n xs v h
  simp [part, ha, h]
 have q := six_one he 9998
 simp only [Std.Legacy.Range.forIn_eq_forIn_range', Std.Legacy.Range.size, Nat.sub_zero, Nat.add_sub_cancel, Nat.div_one, List.range'_succ, List.range'_zero, List.forIn_cons, List.forIn_nil, Nat.mul_one, Nat.zero_add, Nat.reduceAdd]
 have e0 : ∀ x0 x1 x2 x3 x4 x5 : Value, (part e_ #[x0, x1, x2, x3, x4, x5] 0).run P w = .ok x0 w := fun _ _ _ _ _ _ => p1 _ _ _ rfl
 have e1 : ∀ x0 x1 x2 x3 x4 x5 : Value, (part e_ #[x0, x1, x2, x3, x4, x5] 1).run P w = .ok x1 w := fun _ _ _ _ _ _ => p1 _ _ _ rfl
 have e2 : ∀ x0 x1 x2 x3 x4 x5 : Value, (part e_ #[x0, x1, x2, x3, x4, x5] 2).run P w = .ok x2 w := fun _ _ _ _ _ _ => p1 _ _ _ rfl
 have e3 : ∀ x0 x1 x2 x3 x4 x5 : Value, (part e_ #[x0, x1, x2, x3, x4, x5] 3).run P w = .ok x3 w := fun _ _ _ _ _ _ => p1 _ _ _ rfl
 have e4 : ∀ x0 x1 x2 x3 x4 x5 : Value, (part e_ #[x0, x1, x2, x3, x4, x5] 4).run P w = .ok x4 w := fun _ _ _ _ _ _ => p1 _ _ _ rfl
 have e5 : ∀ x0 x1 x2 x3 x4 x5 : Value, (part e_ #[x0, x1, x2, x3, x4, x5] 5).run P w = .ok x5 w := fun _ _ _ _ _ _ => p1 _ _ _ rfl
 by_cases h1 : a = a'
 rotate_left
 ·simp [e0, q, h1]
 by_cases h2 : b = b'
 rotate_left
 ·simp [e0, e1, q, h1, h2]
 by_cases h3 : c = c'
 rotate_left
 ·simp [e0, e1, e2, q, h1, h2, h3]
 by_cases h4 : d = d'
 rotate_left
 ·simp [e0, e1, e2, e3, q, h1, h2, h3, h4]
 by_cases h5 : e = e'
 rotate_left
 ·simp [e0, e1, e2, e3, e4, q, h1, h2, h3, h4, h5]
 by_cases h6 : f = f'
 rotate_left
 ·simp [e0, e1, e2, e3, e4, e5, q, h1, h2, h3, h4, h5, h6]
 simp [e0, e1, e2, e3, e4, e5, q, h1, h2, h3, h4, h5, h6]
structure KeyF {κ : Type} [DecidableEq κ] (P : Program) (kt : TypeId) (ek : κ → Value) : Prop where
 eq : ∀ a b w, (Op.equal kt (ek a) (ek b)).run P w = .ok (decide (a = b)) w
 now : ∀ (a b : κ) (w : World), ∃ kind, P.underlying kt = some kind ∧ Instr.sameNow kind (ek a) (ek b) = none
 check : ∀ b k w, (Instr.checkKey b 10000 kt (ek k)).run P w = .ok () w
theorem asking_none {κ υ : Type} [DecidableEq κ] {P : Program} {kt : TypeId} {ek : κ → Value} {eu : υ → Value} (hK : KeyF P kt ek) {k : κ} (w : World) : ∀ {es : List MapEntry} {m : List (κ × υ)} (i : Nat), Ent ek eu es m → look m k = none → (Instr.findAsking kt (ek k) es i).run P w = .ok none w
 | [], [], _, _, _ => by simp [Instr.findAsking]
 | e :: es, p :: m, i, h, hl => by
  simp only [look, List.find?_cons] at hl
  have hne : ¬ p.1 = k := fun e => by simp [e] at hl
  simp only [hne, decide_false] at hl
  have hne' : ¬ k = p.1 := fun e => hne e.symm
  have e1 := hK.eq k p.1 w
  rw [decide_eq_false hne'] at e1
  simp [Instr.findAsking, h.1, e1, asking_none hK w (i + 1) h.2.2 hl]
 | [], _ :: _, _, h, _ => h.elim
 | _ :: _, [], _, h, _ => h.elim
theorem asking_some {κ υ : Type} [DecidableEq κ] {P : Program} {kt : TypeId} {ek : κ → Value} {eu : υ → Value} (hK : KeyF P kt ek) {k : κ} (w : World) {v : υ} : ∀ {es : List MapEntry} {m : List (κ × υ)} (i : Nat), Ent ek eu es m → look m k = some v → ∃ j, (Instr.findAsking kt (ek k) es i).run P w = .ok (some (j, eu v)) w
 | [], [], _, _, hl => by cases hl
 | e :: es, p :: m, i, h, hl => by
  by_cases hne : p.1 = k
  ·simp only [look, List.find?_cons, hne, decide_true, Option.map_some, Option.some.injEq] at hl
   have e1 := hK.eq k p.1 w
   rw [decide_eq_true hne.symm] at e1
   exact ⟨i, by simp [Instr.findAsking, h.1, e1, h.2.1, hl]⟩
  ·have hl' : look m k = some v := by simpa only [look, List.find?_cons, hne, decide_false] using hl
   obtain ⟨j, hj⟩ := asking_some hK w (i + 1) h.2.2 hl'
   have e1 := hK.eq k p.1 w
   rw [decide_eq_false (fun e => hne e.symm)] at e1
   exact ⟨j, by simp [Instr.findAsking, h.1, e1, hj]⟩
 | [], _ :: _, _, h, _ => h.elim
 | _ :: _, [], _, h, _ => h.elim
theorem findF {κ υ : Type} [DecidableEq κ] {P : Program} {kt : TypeId} {ek : κ → Value} {eu : υ → Value} (hK : KeyF P kt ek) {k : κ} (w : World) {es : List MapEntry} {m : List (κ × υ)} (h : Ent ek eu es m) : ∃ j, (Instr.findKey kt (ek k) es).run P w = .ok ((look m k).map fun v => (j, eu v)) w := by
 obtain ⟨kind, hu, hn⟩ := hK.now k k w
 cases es with
 | nil =>
  cases m with
  | nil => exact ⟨0, by simp [Instr.findKey, run_underlying hu, Instr.findNow, look]⟩
  | cons _ _ => exact h.elim
 | cons e es =>
  cases m with
  | nil => exact h.elim
  | cons p m =>
   obtain ⟨kind', hu', hn'⟩ := hK.now k p.1 w
   obtain rfl := Option.some.inj (hu.symm.trans hu')
   have e1 : Instr.findNow kind (ek k) (e :: es) 0 = none := by simp [Instr.findNow, h.1, hn']
   cases hl : look (p :: m) k with
   | none =>
    have := asking_none hK w 0 h hl
    exact ⟨0, by simp only [Instr.findKey, Sem.run_bind, run_underlying hu, Result.andThen_ok, e1, this, Option.map_none]⟩
   | some v =>
    obtain ⟨j, hj⟩ := asking_some hK w 0 h hl
    exact ⟨j, by simp only [Instr.findKey, Sem.run_bind, run_underlying hu, Result.andThen_ok, e1, hj, Option.map_some]⟩
section
variable {κ υ : Type} {ek : κ → Value} {eu : υ → Value}
variable {P : Program} {n : Nat} {ops : Array Oper} {rest : List Oper} {K : Env → World → Prop} {σ : Env} {w w0 : World} {h0 h : Heap} {own : Own} {ty : TypeId} {pos : String} {aft : Array Edge} {d : Nat} {dst : Option Tmp} {g : Option (Nat × Bool)}
theorem r_lookF [DecidableEq κ] {t kt et : TypeId} {x y : Operand} {m : List (κ × υ)} {o : List (Nat × Obj)} {v zv : Value} {k : κ} {zu : υ} (hK : KeyF P kt ek) (ht : P.underlying t = some (.map kt et)) (hM : OM ek eu m o v) (hw : ∀ b ob, o = [(b, ob)] → w.heap[b]? = some ob)
  (hz : ∀ w, (zeroValue et).run P w = .ok zv w) (hzu : zv = eu zu) (hx : ev σ x = v) (hy : ev σ y = ek k) :
  Run P σ w ⟨dst, .lookup t x y false, ty, pos, aft, g⟩ (eu ((look m k).getD zu)) w := by
 obtain ⟨b, es, clock, rfl, rfl, hE, _, _⟩ := hM
 have hb := hw b _ rfl
 obtain ⟨j, hf⟩ := findF hK (k := k) w hE
 have hc := hK.check es.isEmpty k w
 have hg : (getObj b).run P w = .ok (.map es clock) w := by simp [getObj, Sem.run, hb]
 subst hzu
 have : (Instr.lookup t (.map (some b)) (ek k) false).run P w = .ok (eu ((look m k).getD zu)) w := by
  simp only [Instr.lookup, Sem.run_bind, run_underlying ht, Result.andThen_ok, hg, Sem.run_pure, hc, hf]
  cases look m k with
  | none => simp [hz]
  | some r => simp
 simp [Run, execOp, hx, hy, this]
theorem OpsL.mapInsertF [DecidableEq κ] {t kt et : TypeId} {x y z : Operand} {m : List (κ × υ)} {o : List (Nat × Obj)} {v : Value} {k : κ} {u : υ} {i : Nat} (st : St h0 w0 h w own) (hM : OM ek eu m o v) (hi : own[i]? = some o) (hn : (m.map (·.1)).Nodup) (hK : KeyF P kt ek) (ht : P.underlying t = some (.map kt et))
  (hl : look m k = none) (hx : ev σ x = v) (hy : ev σ y = ek k) (hz : ev σ z = eu u)
  (hk : ∀ o' w' own', own' = own.set i o' → OM ek eu (putM m k u) o' v → ((putM m k u).map (·.1)).Nodup → St h0 w0 h w' own' → OpsL P n ops rest K σ w') :
  OpsL P n ops (⟨none, .mapUpdate t x y z, ty, pos, aft, none⟩ :: rest) K σ w := by
 obtain ⟨b, es, clock, rfl, rfl, hE, hB, hD⟩ := hM
 have hb := st.get hi
 have hg : (getObj b).run P w = .ok (.map es clock) w := by simp [getObj, Sem.run, hb]
 have hset : ∀ es' c', (setObj b (.map es' c')).run P w = .ok () { w with heap := w.heap.setIfInBounds b (.map es' c') } := by
  intro es' c'
  simp [setObj, Sem.run, hb]
 have hc := hK.check false k w
 obtain ⟨j, hf⟩ := findF hK (k := k) w hE
 rw [hl] at hf
 have hp : putM m k u = m ++ [(k, u)] := by simp [putM, hl]
 refine OpsL.eff rfl rfl (w' := { w with heap := w.heap.setIfInBounds b (.map (es.push { key := ek k, val := eu u, born := clock }) (clock + 1)) }) ?_ (hk _ _ _ rfl ⟨b, es.push { key := ek k, val := eu u, born := clock }, clock + 1, rfl, rfl, ?_, ?_, ?_⟩ ?_ (st.set _ hi))
 ·simp only [execOp, hx, hy, hz, Instr.mapUpdate, Sem.run_bind, run_underlying ht, Result.andThen_ok, hg, hc, hf, Option.map_none, hset, Sem.run_pure]
 ·rw [hp, Array.toList_push]; exact hE.snoc rfl rfl
 ·intro e he
  rw [Array.toList_push, List.mem_append] at he
  rcases he with he | he
  ·exact Nat.lt_succ_of_lt (hB e he)
  ·simp at he; subst he; exact Nat.lt_succ_self _
 ·rw [Array.toList_push, List.map_append, List.nodup_append]
  refine ⟨hD, by simp, fun a ha c hc' => ?_⟩
  simp at hc'
  subst hc'
  obtain ⟨e, he, rfl⟩ := List.mem_map.1 ha
  exact Nat.ne_of_lt (hB e he)
 ·rw [hp, List.map_append, List.nodup_append]
  refine ⟨hn, by simp, fun a ha c hc' => ?_⟩
  simp at hc'
  subst hc'
  rintro rfl
  obtain ⟨p, hp', rfl⟩ := List.mem_map.1 ha
  have : (m.find? fun q => decide (q.1 = p.1)).isSome = true := by
   rw [List.find?_isSome]; exact ⟨p, hp', by simp⟩
  simp only [look, Option.map_eq_none_iff] at hl
  rw [hl] at this; cases this
end
theorem six_key {P : Program} {kt e_ : TypeId} (hu : P.underlying kt = some (.array 6 e_)) (he : P.underlying e_ = some (.int .i64)) (ha : ∀ w, (isAgg e_).run P w = .ok false w) (hz : ∀ w, (sizeOf e_).run P w = .ok 1 w) : KeyF P kt sixV where
 eq := six_equal hu he ha hz
 now := fun a b w => ⟨_, hu, rfl⟩
 check := fun em s w => by
  rcases s with ⟨a, b, c, d, e, f⟩
  rw [show (10000 : Nat) = 9998 + 1 + 1 from rfl, Instr.checkKey]
  have p1 : ∀ (n : Nat) (xs : Array Value) (v : Value), xs[n]? = some v → (part e_ xs n).run P w = .ok v w := by
   intro n xs v h
   simp [part, ha, h]
  have q : ∀ (x : Int), (Instr.checkKey em (9998 + 1) e_ (.int .i64 x)).run P w = .ok () w := by
   intro x
   rw [Instr.checkKey]
   simp [run_underlying he]
  simp only [Sem.run_bind, run_underlying hu, Result.andThen_ok, sixV, hz]
  simp only [Std.Legacy.Range.forIn_eq_forIn_range', Std.Legacy.Range.size, Nat.sub_zero, Nat.add_sub_cancel, Nat.div_one, List.range'_succ, List.range'_zero, List.forIn_cons, List.forIn_nil, Nat.mul_one, Nat.zero_add, Nat.reduceAdd]
  have e0 : ∀ x0 x1 x2 x3 x4 x5 : Value, (part e_ #[x0, x1, x2, x3, x4, x5] 0).run P w = .ok x0 w := fun _ _ _ _ _ _ => p1 _ _ _ rfl
  have e1 : ∀ x0 x1 x2 x3 x4 x5 : Value, (part e_ #[x0, x1, x2, x3, x4, x5] 1).run P w = .ok x1 w := fun _ _ _ _ _ _ => p1 _ _ _ rfl
  have e2 : ∀ x0 x1 x2 x3 x4 x5 : Value, (part e_ #[x0, x1, x2, x3, x4, x5] 2).run P w = .ok x2 w := fun _ _ _ _ _ _ => p1 _ _ _ rfl
  have e3 : ∀ x0 x1 x2 x3 x4 x5 : Value, (part e_ #[x0, x1, x2, x3, x4, x5] 3).run P w = .ok x3 w := fun _ _ _ _ _ _ => p1 _ _ _ rfl
  have e4 : ∀ x0 x1 x2 x3 x4 x5 : Value, (part e_ #[x0, x1, x2, x3, x4, x5] 4).run P w = .ok x4 w := fun _ _ _ _ _ _ => p1 _ _ _ rfl
  have e5 : ∀ x0 x1 x2 x3 x4 x5 : Value, (part e_ #[x0, x1, x2, x3, x4, x5] 5).run P w = .ok x5 w := fun _ _ _ _ _ _ => p1 _ _ _ rfl
  simp [hz, e0, e1, e2, e3, e4, e5, q]
end Go.Pk

namespace Go.Pk
def inB (n lo hi : Int) : Bool := decide (lo ≤ n) && decide (n ≤ hi)
def isL (c : UInt8) : Bool := decide (97 ≤ (c.toNat : Int)) && decide ((c.toNat : Int) ≤ 122)
def zcH (s : Str) (lo : Int) : Bool := s.all isL && inB s.length lo 12
def zdA (s : Str) : Bool := zcH s 1
def zgs (l : List Str) : Bool := inB l.length 1 10 && l.all zdA
def zbJ (c : Chapter) : Bool := inB c.id 0 9999 && inB c.lines.length 1 10 && c.lines.all zgs
def zbm (t : Text) : Bool := inB t.chapters.length 1 6 && t.chapters.all zbJ && decide (t.chapters.map (·.id)).Nodup
def zcT (t : Text) (p : Place) : Option (List Str) :=
 if 0 ≤ p.chapter ∧ 0 ≤ p.line then (t.chapters[p.chapter.toNat]?).bind fun c => c.lines[p.line.toNat]? else none
def zgF (t : Text) (p : Place) : Option Str :=
 if 0 ≤ p.word then (zcT t p).bind fun l => l[p.word.toNat]? else none
def zbE (t : Text) (p : Place) : Bool := (zgF t p).isSome
def zeh (a b : Place) : Bool :=
 if a.chapter ≠ b.chapter then decide (a.chapter < b.chapter) else if a.line ≠ b.line then decide (a.line < b.line) else decide (a.word < b.word)
def zgZ (r : Rule) : Bool := zcH r.cut 1 && zcH r.put 0 && decide (r.cut ≠ r.put) && inB r.least 1 12
def zea (h : Head) : Bool := zdA h.stem && inB h.mark 0 3
def zdE : Place := ⟨0, 0, 0⟩
def zdq : Head := ⟨[], 0⟩
def zcw : Decision := ⟨0, 0, [], zdE, zdq, 0⟩
def zaj (t : Text) (d : Decision) : Bool :=
 inB d.number 1 999 &&
 (if d.kind = 1 then zdA d.form && decide (d.at_ = zdE) && zea d.to && decide (d.of_ = 0)
  else if d.kind = 2 then zdA d.form && zbE t d.at_ && zea d.to && decide (d.of_ = 0)
  else if d.kind = 3 then decide (d.form = []) && zbE t d.at_ && zea d.to && decide (d.of_ = 0)
  else if d.kind = 4 then decide (d.form = []) && decide (d.at_ = zdE) && decide (d.to = zdq) && inB d.of_ 1 (d.number - 1)
  else false)
def zcB (t : Text) (x : Lexicon) : Bool :=
 decide (x.rules.length ≤ 12) && decide (x.decisions.length ≤ 20) && x.rules.all zgZ && x.decisions.all (zaj t) && decide (x.decisions.map (·.number)).Nodup
def zaR (t : Text) (x : Lexicon) : Int := if zbm t = false then 10 else if zcB t x = false then 40 else 0
def made (r : Rule) (w : Str) : Option Str :=
 if r.cut.length ≤ w.length ∧ r.least ≤ ((w.length - r.cut.length : Nat) : Int) ∧ w.drop (w.length - r.cut.length) = r.cut ∧ w.length - r.cut.length + r.put.length ≤ 12 then some (w.take (w.length - r.cut.length) ++ r.put) else none
def zgH (rs : List Rule) (w : Str) : Option Str := rs.findSome? (made · w)
def zdF (rs : List Rule) : Nat → Str → List Str
 | 0, w => [w]
 | n + 1, w => match zgH rs w with
  | none => [w]
  | some s => w :: zdF rs n s
theorem stepsN_some {rs : List Rule} {n m : Nat} {w s : Str} (hn : n = m + 1) (h : zgH rs w = some s) : zdF rs n w = w :: zdF rs m s := by
 subst hn; simp [zdF, h]
theorem stepsN_none {rs : List Rule} {n : Nat} {w : Str} (h : zgH rs w = none) : zdF rs n w = [w] := by
 cases n <;> simp [zdF, h]
theorem zgN {α : Type} {xs : List α} {k : Nat} {y : α} (h : xs[k]? = some y) : xs.drop k = y :: xs.drop (k + 1) := by
 obtain ⟨h1, h2⟩ := List.getElem?_eq_some_iff.1 h
 rw [List.drop_eq_getElem_cons h1, h2]
theorem made_len {r : Rule} {w s : Str} (h : made r w = some s) : s.length ≤ 12 := by
 unfold made at h
 split at h
 ·rename_i h1; cases h; simp; omega
 cases h
theorem zhL {s : Str} (h : zdA s = true) : s.length ≤ 12 := by
 simp only [zdA, zcH, inB, Bool.and_eq_true, decide_eq_true_eq] at h
 omega
def stepsR (t : Text) (x : Lexicon) (w : Str) : List Str := if zaR t x = 0 ∧ zdA w = true then zdF x.rules 4 w else []
def stepsE (t : Text) (x : Lexicon) (w : Str) : Int := if zaR t x ≠ 0 then zaR t x else if zdA w then 0 else 2
def zez (x : Lexicon) : Nat → Decision → Bool
 | 0, _ => true
 | n + 1, d => x.decisions.all fun v => !(decide (v.kind = 4) && decide (v.of_ = d.number) && zez x n v)
def voids (x : Lexicon) (n : Nat) (d v : Decision) : Bool := !(decide (v.kind = 4) && decide (v.of_ = d.number) && zez x (n - 1) v)
theorem standsF_eq {x : Lexicon} {n : Nat} {d : Decision} (hv : ∀ v ∈ x.decisions, v.number ≤ 999 ∧ (v.kind = 4 → v.of_ < v.number)) (hn : 999 < d.number + n) : zez x n d = x.decisions.all (voids x n d) := by
 cases n with
 | succ n => rfl
 | zero =>
  simp only [zez]
  symm
  rw [List.all_eq_true]
  intro v hm
  obtain ⟨h1, h2⟩ := hv v hm
  simp only [voids, Bool.not_eq_true', Bool.and_eq_false_iff, decide_eq_false_iff_not]
  left
  by_cases h : v.kind = 4
  ·right; have := h2 h; omega
  ·left; exact h
def zdr (x : Lexicon) (d : Decision) : Bool := zez x 1000 d
def standP (x : Lexicon) (n : Nat) (d : Decision) : Bool := decide (d.number = (n : Int) + 1) && zez x 1000 d
def standAt (x : Lexicon) (n : Nat) : List Decision := x.decisions.filter (standP x n)
def standingR (x : Lexicon) : List Decision := (List.range 999).flatMap (standAt x)
def standingN (t : Text) (x : Lexicon) : List Int := if zaR t x = 0 then (standingR x).map (·.number) else []
theorem zhU {t : Text} {x : Lexicon} (h : zaR t x = 0) : zbm t = true ∧ zcB t x = true := by
 unfold zaR at h
 split at h
 ·cases h
 rename_i h1
 split at h
 ·cases h
 rename_i h2; exact ⟨by simpa using h1, by simpa using h2⟩
theorem lexicon_dec {t : Text} {x : Lexicon} (h : zaR t x = 0) : ∀ v ∈ x.decisions, zaj t v = true := by
 have h1 := (zhU h).2
 simp only [zcB, Bool.and_eq_true, List.all_eq_true] at h1
 exact h1.1.2
theorem lexicon_v {t : Text} {x : Lexicon} (h : zaR t x = 0) : ∀ v ∈ x.decisions, v.number ≤ 999 ∧ (v.kind = 4 → v.of_ < v.number) := by
 intro v hv
 have h1 := lexicon_dec h v hv
 simp only [zaj, Bool.and_eq_true, inB, decide_eq_true_eq] at h1
 refine ⟨h1.1.2, fun h4 => ?_⟩
 have h2 := h1.2
 rw [h4] at h2
 simp at h2
 omega
theorem lexicon_v1 {t : Text} {x : Lexicon} (h : zaR t x = 0) : ∀ v ∈ x.decisions, 1 ≤ v.number := by
 intro v hv
 have h1 := lexicon_dec h v hv
 simp only [zaj, Bool.and_eq_true, inB, decide_eq_true_eq] at h1
 exact h1.1.1
theorem zhV {t : Text} {x : Lexicon} (h : zaR t x = 0) : x.decisions.length ≤ 20 := by
 have h1 := (zhU h).2
 simp only [zcB, Bool.and_eq_true, decide_eq_true_eq] at h1
 exact h1.1.1.1.2
def zcK (l : List Int) (lo hi : Int) : Bool := l.all fun n => inB n lo hi
theorem inAll_eq (l : List Int) (lo hi : Int) : (!(l.any fun n => decide (n < lo) || decide (hi < n))) = zcK l lo hi := by
 unfold zcK
 rw [List.not_any_eq_all_not]
 congr 1
 funext n
 simp only [inB, Bool.not_or]
 by_cases h1 : n < lo <;> by_cases h2 : hi < n <;> simp [h1, h2] <;> omega
@[simp] theorem inAll_one (n lo hi : Int) : zcK [n] lo hi = inB n lo hi := by simp [zcK]
theorem letters_any (s : Str) : ((s.map fun c => (c.toNat : Int)).any fun b => decide (b < 97) || decide (122 < b)) = !(s.all isL) := by
 rw [List.any_map, List.not_all_eq_any_not]
 congr 1
 funext c
 simp only [Function.comp, isL, Bool.not_and]
 by_cases h1 : (c.toNat : Int) < 97 <;> by_cases h2 : 122 < (c.toNat : Int) <;> simp [h1, h2] <;> omega
theorem wordB_eq (s : Str) : zdA s = (inB s.length 1 12 && !((s.map fun c => (c.toNat : Int)).any fun b => decide (b < 97) || decide (122 < b))) := by
 rw [letters_any, zdA, zcH, Bool.not_not, Bool.and_comm]
theorem place_eq (t : Text) (p : Place) : zbE t p = ((zcT t p).isSome && inB p.word 0 ((((zcT t p).getD []).length : Int) - 1)) := by
 unfold zbE zgF
 cases h : zcT t p with
 | none => simp
 | some l =>
  simp only [Option.bind_some, Option.isSome_some, Option.getD_some, Bool.true_and, inB]
  by_cases h1 : 0 ≤ p.word
  ·rw [if_pos h1]
   by_cases h2 : p.word ≤ (l.length : Int) - 1
   ·rw [List.getElem?_eq_getElem (by omega)]; simp [h1, h2]
   ·rw [List.getElem?_eq_none (by omega)]; simp [h2]
  ·rw [if_neg h1]; simp [h1]
theorem line_none1 {t : Text} {p : Place} (h : ¬ (0 ≤ p.chapter ∧ p.chapter ≤ (t.chapters.length : Int) - 1)) : zcT t p = none := by
 unfold zcT
 split
 ·rename_i h1
  rw [List.getElem?_eq_none (by omega)]; rfl
 rfl
theorem line_none2 {t : Text} {p : Place} {c : Chapter} (hc : t.chapters[p.chapter.toNat]? = some c) (h : ¬ (0 ≤ p.line ∧ p.line ≤ (c.lines.length : Int) - 1)) : zcT t p = none := by
 unfold zcT
 split
 ·rename_i h1
  rw [hc]
  exact List.getElem?_eq_none (by omega)
 rfl
theorem line_some {t : Text} {p : Place} {c : Chapter} {l : List Str} (hc : t.chapters[p.chapter.toNat]? = some c) (h : 0 ≤ p.chapter) (hl : c.lines[p.line.toNat]? = some l) (h2 : 0 ≤ p.line) : zcT t p = some l := by
 unfold zcT
 rw [if_pos ⟨h, h2⟩, hc]; exact hl
section
variable {α : Type} {xs : List α} {k : Nat} {y : α} {p : α → Bool}
theorem zct (h : (xs.take k).all p = true) (hy : xs[k]? = some y) (hp : p y = true) : (xs.take (k + 1)).all p = true := by
 rw [zbf hy, List.all_append, h]; simp [hp]
theorem zcX (h : (xs.take k).all p = true) (hk : xs.length ≤ k) : xs.all p = true := by
 rwa [List.take_of_length_le hk] at h
theorem nodup_take_succ {β : Type} {f : α → β} (h : ((xs.take k).map f).Nodup) (hy : xs[k]? = some y) (hk : k ≤ xs.length) (hd : ∀ j z, j < k → xs[j]? = some z → f z ≠ f y) : ((xs.take (k + 1)).map f).Nodup := by
 rw [zbf hy, List.map_append, List.nodup_append]
 refine ⟨h, by simp, ?_⟩
 intro a ha b hb e
 simp only [List.map_cons, List.map_nil, List.mem_singleton] at hb
 subst hb
 subst e
 obtain ⟨z, hz, e⟩ := List.mem_map.1 ha
 obtain ⟨j, hj⟩ := List.mem_iff_getElem?.1 hz
 rw [List.getElem?_take] at hj
 split at hj
 ·exact hd j z (by assumption) hj e
 cases hj
theorem ziH {β : Type} {f : α → β} {j : Nat} {z : α} (hz : xs[j]? = some z) (hy : xs[k]? = some y) (hj : j < k) (e : f z = f y) : ¬ (xs.map f).Nodup := by
 intro h
 obtain ⟨h1, h2⟩ := List.getElem?_eq_some_iff.1 hz
 obtain ⟨h3, h4⟩ := List.getElem?_eq_some_iff.1 hy
 have h5 := List.pairwise_iff_getElem.1 h j k (by simpa using h1) (by simpa using h3) hj
 simp only [List.getElem_map, h2, h4] at h5
 exact h5 e
theorem zit {β : Type} {f : α → β} (hy : xs[k]? = some y) (h : f y ∈ (xs.take k).map f) : ¬ (xs.map f).Nodup := by
 obtain ⟨z, hz, e⟩ := List.mem_map.1 h
 obtain ⟨j, hj⟩ := List.mem_iff_getElem?.1 hz
 rw [List.getElem?_take] at hj
 split at hj
 ·exact ziH hj hy (by assumption) e
 cases hj
theorem any_not (q : α → Bool) : (xs.any fun x => !q x) = !(xs.all q) := by rw [List.not_all_eq_any_not]
theorem zcG (hy : xs[k]? = some y) (hp : p y = false) : xs.all p = false := by
 rw [List.all_eq_false]
 exact ⟨y, List.mem_of_getElem? hy, by simp [hp]⟩
end
end Go.Pk

namespace Go.Pk
open Go Go.RowKit
theorem zhB {α : Type} {a b : List α} {k : Nat} {x y : α} (h : a.take k = b.take k) (ha : a[k]? = some x) (hb : b[k]? = some y) (e : x = y) : a.take (k + 1) = b.take (k + 1) := by
 subst e
 rw [List.take_add_one, List.take_add_one, h, ha, hb]
theorem ne_of_get {α : Type} {a b : List α} {k : Nat} {x y : α} (ha : a[k]? = some x) (hb : b[k]? = some y) (e : x ≠ y) : a ≠ b := by
 rintro rfl
 rw [ha] at hb; cases hb; exact e rfl
theorem zje {α : Type} {a b : List α} {k : Nat} (h : a.take k = b.take k) (hl : a.length = b.length) (hk : a.length ≤ k) : a = b := by
 rwa [List.take_of_length_le hk, List.take_of_length_le (by omega)] at h
theorem letters_eq (s : Str) (lo : Int) : zcH s lo = (inB s.length lo 12 && !(s.any fun c => decide ((c.toNat : Int) < 97) || decide (122 < (c.toNat : Int)))) := by
 unfold zcH
 rw [Bool.and_comm]
 congr 1
 rw [List.not_any_eq_all_not]
 congr 1
 funext c
 simp only [isL, Bool.not_or]
 congr 1 <;> (rw [← decide_not]; congr 1; simp only [Int.not_lt])
theorem head_eq (h : Head) (h0 : 0 ≤ h.mark) : zea h = (zcH h.stem 1 && decide (h.mark ≤ 3)) := by
 unfold zea zdA inB
 simp [h0]
theorem zga (d : Decision) (k : Int) (f : Str) (a : Place) (t : Head) (o : Int) : (d = Decision.mk d.number k f a t o) ↔ (d.kind = k ∧ d.form = f ∧ d.at_ = a ∧ d.to = t ∧ d.of_ = o) := by
 rcases d with ⟨n, k', f', a', t', o'⟩
 simp
theorem zgz {t : Text} {p : Place} (ht : zbm t = true) : ((if (zbm t && zbE t p) = true then (0 : Int) else if zbm t = true then 12 else 10) = 0) = (zbE t p = true) := by
 cases h : zbE t p <;> simp [ht]
theorem dec1_t {t : Text} {d : Decision} (ht : zbm t = true) (hk : d.kind = 1) (hn : (!zcK [d.number] 1 999) = false) (g : d = Decision.mk d.number d.kind d.form (Place.mk 0 0 0) d.to 0) (e0 : zcH d.form 1 = true) (e1 : zea d.to = true) : true = zaj t d := by
 rw [inAll_one] at hn
 rw [zga] at g
 try rw [zgz ht] at e0
 try rw [zgz ht] at e1
 simp_all [zaj, zdA, zdE, zdq]
theorem dec1_f0 {t : Text} {d : Decision} (ht : zbm t = true) (hk : d.kind = 1) (hn : (!zcK [d.number] 1 999) = false) (g : d = Decision.mk d.number d.kind d.form (Place.mk 0 0 0) d.to 0) (e0 : zcH d.form 1 = false) : false = zaj t d := by
 rw [inAll_one] at hn
 rw [zga] at g
 try rw [zgz ht] at e0
 simp_all [zaj, zdA, zdE, zdq]
theorem dec1_f1 {t : Text} {d : Decision} (ht : zbm t = true) (hk : d.kind = 1) (hn : (!zcK [d.number] 1 999) = false) (g : d = Decision.mk d.number d.kind d.form (Place.mk 0 0 0) d.to 0) (e0 : zcH d.form 1 = true) (e1 : zea d.to = false) : false = zaj t d := by
 rw [inAll_one] at hn
 rw [zga] at g
 try rw [zgz ht] at e0
 try rw [zgz ht] at e1
 simp_all [zaj, zdA, zdE, zdq]
theorem dec1_n {t : Text} {d : Decision} (ht : zbm t = true) (hk : d.kind = 1) (hn : (!zcK [d.number] 1 999) = false) (g : ¬ d = Decision.mk d.number d.kind d.form (Place.mk 0 0 0) d.to 0) : false = zaj t d := by
 rw [inAll_one] at hn
 rw [zga] at g
 symm
 rw [Bool.eq_false_iff]
 intro q
 apply g
 simp [zaj, hk, zdE, zdq, Bool.and_eq_true] at q
 simp_all
theorem dec2_t {t : Text} {d : Decision} (ht : zbm t = true) (hk : d.kind = 2) (hn : (!zcK [d.number] 1 999) = false) (g : d = Decision.mk d.number d.kind d.form d.at_ d.to 0) (e0 : zcH d.form 1 = true) (e1 : ((if (zbm t && zbE t d.at_) = true then (0 : Int) else if zbm t = true then 12 else 10) = 0)) (e2 : zea d.to = true) : true = zaj t d := by
 rw [inAll_one] at hn
 rw [zga] at g
 try rw [zgz ht] at e0
 try rw [zgz ht] at e1
 try rw [zgz ht] at e2
 simp_all [zaj, zdA, zdE, zdq]
theorem dec2_f0 {t : Text} {d : Decision} (ht : zbm t = true) (hk : d.kind = 2) (hn : (!zcK [d.number] 1 999) = false) (g : d = Decision.mk d.number d.kind d.form d.at_ d.to 0) (e0 : zcH d.form 1 = false) : false = zaj t d := by
 rw [inAll_one] at hn
 rw [zga] at g
 try rw [zgz ht] at e0
 simp_all [zaj, zdA, zdE, zdq]
theorem dec2_f1 {t : Text} {d : Decision} (ht : zbm t = true) (hk : d.kind = 2) (hn : (!zcK [d.number] 1 999) = false) (g : d = Decision.mk d.number d.kind d.form d.at_ d.to 0) (e0 : zcH d.form 1 = true) (e1 : ¬ ((if (zbm t && zbE t d.at_) = true then (0 : Int) else if zbm t = true then 12 else 10) = 0)) : false = zaj t d := by
 rw [inAll_one] at hn
 rw [zga] at g
 try rw [zgz ht] at e0
 try rw [zgz ht] at e1
 simp_all [zaj, zdA, zdE, zdq]
theorem dec2_f2 {t : Text} {d : Decision} (ht : zbm t = true) (hk : d.kind = 2) (hn : (!zcK [d.number] 1 999) = false) (g : d = Decision.mk d.number d.kind d.form d.at_ d.to 0) (e0 : zcH d.form 1 = true) (e1 : ((if (zbm t && zbE t d.at_) = true then (0 : Int) else if zbm t = true then 12 else 10) = 0)) (e2 : zea d.to = false) : false = zaj t d := by
 rw [inAll_one] at hn
 rw [zga] at g
 try rw [zgz ht] at e0
 try rw [zgz ht] at e1
 try rw [zgz ht] at e2
 simp_all [zaj, zdA, zdE, zdq]
theorem dec2_n {t : Text} {d : Decision} (ht : zbm t = true) (hk : d.kind = 2) (hn : (!zcK [d.number] 1 999) = false) (g : ¬ d = Decision.mk d.number d.kind d.form d.at_ d.to 0) : false = zaj t d := by
 rw [inAll_one] at hn
 rw [zga] at g
 symm
 rw [Bool.eq_false_iff]
 intro q
 apply g
 simp [zaj, hk, zdE, zdq, Bool.and_eq_true] at q
 simp_all
theorem dec3_t {t : Text} {d : Decision} (ht : zbm t = true) (hk : d.kind = 3) (hn : (!zcK [d.number] 1 999) = false) (g : d = Decision.mk d.number d.kind [] d.at_ d.to 0) (e0 : ((if (zbm t && zbE t d.at_) = true then (0 : Int) else if zbm t = true then 12 else 10) = 0)) (e1 : zea d.to = true) : true = zaj t d := by
 rw [inAll_one] at hn
 rw [zga] at g
 try rw [zgz ht] at e0
 try rw [zgz ht] at e1
 simp_all [zaj, zdA, zdE, zdq]
theorem dec3_f0 {t : Text} {d : Decision} (ht : zbm t = true) (hk : d.kind = 3) (hn : (!zcK [d.number] 1 999) = false) (g : d = Decision.mk d.number d.kind [] d.at_ d.to 0) (e0 : ¬ ((if (zbm t && zbE t d.at_) = true then (0 : Int) else if zbm t = true then 12 else 10) = 0)) : false = zaj t d := by
 rw [inAll_one] at hn
 rw [zga] at g
 try rw [zgz ht] at e0
 simp_all [zaj, zdA, zdE, zdq]
theorem dec3_f1 {t : Text} {d : Decision} (ht : zbm t = true) (hk : d.kind = 3) (hn : (!zcK [d.number] 1 999) = false) (g : d = Decision.mk d.number d.kind [] d.at_ d.to 0) (e0 : ((if (zbm t && zbE t d.at_) = true then (0 : Int) else if zbm t = true then 12 else 10) = 0)) (e1 : zea d.to = false) : false = zaj t d := by
 rw [inAll_one] at hn
 rw [zga] at g
 try rw [zgz ht] at e0
 try rw [zgz ht] at e1
 simp_all [zaj, zdA, zdE, zdq]
theorem dec3_n {t : Text} {d : Decision} (ht : zbm t = true) (hk : d.kind = 3) (hn : (!zcK [d.number] 1 999) = false) (g : ¬ d = Decision.mk d.number d.kind [] d.at_ d.to 0) : false = zaj t d := by
 rw [inAll_one] at hn
 rw [zga] at g
 symm
 rw [Bool.eq_false_iff]
 intro q
 apply g
 simp [zaj, hk, zdE, zdq, Bool.and_eq_true] at q
 simp_all
theorem dec4_t {t : Text} {d : Decision} (ht : zbm t = true) (hk : d.kind = 4) (hn : (!zcK [d.number] 1 999) = false) (g : d = Decision.mk d.number d.kind [] (Place.mk 0 0 0) (Head.mk [] 0) d.of_) : zcK [d.of_] 1 (d.number - 1) = zaj t d := by
 rw [inAll_one] at hn ⊢
 rw [zga] at g
 simp_all [zaj, zdA, zdE, zdq]
theorem dec4_n {t : Text} {d : Decision} (ht : zbm t = true) (hk : d.kind = 4) (hn : (!zcK [d.number] 1 999) = false) (g : ¬ d = Decision.mk d.number d.kind [] (Place.mk 0 0 0) (Head.mk [] 0) d.of_) : false = zaj t d := by
 rw [inAll_one] at hn
 rw [zga] at g
 symm
 rw [Bool.eq_false_iff]
 intro q
 apply g
 simp [zaj, hk, zdE, zdq, Bool.and_eq_true] at q
 have q1 := of_decide_eq_true q.2.1.1.2
 have q2 := of_decide_eq_true q.2.1.2
 have q3 := q.2.1.1.1
 simp_all
theorem line_le {h : Heap} {v : Value} {t : Text} (f : Sl LChapter h v t.chapters) (p : Place) : ((zcT t p).getD []).length ≤ 281474976710656 := by
 cases e : zcT t p with
 | none => simp
 | some l =>
  unfold zcT at e
  split at e
  ·cases e2 : t.chapters[p.chapter.toNat]? with
   | none => rw [e2] at e; cases e
   | some c =>
    rw [e2, Option.bind_some] at e
    obtain ⟨_, _, _, _, _, hr⟩ := Sl.elem f e2
    obtain ⟨v1, rfl, f1⟩ := hr
    obtain ⟨_, _, _, _, _, hr2⟩ := Sl.elem f1 e
    obtain ⟨v2, rfl, f2⟩ := hr2
    exact f2.le
  ·cases e
theorem word_some {t : Text} {p : Place} {wd : Str} (hp : zbE t p = true) (hw : ((zcT t p).getD [])[p.word.toNat]? = some wd) : zgF t p = some wd := by
 unfold zbE zgF at hp
 unfold zgF
 split at hp
 ·rename_i h1
  rw [if_pos h1]
  cases e : zcT t p with
  | none => rw [e] at hw; cases hw
  | some l => rw [e] at hw; exact hw
 cases hp
theorem word_none {t : Text} {p : Place} (hp : zbE t p = false) : zgF t p = none := by
 unfold zbE at hp
 cases e : zgF t p with
 | none => rfl
 | some l => rw [e] at hp; cases hp
def Box {α : Type} (L : Lay α) (h : Heap) (c : Bool) (x : α) (v : Value) : Prop := bif c then ∃ b vs, v = .pointer (some ⟨b, 0, none⟩) ∧ Cells h b 0 vs ∧ L.R h vs x else v = .pointer none
theorem Box.nil {α : Type} {L : Lay α} {h : Heap} {c : Bool} {x : α} (e : c = false) : Box L h c x (.pointer none) := by subst e; rfl
theorem Box.some {α : Type} {L : Lay α} {h : Heap} {c : Bool} {x : α} {b : Nat} {vs : List Value} (e : c = true) (hc : Cells h b 0 vs) (hr : L.R h vs x) : Box L h c x (.pointer (some ⟨b, 0, none⟩)) := by subst e; exact ⟨b, vs, rfl, hc, hr⟩
def decP (t : Text) (ds : List Decision) (k : Nat) : Bool := match ds[k]? with | some d => !(decide (d.number ∈ (ds.take k).map (·.number))) && zaj t d | none => true
theorem decP_some {t : Text} {ds : List Decision} {k : Nat} {d : Decision} (h : ds[k]? = some d) : decP t ds k = (!(decide (d.number ∈ (ds.take k).map (·.number))) && zaj t d) := by simp [decP, h]
theorem nodup_upto {α β : Type} {xs : List α} {f : α → β} (h : ∀ j y, xs[j]? = some y → f y ∉ (xs.take j).map f) : ∀ n, n ≤ xs.length → ((xs.take n).map f).Nodup
 | 0, _ => by simp
 | n + 1, hn => by
  have hy : xs[n]? = some xs[n] := List.getElem?_eq_getElem (by omega)
  rw [zbf hy, List.map_append, List.nodup_append]
  refine ⟨nodup_upto h n (by omega), by simp, ?_⟩
  intro a ha b hb e
  simp only [List.map_cons, List.map_nil, List.mem_singleton] at hb
  subst hb; subst e
  exact h n _ hy ha
theorem decisions_iff {t : Text} {ds : List Decision} {b : Bool} (h : b = true ↔ ∀ j, j < ds.length → decP t ds j = true) : b = (ds.all (zaj t) && decide (ds.map (·.number)).Nodup) := by
 rw [Bool.eq_iff_iff, h, Bool.and_eq_true, decide_eq_true_eq, List.all_eq_true]
 constructor
 ·intro hall
  have h1 : ∀ j y, ds[j]? = some y → y.number ∉ (ds.take j).map (·.number) ∧ zaj t y = true := by
   intro j y hy
   have := hall j (List.getElem?_eq_some_iff.1 hy).1
   rw [decP_some hy] at this
   simpa using this
  refine ⟨fun y hy => ?_, ?_⟩
  ·obtain ⟨j, hj⟩ := List.mem_iff_getElem?.1 hy
   exact (h1 j y hj).2
  ·have := nodup_upto (f := (·.number)) (fun j y hy => (h1 j y hy).1) ds.length (Nat.le_refl _)
   rwa [List.take_length] at this
 rintro ⟨h1, h2⟩ j hj
 have hy : ds[j]? = some ds[j] := List.getElem?_eq_getElem hj
 rw [decP_some hy, h1 _ (List.getElem_mem hj)]
 simp only [Bool.and_true, Bool.not_eq_true', decide_eq_false_iff_not]
 intro hm
 exact zit (f := (·.number)) hy hm h2
end Go.Pk

namespace Go.Pk
open Go Go.RowKit
theorem sub_flat {α : Type} {a b : List (List α)} (h : a.Sublist b) : a.flatten.Sublist b.flatten := by
 induction h with
 | slnil => exact List.Sublist.refl _
 | cons c _ ih => rw [List.flatten_cons]; exact ih.trans (List.sublist_append_right _ _)
 | cons_cons c _ ih => rw [List.flatten_cons, List.flatten_cons]; exact (List.Sublist.refl _).append ih
theorem St.sublist {h0 h : Heap} {w0 w : World} {own own' : Own} (st : St h0 w0 h w own) (hs : own'.Sublist own) : St h0 w0 h w own' := by
 have hsub : own'.flatten.Sublist own.flatten := sub_flat hs
 exact ⟨st.le, st.new, st.sub, st.below, fun p hp => st.mine p (hsub.subset hp), (hsub.map _).nodup st.nodup⟩
theorem heapOf_le {h : Heap} {w : World} (hs : Sub h w) : Le h (zeR w) := fun b o hb => hs b o hb
theorem Rets.thaw {P : Program} {f : FuncId} {args : Array Value} {h : Heap} {w : World} {v : Value} (hs : Sub h w) (hc : Calls P f args w (Rets (zeR w) w fun _ _ r => r = v)) : Calls P f args w (Rets h w fun _ _ r => r = v) := by
 refine hc.mono ?_
 rintro e w' ⟨h', r, rfl, s, rfl⟩
 exact ⟨h, _, rfl, St.thaw s hs, rfl⟩
section
variable {α : Type} {L : Lay α} {T : TypeId} {h : Heap} {v : Value} {xs : List α} {o : List (Nat × Obj)}
theorem OSl.cap {p : Option Addr} {n c : Nat} (e : OSl L T h v xs o) (hv : v = .slice p n c) : n = xs.length ∧ xs.length ≤ c := by
 have h1 := e.caps _ _ _ hv
 have h2 := e.len _ _ _ hv
 exact ⟨h2, h2 ▸ h1⟩
end
section
variable {P : Program} {n : Nat} {ops : Array Oper} {rest : List Oper} {K : Env → World → Prop} {σ : Env} {w w0 : World} {h0 h : Heap} {own : Own} {ty : TypeId} {pos : String} {aft : Array Edge}
end
theorem Box.up {α : Type} {L : Lay α} {h h' : Heap} {c : Bool} {x : α} {v : Value} (f : Box L h c x v) (hl : Le h h') : Box L h' c x v := by
 cases c with
 | false => exact f
 | true => obtain ⟨b, vs, e, hc, hr⟩ := f; exact ⟨b, vs, e, hc.up hl, L.up hr hl⟩
end Go.Pk

namespace Go.Pk
open Go Go.RowKit
theorem St.move {h0 h : Heap} {w0 w : World} {own : Own} (st : St h0 w0 h w own) {k j : Nat} {x y : List (Nat × Obj)} (hk : own[k]? = some x) (hj : own[j]? = some y) (hn : k < j) : St h0 w0 h w ((own.set k y).set j []) := by
 have d := st.drop k
 obtain ⟨k1, _⟩ := List.getElem?_eq_some_iff.1 hk
 obtain ⟨j1, j2⟩ := List.getElem?_eq_some_iff.1 hj
 have hp := @List.set_set_perm _ (own.set k []) k j (by simpa using k1) (by simpa using j1)
 have e1 : (own.set k [])[j]'(by simpa using j1) = y := by rw [List.getElem_set_ne (by omega)]; exact j2
 have e2 : (own.set k [])[k]'(by simpa using k1) = [] := by rw [List.getElem_set_self]
 rw [e1, e2, List.set_set] at hp
 exact d.perm hp.symm
theorem St.thawO {h h' : Heap} {w w' : World} {own : Own} (s : St (zeR w) w h' w' own) (hs : Sub h w) : St h w h w' own :=
 ⟨Le.refl h, fun _ _ => rfl, fun b o hb => s.sub b o (s.le b o (hs b o hb)), s.below, fun p hp => by
  obtain ⟨h1, _, h3⟩ := s.mine p hp
  refine ⟨h1, ?_, h3⟩
  cases e : h p.1 with
  | none => rfl
  | some o => exact absurd (zcA (hs p.1 o e)) (by omega), s.nodup⟩
theorem OSl.heap {α : Type} {L : Lay α} {T : TypeId} {h : Heap} {v : Value} {xs : List α} {o : List (Nat × Obj)} (hL : ∀ h1 h2 vs x, L.R h1 vs x → L.R h2 vs x) (e : OSl L T h v xs o) (h' : Heap) : OSl L T h' v xs o := by
 obtain ⟨cs, e1, e2⟩ := e
 exact ⟨cs, ⟨e1.1, fun i x hi => hL _ _ _ _ (e1.2 i x hi)⟩, e2⟩
theorem St.to {h0 h : Heap} {w0 w : World} {own own' : Own} (st : St h0 w0 h w own) (e : own = own') : St h0 w0 h w own' := e ▸ st
end Go.Pk

namespace Go.Pk
open Go Go.RowKit
theorem reads_Place {P : Program} {W : World} {t : TypeId} {fs : Array Field} (hu : P.underlying t = some (.struct fs)) (hc : P.cellsOf t = 3) {f0 : Field} (h0 : fs[0]? = some f0) (o0 : f0.offset = 0) (n0 : P.cellsOf f0.type = 1) (r0 : Reads P W f0.type LInt) {f1 : Field} (h1 : fs[1]? = some f1) (o1 : f1.offset = 1) (n1 : P.cellsOf f1.type = 1) (r1 : Reads P W f1.type LInt) {f2 : Field} (h2 : fs[2]? = some f2) (o2 : f2.offset = 2) (n2 : P.cellsOf f2.type = 1) (r2 : Reads P W f2.type LInt) : Reads P W t LPlace := by
 intro H enc sp held fuel cs d ps h hw
 obtain ⟨hl, hf⟩ := zds hu hc h hw
 match cs, hl with
 | [c0, c1, c2], _ =>
 obtain ⟨x0, e0⟩ := hf 0 f0 h0 r0
 rw [o0, n0] at e0
 simp only [List.drop_succ_cons, List.drop_zero, List.take_succ_cons, List.take_zero] at e0
 cases (show [c0] = [_] from e0)
 obtain ⟨x1, e1⟩ := hf 1 f1 h1 r1
 rw [o1, n1] at e1
 simp only [List.drop_succ_cons, List.drop_zero, List.take_succ_cons, List.take_zero] at e1
 cases (show [c1] = [_] from e1)
 obtain ⟨x2, e2⟩ := hf 2 f2 h2 r2
 rw [o2, n2] at e2
 simp only [List.drop_succ_cons, List.drop_zero, List.take_succ_cons, List.take_zero] at e2
 cases (show [c2] = [_] from e2)
 exact ⟨⟨x0, x1, x2⟩, rfl⟩
theorem reads_Chapter {P : Program} {W : World} {t : TypeId} {fs : Array Field} (hu : P.underlying t = some (.struct fs)) (hc : P.cellsOf t = 2) {f0 : Field} (h0 : fs[0]? = some f0) (o0 : f0.offset = 0) (n0 : P.cellsOf f0.type = 1) (r0 : Reads P W f0.type LInt) {f1 : Field} (h1 : fs[1]? = some f1) (o1 : f1.offset = 1) (n1 : P.cellsOf f1.type = 1) (r1 : Reads P W f1.type (LSl (LSl LStr))) : Reads P W t LChapter := by
 intro H enc sp held fuel cs d ps h hw
 obtain ⟨hl, hf⟩ := zds hu hc h hw
 match cs, hl with
 | [c0, c1], _ =>
 obtain ⟨x0, e0⟩ := hf 0 f0 h0 r0
 rw [o0, n0] at e0
 simp only [List.drop_succ_cons, List.drop_zero, List.take_succ_cons, List.take_zero] at e0
 cases (show [c0] = [_] from e0)
 obtain ⟨x1, e1⟩ := hf 1 f1 h1 r1
 rw [o1, n1] at e1
 simp only [List.drop_succ_cons, List.drop_zero, List.take_succ_cons, List.take_zero] at e1
 obtain ⟨v1, q1, g1⟩ := e1
 cases q1
 exact ⟨⟨x0, x1⟩, ⟨_, rfl, g1⟩⟩
theorem reads_Text {P : Program} {W : World} {t : TypeId} {fs : Array Field} (hu : P.underlying t = some (.struct fs)) (hc : P.cellsOf t = 1) {f0 : Field} (h0 : fs[0]? = some f0) (o0 : f0.offset = 0) (n0 : P.cellsOf f0.type = 1) (r0 : Reads P W f0.type (LSl LChapter)) : Reads P W t LText := by
 intro H enc sp held fuel cs d ps h hw
 obtain ⟨hl, hf⟩ := zds hu hc h hw
 match cs, hl with
 | [c0], _ =>
 obtain ⟨x0, e0⟩ := hf 0 f0 h0 r0
 rw [o0, n0] at e0
 simp only [List.drop_succ_cons, List.drop_zero, List.take_succ_cons, List.take_zero] at e0
 obtain ⟨v0, q0, g0⟩ := e0
 cases q0
 exact ⟨⟨x0⟩, ⟨_, rfl, g0⟩⟩
theorem reads_Head {P : Program} {W : World} {t : TypeId} {fs : Array Field} (hu : P.underlying t = some (.struct fs)) (hc : P.cellsOf t = 2) {f0 : Field} (h0 : fs[0]? = some f0) (o0 : f0.offset = 0) (n0 : P.cellsOf f0.type = 1) (r0 : Reads P W f0.type LStr) {f1 : Field} (h1 : fs[1]? = some f1) (o1 : f1.offset = 1) (n1 : P.cellsOf f1.type = 1) (r1 : Reads P W f1.type LU8) : Reads P W t LHead := by
 intro H enc sp held fuel cs d ps h hw
 obtain ⟨hl, hf⟩ := zds hu hc h hw
 match cs, hl with
 | [c0, c1], _ =>
 obtain ⟨x0, e0⟩ := hf 0 f0 h0 r0
 rw [o0, n0] at e0
 simp only [List.drop_succ_cons, List.drop_zero, List.take_succ_cons, List.take_zero] at e0
 obtain ⟨q0, g0⟩ := e0
 cases q0
 obtain ⟨x1, e1⟩ := hf 1 f1 h1 r1
 rw [o1, n1] at e1
 simp only [List.drop_succ_cons, List.drop_zero, List.take_succ_cons, List.take_zero] at e1
 obtain ⟨q1, g1⟩ := e1
 cases q1
 exact ⟨⟨x0, x1⟩, ⟨rfl, g0, g1⟩⟩
theorem reads_Rule {P : Program} {W : World} {t : TypeId} {fs : Array Field} (hu : P.underlying t = some (.struct fs)) (hc : P.cellsOf t = 3) {f0 : Field} (h0 : fs[0]? = some f0) (o0 : f0.offset = 0) (n0 : P.cellsOf f0.type = 1) (r0 : Reads P W f0.type LStr) {f1 : Field} (h1 : fs[1]? = some f1) (o1 : f1.offset = 1) (n1 : P.cellsOf f1.type = 1) (r1 : Reads P W f1.type LStr) {f2 : Field} (h2 : fs[2]? = some f2) (o2 : f2.offset = 2) (n2 : P.cellsOf f2.type = 1) (r2 : Reads P W f2.type LInt) : Reads P W t LRule := by
 intro H enc sp held fuel cs d ps h hw
 obtain ⟨hl, hf⟩ := zds hu hc h hw
 match cs, hl with
 | [c0, c1, c2], _ =>
 obtain ⟨x0, e0⟩ := hf 0 f0 h0 r0
 rw [o0, n0] at e0
 simp only [List.drop_succ_cons, List.drop_zero, List.take_succ_cons, List.take_zero] at e0
 obtain ⟨q0, g0⟩ := e0
 cases q0
 obtain ⟨x1, e1⟩ := hf 1 f1 h1 r1
 rw [o1, n1] at e1
 simp only [List.drop_succ_cons, List.drop_zero, List.take_succ_cons, List.take_zero] at e1
 obtain ⟨q1, g1⟩ := e1
 cases q1
 obtain ⟨x2, e2⟩ := hf 2 f2 h2 r2
 rw [o2, n2] at e2
 simp only [List.drop_succ_cons, List.drop_zero, List.take_succ_cons, List.take_zero] at e2
 cases (show [c2] = [_] from e2)
 exact ⟨⟨x0, x1, x2⟩, ⟨rfl, g0, g1⟩⟩
theorem reads_Decision {P : Program} {W : World} {t : TypeId} {fs : Array Field} (hu : P.underlying t = some (.struct fs)) (hc : P.cellsOf t = 9) {f0 : Field} (h0 : fs[0]? = some f0) (o0 : f0.offset = 0) (n0 : P.cellsOf f0.type = 1) (r0 : Reads P W f0.type LInt) {f1 : Field} (h1 : fs[1]? = some f1) (o1 : f1.offset = 1) (n1 : P.cellsOf f1.type = 1) (r1 : Reads P W f1.type LU8) {f2 : Field} (h2 : fs[2]? = some f2) (o2 : f2.offset = 2) (n2 : P.cellsOf f2.type = 1) (r2 : Reads P W f2.type LStr) {f3 : Field} (h3 : fs[3]? = some f3) (o3 : f3.offset = 3) (n3 : P.cellsOf f3.type = 3) (r3 : Reads P W f3.type LPlace) {f4 : Field} (h4 : fs[4]? = some f4) (o4 : f4.offset = 6) (n4 : P.cellsOf f4.type = 2) (r4 : Reads P W f4.type LHead) {f5 : Field} (h5 : fs[5]? = some f5) (o5 : f5.offset = 8) (n5 : P.cellsOf f5.type = 1) (r5 : Reads P W f5.type LInt) : Reads P W t LDecision := by
 intro H enc sp held fuel cs d ps h hw
 obtain ⟨hl, hf⟩ := zds hu hc h hw
 match cs, hl with
 | [c0, c1, c2, c3, c4, c5, c6, c7, c8], _ =>
 obtain ⟨x0, e0⟩ := hf 0 f0 h0 r0
 rw [o0, n0] at e0
 simp only [List.drop_succ_cons, List.drop_zero, List.take_succ_cons, List.take_zero] at e0
 cases (show [c0] = [_] from e0)
 obtain ⟨x1, e1⟩ := hf 1 f1 h1 r1
 rw [o1, n1] at e1
 simp only [List.drop_succ_cons, List.drop_zero, List.take_succ_cons, List.take_zero] at e1
 obtain ⟨q1, g1⟩ := e1
 cases q1
 obtain ⟨x2, e2⟩ := hf 2 f2 h2 r2
 rw [o2, n2] at e2
 simp only [List.drop_succ_cons, List.drop_zero, List.take_succ_cons, List.take_zero] at e2
 obtain ⟨q2, g2⟩ := e2
 cases q2
 obtain ⟨x3, e3⟩ := hf 3 f3 h3 r3
 rw [o3, n3] at e3
 simp only [List.drop_succ_cons, List.drop_zero, List.take_succ_cons, List.take_zero] at e3
 have q3 := e3
 cases (show [c3, c4, c5] = _ from q3)
 obtain ⟨x4, e4⟩ := hf 4 f4 h4 r4
 rw [o4, n4] at e4
 simp only [List.drop_succ_cons, List.drop_zero, List.take_succ_cons, List.take_zero] at e4
 obtain ⟨q4, g4_0, g4_1⟩ := e4
 cases (show [c6, c7] = _ from q4)
 obtain ⟨x5, e5⟩ := hf 5 f5 h5 r5
 rw [o5, n5] at e5
 simp only [List.drop_succ_cons, List.drop_zero, List.take_succ_cons, List.take_zero] at e5
 cases (show [c8] = [_] from e5)
 exact ⟨⟨x0, x1, x2, x3, x4, x5⟩, ⟨rfl, g1, g2, g4_0, g4_1⟩⟩
theorem reads_Lexicon {P : Program} {W : World} {t : TypeId} {fs : Array Field} (hu : P.underlying t = some (.struct fs)) (hc : P.cellsOf t = 2) {f0 : Field} (h0 : fs[0]? = some f0) (o0 : f0.offset = 0) (n0 : P.cellsOf f0.type = 1) (r0 : Reads P W f0.type (LSl LRule)) {f1 : Field} (h1 : fs[1]? = some f1) (o1 : f1.offset = 1) (n1 : P.cellsOf f1.type = 1) (r1 : Reads P W f1.type (LSl LDecision)) : Reads P W t LLexicon := by
 intro H enc sp held fuel cs d ps h hw
 obtain ⟨hl, hf⟩ := zds hu hc h hw
 match cs, hl with
 | [c0, c1], _ =>
 obtain ⟨x0, e0⟩ := hf 0 f0 h0 r0
 rw [o0, n0] at e0
 simp only [List.drop_succ_cons, List.drop_zero, List.take_succ_cons, List.take_zero] at e0
 obtain ⟨v0, q0, g0⟩ := e0
 cases q0
 obtain ⟨x1, e1⟩ := hf 1 f1 h1 r1
 rw [o1, n1] at e1
 simp only [List.drop_succ_cons, List.drop_zero, List.take_succ_cons, List.take_zero] at e1
 obtain ⟨v1, q1, g1⟩ := e1
 cases q1
 exact ⟨⟨x0, x1⟩, ⟨_, _, rfl, g0, g1⟩⟩
theorem reads_Question {P : Program} {W : World} {t : TypeId} {fs : Array Field} (hu : P.underlying t = some (.struct fs)) (hc : P.cellsOf t = 4) {f0 : Field} (h0 : fs[0]? = some f0) (o0 : f0.offset = 0) (n0 : P.cellsOf f0.type = 3) (r0 : Reads P W f0.type LPlace) {f1 : Field} (h1 : fs[1]? = some f1) (o1 : f1.offset = 3) (n1 : P.cellsOf f1.type = 1) (r1 : Reads P W f1.type (LSl LHead)) : Reads P W t LQuestion := by
 intro H enc sp held fuel cs d ps h hw
 obtain ⟨hl, hf⟩ := zds hu hc h hw
 match cs, hl with
 | [c0, c1, c2, c3], _ =>
 obtain ⟨x0, e0⟩ := hf 0 f0 h0 r0
 rw [o0, n0] at e0
 simp only [List.drop_succ_cons, List.drop_zero, List.take_succ_cons, List.take_zero] at e0
 have q0 := e0
 cases (show [c0, c1, c2] = _ from q0)
 obtain ⟨x1, e1⟩ := hf 1 f1 h1 r1
 rw [o1, n1] at e1
 simp only [List.drop_succ_cons, List.drop_zero, List.take_succ_cons, List.take_zero] at e1
 obtain ⟨v1, q1, g1⟩ := e1
 cases q1
 exact ⟨⟨x0, x1⟩, ⟨_, rfl, g1⟩⟩
theorem reads_Voter {P : Program} {W : World} {t : TypeId} {fs : Array Field} (hu : P.underlying t = some (.struct fs)) (hc : P.cellsOf t = 3) {f0 : Field} (h0 : fs[0]? = some f0) (o0 : f0.offset = 0) (n0 : P.cellsOf f0.type = 1) (r0 : Reads P W f0.type LInt) {f1 : Field} (h1 : fs[1]? = some f1) (o1 : f1.offset = 1) (n1 : P.cellsOf f1.type = 1) (r1 : Reads P W f1.type LInt) {f2 : Field} (h2 : fs[2]? = some f2) (o2 : f2.offset = 2) (n2 : P.cellsOf f2.type = 1) (r2 : Reads P W f2.type (LSl LInt)) : Reads P W t LVoter := by
 intro H enc sp held fuel cs d ps h hw
 obtain ⟨hl, hf⟩ := zds hu hc h hw
 match cs, hl with
 | [c0, c1, c2], _ =>
 obtain ⟨x0, e0⟩ := hf 0 f0 h0 r0
 rw [o0, n0] at e0
 simp only [List.drop_succ_cons, List.drop_zero, List.take_succ_cons, List.take_zero] at e0
 cases (show [c0] = [_] from e0)
 obtain ⟨x1, e1⟩ := hf 1 f1 h1 r1
 rw [o1, n1] at e1
 simp only [List.drop_succ_cons, List.drop_zero, List.take_succ_cons, List.take_zero] at e1
 cases (show [c1] = [_] from e1)
 obtain ⟨x2, e2⟩ := hf 2 f2 h2 r2
 rw [o2, n2] at e2
 simp only [List.drop_succ_cons, List.drop_zero, List.take_succ_cons, List.take_zero] at e2
 obtain ⟨v2, q2, g2⟩ := e2
 cases q2
 exact ⟨⟨x0, x1, x2⟩, ⟨_, rfl, g2⟩⟩
theorem reads_Poll {P : Program} {W : World} {t : TypeId} {fs : Array Field} (hu : P.underlying t = some (.struct fs)) (hc : P.cellsOf t = 5) {f0 : Field} (h0 : fs[0]? = some f0) (o0 : f0.offset = 0) (n0 : P.cellsOf f0.type = 1) (r0 : Reads P W f0.type LText) {f1 : Field} (h1 : fs[1]? = some f1) (o1 : f1.offset = 1) (n1 : P.cellsOf f1.type = 2) (r1 : Reads P W f1.type LLexicon) {f2 : Field} (h2 : fs[2]? = some f2) (o2 : f2.offset = 3) (n2 : P.cellsOf f2.type = 1) (r2 : Reads P W f2.type (LSl LQuestion)) {f3 : Field} (h3 : fs[3]? = some f3) (o3 : f3.offset = 4) (n3 : P.cellsOf f3.type = 1) (r3 : Reads P W f3.type (LSl LVoter)) : Reads P W t LPoll := by
 intro H enc sp held fuel cs d ps h hw
 obtain ⟨hl, hf⟩ := zds hu hc h hw
 match cs, hl with
 | [c0, c1, c2, c3, c4], _ =>
 obtain ⟨x0, e0⟩ := hf 0 f0 h0 r0
 rw [o0, n0] at e0
 simp only [List.drop_succ_cons, List.drop_zero, List.take_succ_cons, List.take_zero] at e0
 obtain ⟨w0_0, q0, g0_0⟩ := e0
 cases (show [c0] = _ from q0)
 obtain ⟨x1, e1⟩ := hf 1 f1 h1 r1
 rw [o1, n1] at e1
 simp only [List.drop_succ_cons, List.drop_zero, List.take_succ_cons, List.take_zero] at e1
 obtain ⟨w1_0, w1_1, q1, g1_0, g1_1⟩ := e1
 cases (show [c1, c2] = _ from q1)
 obtain ⟨x2, e2⟩ := hf 2 f2 h2 r2
 rw [o2, n2] at e2
 simp only [List.drop_succ_cons, List.drop_zero, List.take_succ_cons, List.take_zero] at e2
 obtain ⟨v2, q2, g2⟩ := e2
 cases q2
 obtain ⟨x3, e3⟩ := hf 3 f3 h3 r3
 rw [o3, n3] at e3
 simp only [List.drop_succ_cons, List.drop_zero, List.take_succ_cons, List.take_zero] at e3
 obtain ⟨v3, q3, g3⟩ := e3
 cases q3
 exact ⟨⟨x0, x1, x2, x3⟩, ⟨_, _, _, _, _, rfl, g0_0, g1_0, g1_1, g2, g3⟩⟩
end Go.Pk

namespace Go.Pk
open Go Go.RowKit Go.ChangeShapes Go.WideShapes Go.ChangeAt
def LU32 : Lay Int := { size := 1, R := fun _ vs x => vs = [.int .u32 x] ∧ 0 ≤ x ∧ x ≤ 4294967295, up := fun h _ => h, len := by rintro _ _ _ ⟨rfl, _⟩; rfl, one := by rintro _ _ _ ⟨rfl, _⟩ u hu; simp at hu; subst hu; rfl }
section
variable {P : Program} {W : World} {t : TypeId}
theorem reads_u32 (hu : P.underlying t = some (.int .u32)) : Reads P W t LU32 := by
 intro H enc sp held fuel cs d ps h _
 obtain ⟨n, rfl, _, hw⟩ := DataW.trod_int hu h
 simp [Lit.wf, IntKind.min, IntKind.max, IntKind.bits, IntKind.signed] at hw
 exact ⟨n, rfl, by omega⟩
theorem reads_u8arg {H : Type} {enc : TypeId × Value → H} {sp : Nat → Bool} {held : Bool} {r : Reach} {base : Nat} {v : Value} {d : DataW H} {ps : List MemPlace} (hu : P.underlying t = some (.int .u8)) (hok : Value.okWide P W r base t v) (h : DataW.Trod enc P W 0 sp held t v d ps) :
  ∃ n : Int, v = .int .u8 n ∧ 0 ≤ n ∧ n ≤ 255 := by
 obtain ⟨n, rfl, _, _, hw⟩ := open_int hu hok h
 simp [Lit.wf, IntKind.min, IntKind.max, IntKind.bits, IntKind.signed] at hw
 exact ⟨n, rfl, by omega⟩
theorem reads_slarg {α : Type} {L : Lay α} {H : Type} {enc : TypeId × Value → H} {sp : Nat → Bool} {held : Bool} {r : Reach} {base : Nat} {v : Value} {d : DataW H} {ps : List MemPlace} {e : TypeId} (hu : P.underlying t = some (.slice e)) (hr : Reads P W t (LSl L)) (hok : Value.okWide P W r base t v) (h : DataW.Trod enc P W 0 sp held t v d ps) (hw : ∀ n ∈ d.weights P t, n ≤ reachBytes) :
  ∃ xs : List α, Sl L (zeR W) v xs := by
 obtain ⟨fuel, h⟩ := h
 obtain ⟨xs, v', e1, hs⟩ := hr enc sp held fuel _ d ps h hw
 obtain ⟨p, c, hv, _⟩ := id hs
 cases v with
 | agg cs =>
  simp only [Value.okWide, hu, Cell.okWide] at hok
  unfold Cell.ok at hok
  rw [hu] at hok
  exact hok.elim
 | _ =>
  simp only [Value.cells, List.cons.injEq, and_true] at e1
  subst e1
  exact ⟨xs, hs⟩
end
end Go.Pk

namespace Go.Pk
open Go Go.RowKit Go.Proofs Go.Shelf Go.Lib Go.Sort
theorem bel_grow {W w' : World} (b : Bel W.heap.size W w') : ∃ q os', w' = grow (W.drewN q) os' := by
 refine ⟨w'.drawn - W.drawn, w'.heap.extract W.heap.size w'.heap.size, ?_⟩
 obtain ⟨h1, h2, h3, h4, h5, h6⟩ := b
 cases w'; cases W
 simp only at h1 h2 h3 h4 h5 h6
 subst h1; subst h2; subst h3
 simp only [grow, World.drewN, World.mk.injEq, true_and, and_true]
 refine ⟨?_, by omega⟩
 apply Array.ext_getElem?
 intro i
 rw [Array.getElem?_append]
 split
 ·rename_i hi; exact h5 i hi
 rename_i hi
 rw [Array.getElem?_extract]
 split
 ·congr 1; omega
 rw [Array.getElem?_eq_none (by omega)]
theorem Bel.grow {B : Nat} {a w : World} (b : Bel B a w) (hB : B ≤ w.heap.size) (os : Array Obj) : Bel B a (grow w os) :=
 b.trans ⟨rfl, rfl, rfl, by simp [Go.Sort.grow], fun k hk => by simp only [Go.Sort.grow]; rw [Array.getElem?_append_left (by omega)], Nat.le_refl _⟩
theorem St.grow {h0 h : Heap} {w0 w : World} {own : Own} (st : St h0 w0 h w own) (os : Array Obj) : St h0 w0 h (grow w os) own := by
 have e : ∀ b o, w.heap[b]? = some o → (Go.Sort.grow w os).heap[b]? = some o := fun b o hb => by
  simp only [Go.Sort.grow]; rw [Array.getElem?_append_left (zcA hb)]; exact hb
 exact ⟨st.le, st.new, fun b o hb => e b o (st.sub b o hb), st.below.grow st.below.size os, fun p hp => ⟨e _ _ (st.mine p hp).1, (st.mine p hp).2⟩, st.nodup⟩
theorem putRow_own {w : World} {b : Nat} {cur : Array Value} {T : TypeId} {F : Array Value} (hb : w.heap[b]? = some (.cells cur T)) (n : Nat) :
  putRow id (Go.Sort.ahead w n) b 0 F = { w with drawn := w.drawn + n, heap := w.heap.setIfInBounds b (.cells (putCells id 0 F cur) T) } := by
 have hlt := zcA hb
 have hb' : w.heap[b] = .cells cur T := by rw [Array.getElem?_eq_getElem hlt] at hb; simpa using hb
 simp only [putRow, mapBlock, Go.Sort.ahead, World.mk.injEq, and_true, true_and]
 apply Array.ext_getElem?
 intro i
 rw [Array.getElem?_modify, Array.getElem?_setIfInBounds]
 by_cases e : b = i
 ·subst e; simp [hlt, hb', onCells]
 ·simp [e]
theorem putCells_take {F cur : Array Value} (h : F.size ≤ cur.size) : (putCells id 0 F cur).toList.take F.size = F.toList := by
 apply List.ext_getElem?
 intro i
 rw [List.getElem?_take]
 split
 ·rename_i hi
  simp only [putCells, Array.getElem?_toList, Array.getElem?_mapIdx]
  rw [Array.getElem?_eq_getElem (show i < cur.size by omega), Array.getElem?_eq_getElem hi]
  simp [hi]
 rename_i hi
 rw [List.getElem?_eq_none (by simpa using hi)]
theorem flatK_enc {α : Type} [Inhabited α] {L : Lay α} {h : Heap} {enc : α → List Value} (d : Array α) (hk : ∀ x, (enc x).length = L.size) (hR : ∀ x ∈ d.toList, L.R h (enc x) x) : Enc L h (flatK enc L.size d).toList d.toList := by
 refine ⟨by simp, fun i x hi => ?_⟩
 obtain ⟨h1, h2⟩ := List.getElem?_eq_some_iff.1 hi
 have h1' : i < d.size := by simpa using h1
 have e : ((flatK enc L.size d).toList.drop (i * L.size)).take L.size = enc x := by
  apply List.ext_getElem?
  intro j
  rw [List.getElem?_take]
  by_cases hj : j < L.size
  ·rw [if_pos hj, List.getElem?_drop]
   have ht : i * L.size + j < d.size * L.size := by
    have : (i + 1) * L.size ≤ d.size * L.size := Nat.mul_le_mul_right _ h1'
    rw [Nat.add_mul, Nat.one_mul] at this; omega
   have h3 := get_flatK enc L.size d _ ht
   have hd : (i * L.size + j) / L.size = i := by rw [Nat.mul_comm, Nat.mul_add_div (by omega), Nat.div_eq_of_lt hj]; rfl
   have hm : (i * L.size + j) % L.size = j := by rw [Nat.mul_comm, Nat.mul_add_mod, Nat.mod_eq_of_lt hj]
   rw [hd, hm, getElem!_pos d i h1', getElem!_pos (flatK enc L.size d) _ (by simpa using ht)] at h3
   have hx : d[i] = x := by simpa using h2
   rw [hx, getElem!_pos (enc x) j (by rw [hk]; exact hj)] at h3
   rw [List.getElem?_eq_getElem (by simpa using ht), List.getElem?_eq_getElem (by rw [hk]; exact hj)]
   simpa using h3
  ·rw [if_neg hj, List.getElem?_eq_none (by rw [hk]; omega)]
 rw [e]
 exact hR x (List.mem_of_getElem? hi)
theorem enc_flatK {α : Type} [Inhabited α] {L : Lay α} {h : Heap} {enc : α → List Value} (hpos : 0 < L.size) (d : Array α) (hE : ∀ {vs x}, L.R h vs x → vs = enc x) {cs : List Value} (e : Enc L h cs d.toList) {j : Nat} (hj : j < d.size * L.size) : cs[j]? = some (flatK enc L.size d)[j]! := by
 have hi : j / L.size < d.size := Nat.div_lt_of_lt_mul (by rwa [Nat.mul_comm])
 have hr := hE (e.2 (j / L.size) d[j / L.size] (by simp [hi]))
 rw [get_flatK enc L.size d j hj, getElem!_pos d _ hi, ← hr]
 have hlen : cs.length = d.size * L.size := by simpa using e.1
 have hm := Nat.mod_lt j hpos
 have hdm := Nat.div_add_mod j L.size
 rw [Nat.mul_comm] at hdm
 have hl : j % L.size < ((cs.drop (j / L.size * L.size)).take L.size).length := by
  simp only [List.length_take, List.length_drop]; omega
 rw [getElem!_pos ((cs.drop (j / L.size * L.size)).take L.size) (j % L.size) hl]
 simp only [List.getElem_take, List.getElem_drop, hdm]
 rw [List.getElem?_eq_getElem (by omega)]
theorem sortFunc {α : Type} {L : Lay α} {T : TypeId} {P : Program} {ρ : Ren} (LL : SlLaysF0.n6 P ρ) (aE : ∀ w, (isAgg (ρ.t 24)).run P w = .ok true w) (zE : ∀ w, (Go.sizeOf (ρ.t 24)).run P w = .ok L.size w) (hpos : 0 < L.size)
  (enc : α → List Value) (hE : ∀ {h vs x}, L.R h vs x → vs = enc x) (cf : α → α → Int) (hS : SWO (ltOf cf)) {g : Nat} {caps : List Value} {h0 h : Heap} {w0 w : World} {own : Own} {i : Nat} {v : Value} {xs : List α} {o : List (Nat × Obj)}
  (st : St h0 w0 h w own) (hO : OSl L T h v xs o) (hi : own[i]? = some o) (hlen : xs.length < 4611686018427387904) (eg : ∀ a w, (callFunc g a).run P w = .ok (.enter g a) w)
  (hcmp : ∀ x ∈ xs, ∀ y ∈ xs, ∀ w', Sub h w' → Calls P g (.agg (enc x).toArray :: .agg (enc y).toArray :: caps).toArray w' (Rets h w' fun _ _ r => r = .int .i64 (cf x y))) :
  Calls P (ρ.f 6) #[v, .func (.func g) #[] caps.toArray] w fun e w' => e = .returned (.tuple #[]) ∧ ∃ ys o' own', own' = own.set i o' ∧ ys.Perm xs ∧ ys.Pairwise (fun a b => ¬ cf b a < 0) ∧ OSl L T h v ys o' ∧ St h0 w0 h w' own' := by
 by_cases hx : xs = []
 ·subst hx
  obtain ⟨p, c, rfl⟩ := hO.form
  refine (AnyF.slices_SortFunc_none LL p c _ w).mono ?_
  rintro e w' ⟨he, rfl⟩
  refine ⟨he, [], o, _, rfl, List.Perm.refl _, List.Pairwise.nil, hO, ?_⟩
  have e3 : own.set i o = own := by
   apply List.ext_getElem?
   intro j
   rw [List.getElem?_set]
   split
   ·rename_i e4; subst e4
    split
    ·exact hi.symm
    ·rename_i h5; rw [List.getElem?_eq_none (by omega)]
   ·rfl
  rw [e3]; exact st
 obtain ⟨cs, e1, ⟨⟨p, rfl⟩, rfl, rfl⟩ | ⟨b, cap, cur, rfl, rfl, hnc, hcm, hsz, htk⟩⟩ := hO
 ·exact absurd rfl hx
 -- the elements, each with its place in the list
 let β := { x : α // x ∈ xs }
 haveI : Inhabited β := ⟨⟨xs.head hx, List.head_mem hx⟩⟩
 let enc' : β → List Value := fun x => enc x.1
 let cf' : β → β → Int := fun x y => cf x.1 y.1
 let d : Array β := xs.attach.toArray
 have hdl : d.size = xs.length := by show xs.attach.toArray.size = xs.length; rw [List.size_toArray]; exact List.length_attach
 have hmap : d.toList.map (·.1) = xs := by show xs.attach.map (·.1) = xs; exact List.attach_map_subtype_val xs
 have hRx : ∀ x : β, L.R h (enc x.1) x.1 := by
  intro x
  obtain ⟨j, hj⟩ := List.mem_iff_getElem?.1 x.2
  have := e1.2 j x.1 hj
  rwa [hE this] at this
 have hk : ∀ x : β, (enc' x).length = L.size := fun x => L.len (hRx x)
 let L' : Lay β := { size := L.size, R := fun h vs x => L.R h vs x.1, up := fun a b => L.up a b, len := fun a => L.len a, one := fun a => L.one a }
 have hb := st.get hi
 have hcsl : cs.length = xs.length * L.size := e1.1
 have e1' : Enc L' h cs d.toList := ⟨by rw [hcsl, ← hdl]; rfl, fun j x hj => e1.2 j x.1 (by
  have := congrArg (Option.map (·.1)) hj
  rw [← List.getElem?_map, hmap] at this
  simpa using this)⟩
 have hH : HoldsK enc' L.size w b 0 d := by
  intro j hj
  have hj' : j < d.size * L.size := by simpa using hj
  have hcj := enc_flatK (L := L') (enc := enc') hpos d (fun h => hE h) e1' hj'
  have hjc : j < cs.length := by rw [hcsl, ← hdl]; exact hj'
  have hcur : cur[j]? = some (flatK enc' L.size d)[j]! := by
   rw [← htk, List.getElem?_take] at hcj
   split at hcj
   ·simpa using hcj
   ·cases hcj
  refine ⟨?_, ?_⟩
  ·simp only [World.cell?, hb, Option.isSome_none, Bool.false_eq_true, if_false, Nat.zero_add, id]
   exact hcur
  ·simp [World.frozen?, hb]
 have hlt := zcA hb
 have hsubs : ∀ m (os : Array Obj) (dk : Array β), Sub h (sortWorldK enc' L.size w b 0 m dk os) := by
  intro m os dk
  unfold sortWorldK putRowK
  rw [putRow_own hb]
  have := (((st.set (.cells (putCells id 0 (flatK enc' L.size dk) cur) T) hi).same (w' := { w with drawn := w.drawn + m, heap := w.heap.setIfInBounds b (.cells (putCells id 0 (flatK enc' L.size dk) cur) T) }) rfl rfl rfl rfl (Nat.le_add_right _ _)).grow os).sub
  exact this
 have hC : CmpLays P g caps.toArray enc' L.size cf' b 0 d.size w := by
  intro m os dk hdk x y
  have c : Calls P g (#[.agg (enc' x).toArray, .agg (enc' y).toArray] ++ caps.toArray) (sortWorldK enc' L.size w b 0 m dk os) (Rets h (sortWorldK enc' L.size w b 0 m dk os) fun _ _ r => r = .int .i64 (cf x.1 y.1)) := by
   simpa using hcmp x.1 x.2 y.1 y.2 _ (hsubs m os dk)
  refine c.mono ?_
  rintro e w' ⟨h', r, rfl, s, rfl⟩
  exact ⟨rfl, bel_grow s.below⟩
 have hS' : SWO (ltOf cf') := ⟨fun x => hS.irrefl x.1, fun x y z => hS.trans x.1 y.1 z.1, fun x y z => hS.ntrans x.1 y.1 z.1⟩
 have con := AnyQ.slices_SortFunc LL L.size aE zE enc' hk (fun x => L.one (hRx x)) cf' hS' g caps.toArray b 0 cap d w eg hC hH hlt (by rw [hdl]; exact hlen)
 rw [hdl] at con
 refine con.mono ?_
 rintro e w' ⟨he, d', n, os, ⟨p1, p2, p3⟩, hsort, rfl⟩
 have hd' : d'.size = xs.length := by rw [p1, hdl]
 refine ⟨he, d'.toList.map (·.1), [(b, .cells (putCells id 0 (flatK enc' L.size d') cur) T)], _, rfl, ?_, ?_, ?_, ?_⟩
 ·have e3 : d'.extract 0 xs.length = d' := by rw [← hd']; simp
  have e4 : d.extract 0 xs.length = d := by rw [← hdl]; simp
  rw [e3, e4] at p3
  have := p3.map (fun x : β => x.1)
  rwa [hmap] at this
 ·rw [List.pairwise_map, List.pairwise_iff_getElem]
  intro q r hq hr hqr
  have := hsort q r (Nat.zero_le _) hqr (by simpa [hd'] using hr)
  rw [getElem!_pos d' r (by simpa using hr), getElem!_pos d' q (by simpa using hq)] at this
  simp only [ltOf, decide_eq_false_iff_not, cf'] at this
  simpa using this
 ·have hsf : (flatK enc' L.size d').size = xs.length * L.size := by simp [hd']
  have hfc : (flatK enc' L.size d').size ≤ cur.size := by rw [hsf, hsz]; exact Nat.mul_le_mul_right _ hnc
  refine ⟨(flatK enc' L.size d').toList, ?_, .inr ⟨b, cap, _, by simp [hd'], rfl, by simpa [hd'] using hnc, hcm, by simpa [putCells] using hsz, ?_⟩⟩
  ·have := flatK_enc (L := L') (h := h) (enc := enc') d' hk (fun x _ => hRx x)
   refine ⟨by simp [hd'], fun j x hj => ?_⟩
   rw [List.getElem?_map] at hj
   obtain ⟨y, hy, rfl⟩ := Option.map_eq_some_iff.1 hj
   exact this.2 j y hy
  ·have := putCells_take hfc
   rw [hsf] at this
   simpa [hd'] using this
 ·unfold sortWorldK putRowK
  rw [putRow_own hb]
  exact ((st.set (.cells (putCells id 0 (flatK enc' L.size d') cur) T) hi).same (w' := { w with drawn := w.drawn + n, heap := w.heap.setIfInBounds b (.cells (putCells id 0 (flatK enc' L.size d') cur) T) }) rfl rfl rfl rfl (Nat.le_add_right _ _)).grow os
theorem swo_asc {α : Type} (f : α → Int) : SWO (ltOf fun a b => f a - f b) := by
 refine ⟨fun x => ?_, fun x y z h1 h2 => ?_, fun x y z h1 h2 => ?_⟩ <;> simp only [ltOf, decide_eq_true_eq, decide_eq_false_iff_not] at * <;> omega
theorem swo_desc {α : Type} (f : α → Int) : SWO (ltOf fun a b => f b - f a) := by
 refine ⟨fun x => ?_, fun x y z h1 h2 => ?_, fun x y z h1 h2 => ?_⟩ <;> simp only [ltOf, decide_eq_true_eq, decide_eq_false_iff_not] at * <;> omega
theorem OSl.memR {α : Type} {L : Lay α} {T : TypeId} {h : Heap} {v : Value} {xs : List α} {o : List (Nat × Obj)} (hO : OSl L T h v xs o) {x : α} (hx : x ∈ xs) : ∃ vs, L.R h vs x := by
 obtain ⟨cs, e, _⟩ := hO
 obtain ⟨j, hj⟩ := List.mem_iff_getElem?.1 hx
 exact ⟨_, e.2 j x hj⟩
theorem Sl.memR {α : Type} {L : Lay α} {h : Heap} {v : Value} {xs : List α} (hs : Sl L h v xs) {x : α} (hx : x ∈ xs) : ∃ vs, L.R h vs x := by
 obtain ⟨p, c, _, _, rfl | ⟨b, off, _, hh⟩⟩ := hs
 ·cases hx
 obtain ⟨j, hj⟩ := List.mem_iff_getElem?.1 hx
 obtain ⟨vs, _, hr⟩ := hh j x hj
 exact ⟨vs, hr⟩
theorem putRow_own1 {α : Type} [Inhabited α] {enc : α → Value} {w : World} {b : Nat} {cur : Array Value} {T : TypeId} {F : Array α} (hb : w.heap[b]? = some (.cells cur T)) (n : Nat) :
  putRow enc (Go.Sort.ahead w n) b 0 F = { w with drawn := w.drawn + n, heap := w.heap.setIfInBounds b (.cells (putCells enc 0 F cur) T) } := by
 have hlt := zcA hb
 have hb' : w.heap[b] = .cells cur T := by rw [Array.getElem?_eq_getElem hlt] at hb; simpa using hb
 simp only [putRow, mapBlock, Go.Sort.ahead, World.mk.injEq, and_true, true_and]
 apply Array.ext_getElem?
 intro i
 rw [Array.getElem?_modify, Array.getElem?_setIfInBounds]
 by_cases e : b = i
 ·subst e; simp [hlt, hb', onCells]
 ·simp [e]
theorem putCells_take1 {α : Type} [Inhabited α] {enc : α → Value} {F : Array α} {cur : Array Value} (h : F.size ≤ cur.size) : (putCells enc 0 F cur).toList.take F.size = F.toList.map enc := by
 apply List.ext_getElem?
 intro i
 rw [List.getElem?_take, List.getElem?_map]
 split
 ·rename_i hi
  simp only [putCells, Array.getElem?_toList, Array.getElem?_mapIdx]
  rw [Array.getElem?_eq_getElem (show i < cur.size by omega), Array.getElem?_eq_getElem hi]
  simp [hi]
 rename_i hi
 rw [List.getElem?_eq_none (by simpa using hi)]; rfl
theorem sort1 {α : Type} [Inhabited α] {L : Lay α} {T : TypeId} {P : Program} {f : FuncId} (enc : α → Value) (hE : ∀ {h vs x}, L.R h vs x → vs = [enc x]) (hz : L.size = 1) (srt : List α → List α) (hp : ∀ l, (srt l).Perm l)
  (hc : ∀ blk off cap (zs : List α) w, Holds enc w blk off zs.toArray → blk < w.heap.size → zs.length < 4611686018427387904 → Calls P f #[.slice (some ⟨blk, off, none⟩) zs.length cap] w fun e w' => e = .returned (.tuple #[]) ∧ ∃ n os, w' = Go.Sort.grow (putRow enc (Go.Sort.ahead w n) blk off (srt zs).toArray) os)
  (hn : ∀ p cap w, Calls P f #[.slice p 0 cap] w fun e w' => e = .returned (.tuple #[]) ∧ w' = w)
  {h0 h : Heap} {w0 w : World} {own : Own} {i : Nat} {v : Value} {xs : List α} {o : List (Nat × Obj)} (st : St h0 w0 h w own) (hO : OSl L T h v xs o) (hi : own[i]? = some o) (hlen : xs.length < 4611686018427387904) :
  Calls P f #[v] w fun e w' => e = .returned (.tuple #[]) ∧ ∃ o' own', own' = own.set i o' ∧ OSl L T h v (srt xs) o' ∧ St h0 w0 h w' own' := by
 obtain ⟨cs, e1, ⟨⟨p, rfl⟩, rfl, rfl⟩ | ⟨b, cap, cur, rfl, rfl, hnc, hcm, hsz, htk⟩⟩ := hO
 ·refine (hn p 0 w).mono ?_
  rintro e w' ⟨he, rfl⟩
  have e0 : srt [] = [] := (hp []).eq_nil
  rw [e0]
  exact ⟨he, [], _, rfl, OSl.nil0 L T h ⟨p, rfl⟩, st.drop i⟩
 have hb := st.get hi
 have hlt := zcA hb
 have hcs : cs = xs.map enc := by
  apply List.ext_getElem?
  intro j
  rw [List.getElem?_map]
  by_cases hj : j < xs.length
  ·have hr := hE (e1.2 j xs[j] (List.getElem?_eq_getElem hj))
   rw [hz, Nat.mul_one] at hr
   have hjc : j < cs.length := by rw [e1.1, hz]; omega
   rw [List.getElem?_eq_getElem hj, List.getElem?_eq_getElem hjc]
   have h1 := congrArg (·[0]?) hr
   simp only [List.getElem?_take, List.getElem?_drop, List.getElem?_cons_zero] at h1
   simp only [Nat.zero_lt_one, if_true, Nat.add_zero] at h1
   rw [List.getElem?_eq_getElem hjc] at h1
   simpa using h1
  ·rw [List.getElem?_eq_none (by rw [e1.1, hz]; omega), List.getElem?_eq_none (by omega)]; rfl
 have hH : Holds enc w b 0 xs.toArray := by
  intro j hj
  have hj' : j < xs.length := by simpa using hj
  have h2 : cs[j]? = some (enc xs[j]) := by rw [hcs, List.getElem?_map, List.getElem?_eq_getElem hj']; rfl
  have hcur : cur[j]? = some (enc xs[j]) := by
   rw [← htk, List.getElem?_take] at h2
   split at h2
   ·simpa using h2
   ·cases h2
  refine ⟨?_, by simp [World.frozen?, hb]⟩
  simp only [World.cell?, hb, Option.isSome_none, Bool.false_eq_true, if_false, Nat.zero_add]
  rw [hcur, getElem!_pos xs.toArray j (by simpa using hj')]
  simp
 refine (hc b 0 cap xs w hH hlt hlen).mono ?_
 rintro e w' ⟨he, n, os, rfl⟩
 have hl : (srt xs).length = xs.length := (hp xs).length_eq
 refine ⟨he, [(b, .cells (putCells enc 0 (srt xs).toArray cur) T)], _, rfl, ?_, ?_⟩
 ·have hfc : (srt xs).toArray.size ≤ cur.size := by rw [List.size_toArray, hl, hsz, hz]; omega
  refine ⟨(srt xs).map enc, ⟨by simp [hz], fun j x hj => ?_⟩, .inr ⟨b, cap, _, by rw [hl], rfl, by omega, hcm, by simpa [putCells] using hsz, ?_⟩⟩
  ·have hm : x ∈ xs := (hp xs).mem_iff.1 (List.mem_of_getElem? hj)
   obtain ⟨q, hq⟩ := List.mem_iff_getElem?.1 hm
   have hr := e1.2 q x hq
   rw [hE hr] at hr
   obtain ⟨h1, h2⟩ := List.getElem?_eq_some_iff.1 hj
   have e3 : (((srt xs).map enc).drop (j * L.size)).take L.size = [enc x] := by
    rw [hz, Nat.mul_one, List.drop_eq_getElem_cons (by simpa using h1)]
    simp [h2]
   rw [e3]; exact hr
  ·have := putCells_take1 (enc := enc) hfc
   rw [hz, Nat.mul_one]
   simpa using this
 ·rw [putRow_own1 hb]
  exact ((st.set (.cells (putCells enc 0 (srt xs).toArray cur) T) hi).same (w' := { w with drawn := w.drawn + n, heap := w.heap.setIfInBounds b (.cells (putCells enc 0 (srt xs).toArray cur) T) }) rfl rfl rfl rfl (Nat.le_add_right _ _)).grow os
end Go.Pk

namespace Go.Pk
open Go Go.RowKit
def zdb (x : Lexicon) : List Decision := x.decisions.mergeSort fun a b => decide (b.number ≤ a.number)
def zfE (d : Decision) : Int × Decision := (d.number, d)
def zeP (x : Lexicon) : List (Int × Decision) := ((zdb x).filter (zdr x)).map zfE
def OkD (x : Lexicon) : Prop := (x.decisions.map (·.number)).Nodup ∧ ∀ v ∈ x.decisions, 1 ≤ v.number ∧ v.number ≤ 999 ∧ (v.kind = 4 → v.of_ < v.number)
theorem zdH (x : Lexicon) : (zdb x).Perm x.decisions := List.mergeSort_perm _ _
theorem downD_sorted (x : Lexicon) : (zdb x).Pairwise fun a b => b.number ≤ a.number := by
 have h := List.pairwise_mergeSort (le := fun a b : Decision => decide (b.number ≤ a.number)) (by intro a b c h1 h2; simp at *; omega) (by intro a b; simp; omega) x.decisions
 exact h.imp (fun h => by simpa using h)
theorem nodup_key {α : Type} {f : α → Int} {xs : List α} (hn : (xs.map f).Nodup) {a b : α} (ha : a ∈ xs) (hb : b ∈ xs) (e : f a = f b) : a = b := by
 obtain ⟨i, hi⟩ := List.mem_iff_getElem?.1 ha
 obtain ⟨j, hj⟩ := List.mem_iff_getElem?.1 hb
 rcases Nat.lt_trichotomy i j with h | h | h
 ·exact absurd hn (ziH hi hj h e)
 ·subst h; rw [hi] at hj; exact Option.some.inj hj
 exact absurd hn (ziH hj hi h e.symm)
theorem downD_eq {x : Lexicon} {ys : List Decision} (hp : ys.Perm x.decisions) (hs : ys.Pairwise fun a b => ¬ a.number - b.number < 0) (hn : (x.decisions.map (·.number)).Nodup) : ys = zdb x := by
 refine List.Perm.eq_of_pairwise (le := fun a b : Decision => b.number ≤ a.number) ?_ (hs.imp (fun h => by omega)) (downD_sorted x) (hp.trans (zdH x).symm)
 intro a b ha hb h1 h2
 exact nodup_key hn (hp.mem_iff.1 ha) ((zdH x).mem_iff.1 hb) (by omega)
theorem zin {x : Lexicon} (hn : (x.decisions.map (·.number)).Nodup) : ((zdb x).map (·.number)).Nodup := ((zdH x).map _).nodup_iff.2 hn
theorem putM_new {κ υ : Type} [DecidableEq κ] {m : List (κ × υ)} {k : κ} {u : υ} (h : look m k = none) : putM m k u = m ++ [(k, u)] := by simp [putM, h]
theorem look_pair {l : List Decision} {n : Int} (hn : (l.map (·.number)).Nodup) {d : Decision} : look (l.map zfE) n = some d ↔ d ∈ l ∧ d.number = n := by
 induction l with
 | nil => simp [look]
 | cons e l ih =>
  simp only [List.map_cons, List.nodup_cons] at hn
  have ih := ih hn.2
  simp only [look, List.map_cons, List.find?_cons, zfE] at ih ⊢
  by_cases h : e.number = n
  ·simp only [h, decide_true, Option.map_some, Option.some.injEq, List.mem_cons]
   constructor
   ·rintro rfl; exact ⟨.inl rfl, h⟩
   ·rintro ⟨rfl | h1, h2⟩
    ·rfl
    ·exact absurd (List.mem_map.2 ⟨d, h1, h2.trans h.symm⟩) hn.1
  ·simp only [h, decide_false, List.mem_cons]
   rw [ih]
   constructor
   ·rintro ⟨h1, h2⟩; exact ⟨.inr h1, h2⟩
   ·rintro ⟨rfl | h1, h2⟩
    ·exact absurd h2 h
    ·exact ⟨h1, h2⟩
theorem look_pair_none {l : List Decision} {n : Int} (h : n ∉ l.map (·.number)) : look (l.map zfE) n = none := by
 simp only [look, Option.map_eq_none_iff, List.find?_eq_none]
 intro p hp
 obtain ⟨d, hd, rfl⟩ := List.mem_map.1 hp
 intro e
 have e' : d.number = n := of_decide_eq_true e
 exact h (e' ▸ List.mem_map_of_mem hd)
theorem map_fill {l : List Decision} {k : Nat} {d : Decision} (hn : (l.map (·.number)).Nodup) (hd : l[k]? = some d) : putM ((l.take k).map zfE) d.number d = (l.take (k + 1)).map zfE := by
 rw [putM_new (look_pair_none ?_), zbf hd, List.map_append]
 ·rfl
 intro h
 exact zit (f := (·.number)) hd h hn
def zgh (x : Lexicon) (k : Nat) (d : Decision) : Bool := ((zdb x).take k).all fun v => !(decide (v.kind = 4) && decide (v.of_ = d.number) && zdr x v)
theorem standsB_eq {x : Lexicon} (hx : OkD x) {d : Decision} (hd : 1 ≤ d.number) : zdr x d = x.decisions.all fun v => !(decide (v.kind = 4) && decide (v.of_ = d.number) && zdr x v) := by
 have hv : ∀ v ∈ x.decisions, v.number ≤ 999 ∧ (v.kind = 4 → v.of_ < v.number) := fun v h => (hx.2 v h).2
 unfold zdr
 rw [standsF_eq hv (by omega)]
 rw [Bool.eq_iff_iff, List.all_eq_true, List.all_eq_true]
 refine forall_congr' fun v => forall_congr' fun hm => ?_
 have h1 := (hx.2 v hm).1
 have e : zez x (1000 - 1) v = zez x 1000 v := by
  rw [standsF_eq hv (show 999 < v.number + ((1000 - 1 : Nat) : Int) by omega), standsF_eq hv (show 999 < v.number + ((1000 : Nat) : Int) by omega)]
  -- both say the same of what makes v void
  rw [Bool.eq_iff_iff, List.all_eq_true, List.all_eq_true]
  refine forall_congr' fun u => forall_congr' fun hu => ?_
  by_cases hk : u.kind = 4
  ·by_cases ho : u.of_ = v.number
   ·have h2 := (hx.2 u hu).2.2 hk
    have : zez x (1000 - 1 - 1) u = zez x (1000 - 1) u := by
     have h3 : 2 ≤ u.number := by omega
     have key : ∀ (n m : Nat) (w : Decision), 999 < w.number + (n : Int) → 999 < w.number + (m : Int) → zez x n w = zez x m w := by
      intro n
      induction n with
      | zero =>
       intro m w hw hm'
       cases m with
       | zero => rfl
       | succ m =>
        simp only [zez]
        symm
        rw [List.all_eq_true]
        intro y hy
        have hy' := hx.2 y hy
        by_cases hk' : y.kind = 4
        ·have : ¬ y.of_ = w.number := by have := hy'.2.2 hk'; omega
         simp [this]
        ·simp [hk']
      | succ n ih =>
       intro m w hw hm'
       cases m with
       | zero =>
        simp only [zez]
        rw [List.all_eq_true]
        intro y hy
        have hy' := hx.2 y hy
        by_cases hk' : y.kind = 4
        ·have : ¬ y.of_ = w.number := by have := hy'.2.2 hk'; omega
         simp [this]
        ·simp [hk']
       | succ m =>
        simp only [zez]
        rw [Bool.eq_iff_iff, List.all_eq_true, List.all_eq_true]
        refine forall_congr' fun y => forall_congr' fun hy => ?_
        have hy' := hx.2 y hy
        by_cases hk' : y.kind = 4
        ·by_cases ho' : y.of_ = w.number
         ·have := hy'.2.2 hk'
          rw [ih m y (by omega) (by omega)]
         ·simp [ho']
        ·simp [hk']
     exact key _ _ u (by omega) (by omega)
    simp only [voids, this]
   ·simp [voids, ho]
  ·simp [voids, hk]
 simp only [voids, e]
theorem leftK_at {x : Lexicon} (hx : OkD x) {k : Nat} {d : Decision} (hd : (zdb x)[k]? = some d) : zgh x k d = zdr x d := by
 have hm : d ∈ x.decisions := (zdH x).mem_iff.1 (List.mem_of_getElem? hd)
 rw [standsB_eq hx (hx.2 d hm).1]
 rw [Bool.eq_iff_iff, zgh, List.all_eq_true, List.all_eq_true]
 constructor
 ·intro h v hv
  by_cases hk : v.kind = 4
  ·by_cases ho : v.of_ = d.number
   ·have h1 := (hx.2 v hv).2.2 hk
    obtain ⟨j, hj⟩ := List.mem_iff_getElem?.1 ((zdH x).mem_iff.2 hv)
    have hjk : j < k := by
     rcases Nat.lt_or_ge j k with h2 | h2
     ·exact h2
     ·rcases Nat.eq_or_lt_of_le h2 with h3 | h3
      ·subst h3; rw [hj] at hd; cases hd; omega
      ·obtain ⟨a1, a2⟩ := List.getElem?_eq_some_iff.1 hd
       obtain ⟨b1, b2⟩ := List.getElem?_eq_some_iff.1 hj
       have := List.pairwise_iff_getElem.1 (downD_sorted x) k j a1 b1 h3
       rw [a2, b2] at this; omega
    exact h v (List.mem_of_getElem? (by rw [List.getElem?_take, if_pos hjk]; exact hj))
   ·simp [ho]
  ·simp [hk]
 intro h v hv
 exact h v ((zdH x).mem_iff.1 (List.mem_of_mem_take hv))
theorem leftK_zero (x : Lexicon) : ((zdb x).filter (zgh x 0)).map zfE = (zdb x).map zfE := by
 congr 1
 rw [List.filter_eq_self]
 intro d _; simp [zgh]
theorem leftK_end {x : Lexicon} (hx : OkD x) : ((zdb x).filter (zgh x (zdb x).length)).map zfE = zeP x := by
 unfold zeP
 congr 1
 apply List.filter_congr
 intro d hd
 have hm : d ∈ x.decisions := (zdH x).mem_iff.1 hd
 rw [standsB_eq hx (hx.2 d hm).1, zgh, List.take_length, Bool.eq_iff_iff, List.all_eq_true, List.all_eq_true]
 exact ⟨fun h v hv => h v ((zdH x).mem_iff.2 hv), fun h v hv => h v ((zdH x).mem_iff.1 hv)⟩
theorem zjd {x : Lexicon} (hx : OkD x) (p : Decision → Bool) : (((zdb x).filter p).map (·.number)).Nodup := (List.filter_sublist.map _).nodup (zin hx.1)
theorem look_left {x : Lexicon} (hx : OkD x) {k : Nat} {d : Decision} (hd : (zdb x)[k]? = some d) : (look (((zdb x).filter (zgh x k)).map zfE) d.number).isSome = zdr x d := by
 rw [← leftK_at hx hd]
 have hm := List.mem_of_getElem? hd
 cases h : zgh x k d with
 | true =>
  have := (look_pair (zjd hx (zgh x k))).2 ⟨List.mem_filter.2 ⟨hm, h⟩, rfl⟩
  rw [this]; rfl
 | false =>
  cases hl : look (((zdb x).filter (zgh x k)).map zfE) d.number with
  | none => rfl
  | some e =>
   obtain ⟨h1, h2⟩ := (look_pair (zjd hx (zgh x k))).1 hl
   have h3 := List.mem_filter.1 h1
   have : e = d := nodup_key (zin hx.1) h3.1 hm h2
   subst this
   rw [h] at h3; cases h3.2
theorem leftK_succ {x : Lexicon} {k : Nat} {d e : Decision} (hd : (zdb x)[k]? = some d) : zgh x (k + 1) e = (zgh x k e && !(decide (d.kind = 4) && decide (d.of_ = e.number) && zdr x d)) := by
 simp only [zgh, zbf hd, List.all_append, List.all_cons, List.all_nil, Bool.and_true]
theorem map_void {x : Lexicon} {k : Nat} {d : Decision} (hd : (zdb x)[k]? = some d) (h : d.kind = 4 ∧ zdr x d = true) :
  delM (((zdb x).filter (zgh x k)).map zfE) d.of_ = ((zdb x).filter (zgh x (k + 1))).map zfE := by
 rw [delM, List.filter_map, List.filter_filter]
 congr 1
 apply List.filter_congr
 intro e _
 rw [leftK_succ hd, h.1, h.2]
 simp only [Function.comp, zfE, decide_true, Bool.and_true, Bool.true_and]
 rw [Bool.and_comm]
 congr 2
 exact decide_eq_decide.2 eq_comm
theorem map_stay {x : Lexicon} {k : Nat} {d : Decision} (hd : (zdb x)[k]? = some d) (h : ¬ (d.kind = 4 ∧ zdr x d = true)) :
  ((zdb x).filter (zgh x k)).map zfE = ((zdb x).filter (zgh x (k + 1))).map zfE := by
 congr 1
 apply List.filter_congr
 intro e _
 rw [leftK_succ hd]
 by_cases h1 : d.kind = 4
 ·have h2 : zdr x d = false := by
   cases q : zdr x d with
   | false => rfl
   | true => exact absurd ⟨h1, q⟩ h
  simp [h2]
 ·simp [h1]
theorem standM_mem {x : Lexicon} {p : Int × Decision} (h : p ∈ zeP x) : p.2 ∈ x.decisions ∧ p.1 = p.2.number ∧ zdr x p.2 = true := by
 obtain ⟨d, hd, rfl⟩ := List.mem_map.1 h
 obtain ⟨h1, h2⟩ := List.mem_filter.1 hd
 exact ⟨(zdH x).mem_iff.1 h1, rfl, h2⟩
theorem zhT {t : Text} {x : Lexicon} (h : zaR t x = 0) : OkD x := by
 have h1 := lexicon_v h
 have h2 := lexicon_v1 h
 refine ⟨?_, fun v hv => ⟨h2 v hv, h1 v hv⟩⟩
 unfold zaR at h
 split at h
 ·cases h
 split at h
 ·cases h
 rename_i h3
 simp only [Bool.not_eq_false] at h3
 simp only [zcB, Bool.and_eq_true, decide_eq_true_eq] at h3
 exact h3.2
def zig (rs : List Rule) (left : Int) (w : Str) : Str := if left = 0 then w else (zgH rs w).getD w
def turnB (rs : List Rule) (left : Int) (w : Str) : Bool := if left = 0 then false else (zgH rs w).isSome
def turnL (left : Int) : Int := if left = 0 then 0 else left - 1
def zgt (s p : Str) : Bool := decide (p.length ≤ s.length) && decide (s.drop (s.length - p.length) = p)
theorem stepOf_at {rs : List Rule} {i : Nat} {r : Rule} {w s : Str} (ht : (rs.take i).findSome? (made · w) = none) (hr : rs[i]? = some r) (hm : made r w = some s) : zgH rs w = some s := by
 unfold zgH
 rw [← List.take_append_drop i rs, List.findSome?_append, ht, zgN hr, List.findSome?_cons, hm]
 rfl
theorem stepOf_none {rs : List Rule} {i : Nat} {w : Str} (ht : (rs.take i).findSome? (made · w) = none) (hi : rs.length ≤ i) : zgH rs w = none := by
 rw [List.take_of_length_le hi] at ht; exact ht
theorem turn_take {rs : List Rule} {i : Nat} {r : Rule} {w : Str} (ht : (rs.take i).findSome? (made · w) = none) (hr : rs[i]? = some r) (hm : made r w = none) : (rs.take (i + 1)).findSome? (made · w) = none := by
 rw [zbf hr, List.findSome?_append, ht, List.findSome?_cons, hm]; rfl
theorem turnW_len {rs : List Rule} {left : Int} {w : Str} (h : w.length ≤ 12) : (zig rs left w).length ≤ 12 := by
 unfold zig
 split
 ·exact h
 cases e : zgH rs w with
 | none => exact h
 | some s =>
  obtain ⟨r, _, hr⟩ := List.exists_of_findSome?_eq_some e
  exact made_len hr
theorem made_no {r : Rule} {w : Str} (h : zgt w r.cut = true → r.least ≤ ((w.take (w.length - r.cut.length)).length : Int) ∧ (w.take (w.length - r.cut.length)).length + r.put.length ≤ 12 → False) : made r w = none := by
 unfold made
 rw [if_neg]
 rintro ⟨q1, q2, q3, q4⟩
 have hl : (w.take (w.length - r.cut.length)).length = w.length - r.cut.length := by rw [List.length_take]; omega
 exact h (by simp [zgt, q1, q3]) (by rw [hl]; exact ⟨q2, q4⟩)
theorem made_yes {r : Rule} {w : Str} (h : zgt w r.cut = true) (h1 : r.least ≤ ((w.take (w.length - r.cut.length)).length : Int)) (h2 : (w.take (w.length - r.cut.length)).length + r.put.length ≤ 12) : made r w = some (w.take (w.length - r.cut.length) ++ r.put) := by
 simp only [zgt, Bool.and_eq_true, decide_eq_true_eq] at h
 have hl : (w.take (w.length - r.cut.length)).length = w.length - r.cut.length := by rw [List.length_take]; omega
 rw [hl] at h1 h2
 unfold made
 rw [if_pos ⟨h.1, h1, h.2, h2⟩]
theorem turn_true {rs : List Rule} {left : Int} {w : Str} (h : turnB rs left w = true) : ¬ left = 0 ∧ zgH rs w = some (zig rs left w) := by
 unfold turnB at h
 unfold zig
 split at h
 ·cases h
 rename_i h0
 rw [if_neg h0]
 refine ⟨h0, ?_⟩
 cases e : zgH rs w with
 | none => rw [e] at h; cases h
 | some s => rfl
theorem turn_false {rs : List Rule} {left : Int} {n : Nat} {w : Str} (h : turnB rs left w = false) (hn : left = (n : Int)) : zdF rs n w = [w] := by
 unfold turnB at h
 split at h
 ·have : n = 0 := by omega
  subst this; rfl
 apply stepsN_none
 cases e : zgH rs w with
 | none => rfl
 | some s => rw [e] at h; cases h
theorem zgf {α : Type} {dn rm rm' m : List α} {p : α} (h : (dn ++ rm).Perm m) (q : rm.Perm (p :: rm')) : ((dn ++ [p]) ++ rm').Perm m := by
 refine List.Perm.trans ?_ h
 rw [List.append_assoc]
 exact (List.Perm.append_left dn q).symm
def smallW (w : Str) : Bool := decide (w.length ≤ 40)
def zhQ (l : List Str) : Bool := decide (l.length ≤ 15) && l.all smallW
def zfV (c : Chapter) : Bool := decide (c.lines.length ≤ 15) && c.lines.all zhQ
def zfe (t : Text) : Bool := decide (t.chapters.length ≤ 10) && t.chapters.all zfV
def smallR (r : Rule) : Bool := decide (r.cut.length ≤ 100) && decide (r.put.length ≤ 100)
def smallD (d : Decision) : Bool := decide (d.form.length ≤ 100) && decide (d.to.stem.length ≤ 100)
def zfd (x : Lexicon) : Bool := decide (x.rules.length ≤ 20) && decide (x.decisions.length ≤ 25) && x.rules.all smallR && x.decisions.all smallD
theorem smallT_len {t : Text} (h : zfe t = true) : t.chapters.length ≤ 10 := by
 simp only [zfe, Bool.and_eq_true, decide_eq_true_eq] at h; exact h.1
theorem smallT_c {t : Text} (h : zfe t = true) {i : Nat} {c : Chapter} (hc : t.chapters[i]? = some c) : c.lines.length ≤ 15 := by
 simp only [zfe, Bool.and_eq_true, decide_eq_true_eq, List.all_eq_true] at h
 have := h.2 c (List.mem_of_getElem? hc)
 simp only [zfV, Bool.and_eq_true, decide_eq_true_eq] at this; exact this.1
theorem smallT_l {t : Text} (h : zfe t = true) {i k : Nat} {c : Chapter} {l : List Str} (hc : t.chapters[i]? = some c) (hl : c.lines[k]? = some l) : l.length ≤ 15 := by
 simp only [zfe, Bool.and_eq_true, decide_eq_true_eq, List.all_eq_true] at h
 have := h.2 c (List.mem_of_getElem? hc)
 simp only [zfV, Bool.and_eq_true, decide_eq_true_eq, List.all_eq_true] at this
 have := this.2 l (List.mem_of_getElem? hl)
 simp only [zhQ, Bool.and_eq_true, decide_eq_true_eq] at this; exact this.1
theorem smallX_len {x : Lexicon} (h : zfd x = true) : x.rules.length ≤ 20 ∧ x.decisions.length ≤ 25 := by
 simp only [zfd, Bool.and_eq_true, decide_eq_true_eq] at h; exact h.1.1
end Go.Pk

namespace Go.Pk
open Go Go.RowKit
def cmpI (a b : Int) : Int := if a < b then -1 else if b < a then 1 else 0
def cmpL : List Int → List Int → Int
 | [], [] => 0
 | [], _ :: _ => -1
 | _ :: _, [] => 1
 | a :: az, b :: bs => if cmpI a b ≠ 0 then cmpI a b else cmpL az bs
def cmpS (a b : Str) : Int := Lib.compareBytes a b
def ordI (a b : Place) : Int := cmpL [a.chapter, a.line, a.word] [b.chapter, b.line, b.word]
def firstI (a b : Decision) : Int := if a.kind ≠ b.kind then a.kind - b.kind else if a.kind = 2 ∧ a.at_ ≠ b.at_ then ordI a.at_ b.at_ else a.number - b.number
def zer (d : Decision) (p : Place) (w : Str) : Bool :=
 if d.kind = 1 then decide (d.form = w) else if d.kind = 2 then decide (d.form = w) && !zeh p d.at_ else if d.kind = 3 then decide (d.at_ = p) else false
def betterB (d e : Decision) : Bool := if d.kind ≠ e.kind then decide (d.kind > e.kind) else decide (d.kind ≠ 2) || !zeh d.at_ e.at_
def cmpHead (a b : Head) : Int := if cmpS a.stem b.stem ≠ 0 then cmpS a.stem b.stem else a.mark - b.mark
def sLt (a b : Str) : Bool := Op.bytesLess a b
def headLt (a b : Head) : Bool := sLt a.stem b.stem || (decide (a.stem = b.stem) && decide (a.mark < b.mark))
theorem cmpL_step {a b : List Int} {k : Nat} {x y : Int} (ha : a[k]? = some x) (hb : b[k]? = some y) : cmpL (a.drop k) (b.drop k) = if cmpI x y ≠ 0 then cmpI x y else cmpL (a.drop (k + 1)) (b.drop (k + 1)) := by
 rw [zgN ha, zgN hb]; rfl
theorem cmpL_nil_cons {a b : List Int} (ha : a = []) (hb : b ≠ []) : cmpL a b = -1 := by
 subst ha; cases b with
 | nil => exact absurd rfl hb
 | cons => rfl
theorem cmpL_cons_nil {a b : List Int} (hb : b = []) (ha : a ≠ []) : cmpL a b = 1 := by
 subst hb; cases a with
 | nil => exact absurd rfl ha
 | cons => rfl
theorem ordI_eq (a b : Place) : ordI a b = if cmpI a.chapter b.chapter ≠ 0 then cmpI a.chapter b.chapter else if cmpI a.line b.line ≠ 0 then cmpI a.line b.line else cmpI a.word b.word := by
 simp only [ordI, cmpL]; repeat' split
 all_goals simp_all
theorem zhA (a b : Place) : decide (ordI a b ≤ 0) = !zeh b a := by
 rw [ordI_eq]; simp only [cmpI, zeh]
 by_cases h1 : a.chapter < b.chapter <;> by_cases h2 : b.chapter < a.chapter <;> by_cases h3 : a.line < b.line <;> by_cases h4 : b.line < a.line <;> by_cases h5 : a.word < b.word <;> by_cases h6 : b.word < a.word <;> simp [h1, h2, h3, h4, h5, h6] <;> (try omega) <;> (repeat' split) <;> simp <;> omega
theorem ordI_gt (a b : Place) : decide (ordI a b > 0) = zeh b a := by
 have h := zhA a b
 cases e : zeh b a <;> rw [e] at h <;> simp at h ⊢ <;> omega
theorem zgp {α : Type} {m : List α → Prop} (nil : m []) (snoc : ∀ l a, m l → m (l ++ [a])) (l : List α) : m l := by
 have h : ∀ r : List α, m r.reverse := by
  intro r
  induction r with
  | nil => exact nil
  | cons a r ih => rw [List.reverse_cons]; exact snoc _ _ ih
 have := h l.reverse
 rwa [List.reverse_reverse] at this
def zhi (b d : Decision) : Decision := if b.number = 0 ∨ firstI d b > 0 then d else b
def zaS (l : List Decision) : Decision := l.foldl zhi zcw
theorem zgj (l : List Decision) (d : Decision) : zaS (l ++ [d]) = zhi (zaS l) d := by simp [zaS]
theorem bestOf_mem (l : List Decision) : zaS l = zcw ∨ zaS l ∈ l := by
 induction l using zgp with
 | nil => exact .inl rfl
 | snoc l d ih =>
  rw [zgj, zhi]
  split
  ·exact .inr (by simp)
  ·rcases ih with h | h
   ·exact .inl h
   ·exact .inr (by simp [h])
theorem best_ok {p : Decision → Prop} (hz : p zcw) {l : List Decision} (hp : ∀ y ∈ l, p y) : p (zaS l) := by
 rcases bestOf_mem l with h | h
 ·rw [h]; exact hz
 exact hp _ h
theorem bestOf_zero {l : List Decision} (hp : ∀ y ∈ l, 1 ≤ y.number) (h : (zaS l).number = 0) : zaS l = zcw := by
 rcases bestOf_mem l with h1 | h1
 ·exact h1
 have := hp _ h1; omega
theorem zjn {l : List Decision} (hp : ∀ y ∈ l, 1 ≤ y.number) (hl : l ≠ []) : 1 ≤ (zaS l).number ∧ zaS l ∈ l := by
 have key : zaS l ∈ l := by
  induction l using zgp with
  | nil => exact absurd rfl hl
  | snoc l d ih =>
   rw [zgj, zhi]
   split
   ·simp
   ·rename_i hn
    by_cases hl' : l = []
    ·subst hl'; exact absurd (.inl rfl) hn
    ·have := ih (fun y hy => hp y (by simp [hy])) hl'
     simp [this]
 exact ⟨hp _ key, key⟩
def lexD (a b : Decision) : Prop := a.kind < b.kind ∨ (a.kind = b.kind ∧ ((a.kind = 2 ∧ (a.at_.chapter < b.at_.chapter ∨ (a.at_.chapter = b.at_.chapter ∧ (a.at_.line < b.at_.line ∨ (a.at_.line = b.at_.line ∧ a.at_.word < b.at_.word))))) ∨ ((a.kind = 2 → a.at_ = b.at_) ∧ a.number < b.number)))
theorem firstI_lex {d e : Decision} : firstI d e > 0 ↔ lexD e d := by
 unfold firstI lexD
 by_cases hk : d.kind = e.kind
 ·have hk' : ¬ d.kind ≠ e.kind := by simp [hk]
  simp only [if_neg hk']
  by_cases h2 : d.kind = 2
  ·have h3 : e.kind = 2 := by omega
   by_cases ha : d.at_ = e.at_
   ·have q : ¬ (d.kind = 2 ∧ d.at_ ≠ e.at_) := by simp [ha]
    simp only [if_neg q, h3, h2, ha]
    simp
   ·have q : d.kind = 2 ∧ d.at_ ≠ e.at_ := ⟨h2, ha⟩
    rw [if_pos q]
    simp only [h3, h2]
    have hg := ordI_gt d.at_ e.at_
    have h5 : ordI d.at_ e.at_ > 0 ↔ zeh e.at_ d.at_ = true := by rw [← hg]; simp
    rw [h5]
    have ha' : ¬ e.at_ = d.at_ := fun q => ha q.symm
    simp only [ha', Int.lt_irrefl, false_or, true_and, forall_const, false_and, or_false, zeh]
    by_cases q1 : e.at_.chapter = d.at_.chapter <;> by_cases q2 : e.at_.line = d.at_.line <;> simp_all
  ·have h3 : ¬ e.kind = 2 := by omega
   have q : ¬ (d.kind = 2 ∧ d.at_ ≠ e.at_) := by simp [h2]
   simp only [if_neg q, h3]; simp [hk]
 have hk' : d.kind ≠ e.kind := hk
 simp only [if_pos hk']; omega
theorem lexD_trans {a b c : Decision} (h1 : lexD a b) (h2 : lexD b c) : lexD a c := by
 rcases a with ⟨n1, k1, f1, ⟨c1, l1, w1⟩, t1, o1⟩; rcases b with ⟨n2, k2, f2, ⟨c2, l2, w2⟩, t2, o2⟩; rcases c with ⟨n3, k3, f3, ⟨c3, l3, w3⟩, t3, o3⟩
 simp only [lexD, Place.mk.injEq] at *
 omega
theorem lexD_total {a b : Decision} (h : a.number ≠ b.number) : lexD a b ∨ lexD b a := by
 rcases a with ⟨n1, k1, f1, ⟨c1, l1, w1⟩, t1, o1⟩; rcases b with ⟨n2, k2, f2, ⟨c2, l2, w2⟩, t2, o2⟩
 simp only [lexD, Place.mk.injEq] at *
 omega
theorem lexD_irrefl (a : Decision) : ¬ lexD a a := by
 unfold lexD; omega
theorem bestOf_best {l : List Decision} (hp : ∀ y ∈ l, 1 ≤ y.number) (hn : (l.map (·.number)).Nodup) : ∀ y ∈ l, y ≠ zaS l → lexD y (zaS l) := by
 induction l using zgp with
 | nil => simp
 | snoc l d ih =>
  intro y hy hne
  have hn' : (l.map (·.number)).Nodup := by rw [List.map_append] at hn; exact (List.nodup_append.1 hn).1
  have ih := ih (fun y hy => hp y (by simp [hy])) hn'
  have hd : ∀ z ∈ l, z.number ≠ d.number := by
   intro z hz e
   rw [List.map_append] at hn
   exact (List.nodup_append.1 hn).2.2 _ (List.mem_map_of_mem hz) _ (List.mem_map.2 ⟨d, by simp, rfl⟩) e
  rw [zgj] at hne ⊢
  unfold zhi at hne ⊢
  split at hne
  ·rename_i hc
   rw [if_pos hc]
   rcases List.mem_append.1 hy with h | h
   ·by_cases hl : l = []
    ·subst hl; cases h
    ·have hb := zjn (fun y hy => hp y (by simp [hy])) hl
     have h1 : lexD (zaS l) d := by
      rcases hc with h0 | h0
      ·omega
      ·exact firstI_lex.1 h0
     by_cases e : y = zaS l
     ·rw [e]; exact h1
     ·exact lexD_trans (ih y h e) h1
   ·simp at h; exact absurd h hne
  ·rename_i hc
   rw [if_neg hc]
   have hc' : ¬ (zaS l).number = 0 ∧ ¬ lexD (zaS l) d := ⟨fun h => hc (.inl h), fun h => hc (.inr (firstI_lex.2 h))⟩
   rcases List.mem_append.1 hy with h | h
   ·exact ih y h hne
   ·simp at h; subst h
    by_cases hl : l = []
    ·subst hl; exact absurd rfl hc'.1
    ·have hb := zjn (fun y hy => hp y (by simp [hy])) hl
     rcases lexD_total (hd _ hb.2) with h1 | h1
     ·exact absurd h1 hc'.2
     ·exact h1
theorem bestOf_perm {xs ys : List Decision} (h : xs.Perm ys) (hp : ∀ y ∈ ys, 1 ≤ y.number) (hn : (ys.map (·.number)).Nodup) : zaS xs = zaS ys := by
 by_cases hy : ys = []
 ·subst hy; rw [h.eq_nil]
 have hx : xs ≠ [] := fun e => hy (by subst e; exact h.symm.eq_nil)
 have hp' : ∀ y ∈ xs, 1 ≤ y.number := fun y hy => hp y (h.mem_iff.1 hy)
 have hn' : (xs.map (·.number)).Nodup := (h.map _).nodup_iff.2 hn
 have h1 := (zjn hp' hx).2
 have h2 := (zjn hp hy).2
 by_cases e : zaS xs = zaS ys
 ·exact e
 have a := bestOf_best hp hn _ (h.mem_iff.1 h1) e
 have b := bestOf_best hp' hn' _ (h.mem_iff.2 h2) (Ne.symm e)
 exact absurd (lexD_trans a b) (lexD_irrefl _)
def zcs (t : Text) (p : Place) : Str := (zgF t p).getD []
def conD (x : Lexicon) (p : Place) (wd : Str) : List Decision := ((zeP x).map (·.2)).filter fun d => zer d p wd
def winD (x : Lexicon) (p : Place) (wd : Str) : Decision :=
 if (zaS (conD x p wd)).number = 0 then { zcw with to := ⟨((zdF x.rules 4 wd).getLast?).getD [], 0⟩ } else zaS (conD x p wd)
def OkO (o : Office) : Prop := zaR o.text o.lex = 0 ∧ o.stands = zeP o.lex
theorem place_at {t : Text} {p : Place} (h : zbE t p = true) : ∃ c ln wd, 0 ≤ p.chapter ∧ t.chapters[p.chapter.toNat]? = some c ∧ 0 ≤ p.line ∧ c.lines[p.line.toNat]? = some ln ∧ 0 ≤ p.word ∧ ln[p.word.toNat]? = some wd ∧ zcs t p = wd := by
 unfold zbE at h
 unfold zcs
 unfold zgF zcT at *
 split at h
 ·rename_i h1
  split at h
  ·rename_i h2
   cases hc : t.chapters[p.chapter.toNat]? with
   | none => simp [hc] at h
   | some c =>
    simp only [hc, Option.bind_some] at h
    cases hl : c.lines[p.line.toNat]? with
    | none => simp [hl] at h
    | some ln =>
     simp only [hl, Option.bind_some] at h
     cases hw : ln[p.word.toNat]? with
     | none => simp [hw] at h
     | some wd => exact ⟨c, ln, wd, h2.1, rfl, h2.2, hl, h1, hw, by simp [if_pos h1, if_pos h2, hc, hl, hw]⟩
  ·simp at h
 simp at h
theorem okO_d {o : Office} (h : OkO o) : OkD o.lex := zhT h.1
theorem standM_ok {t : Text} {x : Lexicon} (h : zaR t x = 0) {q : Int × Decision} (hq : q ∈ zeP x) : zaj t q.2 = true ∧ 1 ≤ q.2.number ∧ q.2.number ≤ 999 ∧ 1 ≤ q.2.kind ∧ q.2.kind ≤ 4 := by
 have h1 := (standM_mem hq).1
 have h2 : zcB t x = true := by
  unfold zaR at h
  split at h
  ·cases h
  ·split at h
   ·cases h
   ·rename_i h3; simpa using h3
 simp only [zcB, Bool.and_eq_true, List.all_eq_true] at h2
 have h3 := h2.1.2 _ h1
 have h4 := (zhT h).2 _ h1
 refine ⟨h3, h4.1, h4.2.1, ?_⟩
 unfold zaj at h3
 simp only [Bool.and_eq_true] at h3
 have h5 := h3.2
 split at h5
 ·omega
 split at h5
 ·omega
 split at h5
 ·omega
 split at h5
 ·omega
 cases h5
theorem standM_nodupD {x : Lexicon} (h : OkD x) : (((zeP x).map (·.2)).map (·.number)).Nodup := by
 have := zjd h (zdr x)
 simpa [zeP, zfE, List.map_map, Function.comp_def] using this
theorem wordD_len {t : Text} {p : Place} (ht : zbm t = true) (hp : zbE t p = true) : (zcs t p).length ≤ 12 := by
 obtain ⟨c, ln, wd, _, hc, _, hl, _, hw, e⟩ := place_at hp
 rw [e]
 simp only [zbm, Bool.and_eq_true, List.all_eq_true] at ht
 have h1 := ht.1.2 _ (List.mem_of_getElem? hc)
 simp only [zbJ, Bool.and_eq_true, List.all_eq_true] at h1
 have h2 := h1.2 _ (List.mem_of_getElem? hl)
 simp only [zgs, Bool.and_eq_true, List.all_eq_true] at h2
 exact zhL (h2.2 _ (List.mem_of_getElem? hw))
theorem zdW {t : Text} {x : Lexicon} (h : zaR t x = 0) : zbm t = true := by
 unfold zaR at h
 split at h
 ·cases h
 rename_i h1; simpa using h1
theorem conD_perm {x : Lexicon} {p : Place} {wd : Str} {dn : List (Int × Decision)} (h : OkD x) (hd : dn.Perm (zeP x)) : zaS ((dn.map (·.2)).filter fun d => zer d p wd) = zaS (conD x p wd) := by
 refine bestOf_perm ((hd.map _).filter _) ?_ ?_
 ·intro y hy
  obtain ⟨q, hq, rfl⟩ := List.mem_map.1 (List.mem_filter.1 hy).1
  exact (h.2 _ (standM_mem hq).1).1
 exact (List.filter_sublist.map _).nodup (standM_nodupD h)
theorem stepsN_ne (rs : List Rule) (n : Nat) (w : Str) : zdF rs n w ≠ [] := by
 cases n with
 | zero => simp [zdF]
 | succ n => simp only [zdF]; split <;> simp
end Go.Pk
