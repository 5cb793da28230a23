/- A PART OF THE PROOF: contracts of functions, each walked once (much of it printed by a program of the author's own). -/
import Derived.Test.YtngmpkoobdkeiaaGreatDoorT1
import Derived.Test.YtngmpkoobdkeiaaGreatDoorT2
import Derived.Laws.CopyRow
import Derived.Sort.Walk0
namespace Go.Pk
open Go Go.RowKit
section
variable {α : Type} {L : Lay α} {T : TypeId} {h : Heap}
def vtake : Value → Nat → Value
 | .slice p _ c, k => .slice p k c
 | v, _ => v
def vdrop (s : Nat) : Value → Nat → Value
 | .slice p n c, k => .slice (if c = k then p else p.map (·.add (k * s))) (n - k) (c - k)
 | v, _ => v
theorem Enc.take {cs : List Value} {xs : List α} (e : Enc L h cs xs) {k : Nat} (hk : k ≤ xs.length) : Enc L h (cs.take (k * L.size)) (xs.take k) := by
 have hle : k * L.size ≤ cs.length := by rw [e.1]; exact Nat.mul_le_mul_right _ hk
 refine ⟨by rw [List.length_take, List.length_take, Nat.min_eq_left hle, Nat.min_eq_left hk], fun i x hi => ?_⟩
 have hik : i < k := by
  rw [List.getElem?_take] at hi
  split at hi
  ·assumption
  ·cases hi
 rw [List.getElem?_take, if_pos hik] at hi
 have hr := e.2 i x hi
 have h1 : i * L.size + L.size ≤ k * L.size := by rw [← Nat.succ_mul]; exact Nat.mul_le_mul_right _ hik
 rw [List.drop_take, List.take_take, Nat.min_eq_left (by omega)]
 exact hr
theorem Enc.drop {cs : List Value} {xs : List α} (e : Enc L h cs xs) (k : Nat) : Enc L h (cs.drop (k * L.size)) (xs.drop k) := by
 refine ⟨by rw [List.length_drop, List.length_drop, e.1, Nat.sub_mul], fun i x hi => ?_⟩
 rw [List.getElem?_drop] at hi
 have hr := e.2 _ x hi
 rw [List.drop_drop, ← Nat.add_mul]
 exact hr
theorem Enc.set {cs vs : List Value} {xs : List α} {i : Nat} {y : α} (e : Enc L h cs xs) (hi : i < xs.length) (hr : L.R h vs y) : Enc L h (cs.take (i * L.size) ++ vs ++ cs.drop ((i + 1) * L.size)) (xs.set i y) := by
 rw [List.set_eq_take_append_cons_drop, if_pos hi]
 have h1 := ((e.take (Nat.le_of_lt hi)).append (Enc.one1 hr)).append (e.drop (i + 1))
 rw [List.append_assoc (xs.take i)] at h1
 exact h1
theorem OSl.take {v : Value} {xs : List α} {o : List (Nat × Obj)} (e : OSl L T h v xs o) {k : Nat} (hk : k ≤ xs.length) : OSl L T h (vtake v k) (xs.take k) o := by
 obtain ⟨cs, e1, ⟨⟨p, rfl⟩, rfl, rfl⟩ | ⟨g, cap, cur, rfl, rfl, hnc, hcm, hsz, htk⟩⟩ := e
 ·have : k = 0 := by simpa using hk
  subst this
  exact ⟨[], ⟨by simp, by simp⟩, .inl ⟨⟨p, rfl⟩, by simp, rfl⟩⟩
 ·have hl : (xs.take k).length = k := by rw [List.length_take, Nat.min_eq_left hk]
  refine ⟨_, e1.take hk, .inr ⟨g, cap, cur, by rw [hl]; rfl, rfl, by omega, hcm, hsz, ?_⟩⟩
  rw [hl, ← htk, List.take_take, Nat.min_eq_left (Nat.mul_le_mul_right _ hk)]
/-- an element of the rest of a slice -/
theorem Elem.drop {v : Value} {k j s b o : Nat} (e : Elem v (k + j) s b o) (hc : ∀ p n c, v = .slice p n c → n ≤ c) : Elem (vdrop s v k) j s b o := by
 obtain ⟨off, n, c, rfl, hlt, rfl⟩ := e
 have := hc _ _ _ rfl
 refine ⟨off + k * s, n - k, c - k, ?_, by omega, by rw [Nat.add_mul]; omega⟩
 simp only [vdrop]
 rw [if_neg (by omega)]
 simp [addr_add]
theorem Elem.drop' {v : Value} {k j m s b o : Nat} (e : Elem v m s b o) (hm : m = k + j) (hc : ∀ p n c, v = .slice p n c → n ≤ c) : Elem (vdrop s v k) j s b o := by
 subst hm; exact e.drop hc
theorem OSl.caps {v : Value} {xs : List α} {o : List (Nat × Obj)} (e : OSl L T h v xs o) : ∀ p n c, v = .slice p n c → n ≤ c := by
 rintro p n c rfl
 obtain ⟨cs, e1, ⟨⟨q, e2⟩, rfl, rfl⟩ | ⟨g, cap, cur, e2, rfl, hnc, hcm, hsz, htk⟩⟩ := e
 ·cases e2; exact Nat.le_refl _
 ·cases e2; exact hnc
theorem OSl.len {v : Value} {xs : List α} {o : List (Nat × Obj)} (e : OSl L T h v xs o) : ∀ p n c, v = .slice p n c → n = xs.length := by
 rintro p n c rfl
 obtain ⟨q, c', e2⟩ := e.form
 cases e2; rfl
end
section
variable {P : Program} {n : Nat} {ops : Array Oper} {rest : List Oper} {K : Env → World → Prop} {σ : Env} {w w0 : World} {h0 h : Heap} {own : Own} {ty : TypeId} {pos : String} {aft : Array Edge} {d : Nat} {dst : Option Tmp} {g : Option (Nat × Bool)}
theorem r_slice_to_own {α : Type} {L : Lay α} {T : TypeId} {xs : List α} {v : Value} {o : List (Nat × Obj)} {t e : TypeId} {x hi_ : Operand} {i : Int} {k m : Nat} (hO : OSl L T h v xs o) (hx : ev σ x = v) (hi : ev σ hi_ = .int .i64 i) (hk : i = (k : Int)) (hle : k ≤ xs.length) (hu : P.underlying t = some (.slice e)) (hz : ∀ w, (sizeOf e).run P w = .ok m w) :
  Run P σ w ⟨dst, .slice t x none (some hi_) none, ty, pos, aft, g⟩ (vtake v k) w := by
 subst hk
 obtain ⟨p, c, rfl⟩ := hO.form
 have hc := hO.caps _ _ _ rfl
 have h1 : k ≤ c := by omega
 cases p <;> simp [Run, execOp, hx, hi, Instr.sliceAt, Instr.slice, run_underlying hu, Instr.sliceBounds, Instr.sliceBound, asIntOf, hz, h1, vtake]
 rename_i a
 intro _
 cases a
 rfl
theorem r_slice_from_own {α : Type} {L : Lay α} {T : TypeId} {xs : List α} {v : Value} {o : List (Nat × Obj)} {t e : TypeId} {x lo : Operand} {i : Int} {k m : Nat} (hO : OSl L T h v xs o) (hx : ev σ x = v) (hi : ev σ lo = .int .i64 i) (hk : i = (k : Int)) (hle : k ≤ xs.length) (hu : P.underlying t = some (.slice e)) (hz : ∀ w, (sizeOf e).run P w = .ok m w) :
  Run P σ w ⟨dst, .slice t x (some lo) none none, ty, pos, aft, g⟩ (vdrop m v k) w := by
 subst hk
 obtain ⟨p, c, rfl⟩ := hO.form
 have h1 : k ≤ xs.length := hle
 simp [Run, execOp, hx, hi, Instr.sliceAt, Instr.slice, run_underlying hu, Instr.sliceBounds, Instr.sliceBound, asIntOf, hz, h1, vdrop]
theorem r_len_vdrop {v : Value} {t e : TypeId} {x : Operand} {s k len : Nat} (hx : ev σ x = vdrop s v k) (hl : ∃ p c, v = .slice p len c) (hu : P.underlying t = some (.slice e)) :
  Run P σ w ⟨dst, .call ⟨.builtin .len, #[x], #[t]⟩, ty, pos, aft, g⟩ (.int .i64 ((len - k : Nat) : Int)) w := by
 obtain ⟨p, c, rfl⟩ := hl
 exact r_len_sl hx hu
/-- an element of one's own slice turns -/
theorem spliced_split : ∀ (us pre : List Value) (cs : List Value), us.length ≤ cs.length → spliced (pre ++ cs) pre.length us = pre ++ us ++ cs.drop us.length
 | [], pre, cs, _ => by simp [spliced]
 | u :: us, pre, [], h => by simp at h
 | u :: us, pre, c :: cs, h => by
  have ih := spliced_split us (pre ++ [u]) cs (by simpa using h)
  simp only [List.length_append, List.length_cons, List.length_nil, Nat.zero_add] at ih
  rw [spliced, List.set_append_right _ _ (Nat.le_refl _), Nat.sub_self, List.set_cons_zero]
  rw [show pre ++ u :: cs = pre ++ [u] ++ cs by simp, ih]
  simp
theorem spliced_eq' {cs us : List Value} {off : Nat} (h : off + us.length ≤ cs.length) : spliced cs off us = cs.take off ++ us ++ cs.drop (off + us.length) := by
 have h1 := spliced_split us (cs.take off) (cs.drop off) (by rw [List.length_drop]; omega)
 rw [List.take_append_drop, List.length_take, Nat.min_eq_left (by omega), List.drop_drop] at h1
 exact h1
theorem OpsL.storeEl {α : Type} {L : Lay α} {T : TypeId} {v : Value} {xs : List α} {o : List (Nat × Obj)} {k i b off : Nat} {y0 : α} {us : List Value} {t : TypeId} {x y : Operand} (st : St h0 w0 h w own) (hO : OSl L T h v xs o) (hk : own[k]? = some o) (hi : i < xs.length) (he : Elem v i L.size b off)
  (hx : ev σ x = .pointer (some ⟨b, off, none⟩)) (hy : ev σ y = .agg us.toArray) (hR : L.R h us y0) (hz : ∀ w, (sizeOf t).run P w = .ok us.length w)
  (hK : ∀ o' w' own', own' = own.set k o' → OSl L T h v (xs.set i y0) o' → St h0 w0 h w' own' → OpsL P n ops rest K σ w') : OpsL P n ops (⟨none, .store t x y, ty, pos, aft, none⟩ :: rest) K σ w := by
 obtain ⟨cs, e1, ⟨⟨p, rfl⟩, rfl, rfl⟩ | ⟨gb, cap, cur, rfl, rfl, hnc, hcm, hsz, htk⟩⟩ := hO
 ·simp at hi
 ·obtain ⟨off0, n', c', e2, hlt, rfl⟩ := he
  cases e2
  have hul := L.len hR
  have h1 : (i + 1) * L.size ≤ xs.length * L.size := Nat.mul_le_mul_right _ hi
  have h2 : xs.length * L.size ≤ cap * L.size := Nat.mul_le_mul_right _ hnc
  rw [Nat.succ_mul] at h1
  have hcl : cur.toList.length = cap * L.size := by rw [Array.length_toList, hsz]
  have ho : (0 + i * L.size) + us.length ≤ cur.toList.length := by rw [hcl]; have hul' : us.length = L.size := hul; omega
  have hk' : own[k]? = some [(b, .cells cur.toList.toArray T)] := by simpa using hk
  have hsp := spliced_eq' ho
  refine zI st hk' hx hy (by rw [List.all_eq_true]; exact fun u hu => L.one hR u hu) hz (by simpa using ho) hsp rfl fun w' st' => ?_
  have hlen : (cur.toList.take (0 + i * L.size)).length = i * L.size := by rw [List.length_take, hcl]; omega
  refine hK _ _ _ rfl ⟨_, e1.set hi hR, .inr ⟨b, cap, _, by rw [List.length_set], rfl, by rw [List.length_set]; exact hnc, hcm, ?_, ?_⟩⟩ st'
  ·simp only [List.size_toArray, List.length_append, hlen, List.length_drop, hcl]
   omega
  ·rw [List.length_set, ← htk]
   have e3 : (i + 1) * L.size = i * L.size + L.size := Nat.succ_mul _ _
   have hul' : us.length = L.size := hul
   rw [List.take_take, Nat.min_eq_left (by omega), e3, List.drop_take]
   rw [List.take_append, List.take_of_length_le (l := cur.toList.take (0 + i * L.size) ++ us) (by rw [List.length_append, hlen]; omega), List.length_append, hlen, hul', Nat.zero_add]
/-- the same where an element is one cell -/
theorem OpsL.storeEl1 {α : Type} {L : Lay α} {T : TypeId} {v : Value} {xs : List α} {o : List (Nat × Obj)} {k i b off : Nat} {y0 : α} {u : Value} {t : TypeId} {x y : Operand} (st : St h0 w0 h w own) (hO : OSl L T h v xs o) (hk : own[k]? = some o) (hi : i < xs.length) (he : Elem v i L.size b off)
  (hx : ev σ x = .pointer (some ⟨b, off, none⟩)) (hy : ev σ y = u) (hR : L.R h [u] y0) (hz : ∀ w, (sizeOf t).run P w = .ok 1 w)
  (hK : ∀ o' w' own', own' = own.set k o' → OSl L T h v (xs.set i y0) o' → St h0 w0 h w' own' → OpsL P n ops rest K σ w') : OpsL P n ops (⟨none, .store t x y, ty, pos, aft, none⟩ :: rest) K σ w := by
 obtain ⟨cs, e1, ⟨⟨p, rfl⟩, rfl, rfl⟩ | ⟨gb, cap, cur, rfl, rfl, hnc, hcm, hsz, htk⟩⟩ := hO
 ·simp at hi
 ·obtain ⟨off0, n', c', e2, hlt, rfl⟩ := he
  cases e2
  have hul := L.len hR
  have h1 : (i + 1) * L.size ≤ xs.length * L.size := Nat.mul_le_mul_right _ hi
  have h2 : xs.length * L.size ≤ cap * L.size := Nat.mul_le_mul_right _ hnc
  rw [Nat.succ_mul] at h1
  have hcl : cur.toList.length = cap * L.size := by rw [Array.length_toList, hsz]
  have hs1 : L.size = 1 := by rw [← hul]; rfl
  have ho : (0 + i * L.size) + [u].length ≤ cur.toList.length := by rw [hcl]; have hul' : [u].length = L.size := hul; omega
  have hk' : own[k]? = some [(b, .cells cur.toList.toArray T)] := by simpa using hk
  have hsp := spliced_eq' ho
  have hlen : (cur.toList.take (0 + i * L.size)).length = i * L.size := by rw [List.length_take, hcl]; omega
  have hlt' : 0 + i * L.size < cur.toList.length := by have h9 : [u].length = 1 := rfl; omega
  refine OpsL.store1 st hk' hx hy (L.one hR u (by simp)) hz (by simpa using hlt') rfl rfl fun w' st' => ?_
  refine hK _ _ _ rfl ⟨_, e1.set hi hR, .inr ⟨b, cap, _, by rw [List.length_set], rfl, by rw [List.length_set]; exact hnc, hcm, ?_, ?_⟩⟩ st'
  ·simp [hsz]
  ·have hset : cur.toList.set (0 + i * L.size) u = cur.toList.take (0 + i * L.size) ++ [u] ++ cur.toList.drop (0 + i * L.size + [u].length) := by
    rw [← hsp]; rfl
   rw [List.length_set, ← htk]
   have e3 : (i + 1) * L.size = i * L.size + L.size := Nat.succ_mul _ _
   rw [List.take_take, Nat.min_eq_left (by omega), e3, List.drop_take]
   have hul' : [u].length = L.size := hul
   show (cur.toList.set (0 + i * L.size) u).take (xs.length * L.size) = _
   rw [hset, List.take_append, List.take_of_length_le (l := cur.toList.take (0 + i * L.size) ++ [u]) (by rw [List.length_append, hlen]; omega), List.length_append, hlen, hul', Nat.zero_add]
def vsub (s : Nat) : Value → Nat → Nat → Value
 | .slice p _ c, l, m => .slice (if c = l then p else p.map (·.add (l * s))) (m - l) (c - l)
 | v, _, _ => v
theorem r_slice_lh_own {p : Option Addr} {len c : Nat} {v : Value} {t e : TypeId} {x lo hi_ : Operand} {i1 i2 : Int} {l m s : Nat} (hv : v = .slice p len c) (hx : ev σ x = v) (hi : ev σ lo = .int .i64 i1) (hj : ev σ hi_ = .int .i64 i2) (hl : i1 = (l : Int)) (hm : i2 = (m : Int)) (hlm : l ≤ m) (hmc : m ≤ c) (hu : P.underlying t = some (.slice e)) (hz : ∀ w, (sizeOf e).run P w = .ok s w) :
  Run P σ w ⟨dst, .slice t x (some lo) (some hi_) none, ty, pos, aft, g⟩ (vsub s v l m) w := by
 subst hl; subst hm; subst hv
 simp [Run, execOp, hx, hi, hj, Instr.sliceAt, Instr.slice, run_underlying hu, Instr.sliceBounds, Instr.sliceBound, asIntOf, hz, hlm, hmc, vsub]
theorem r_slice_lhm_own {p : Option Addr} {len c : Nat} {v : Value} {t e : TypeId} {x lo hi_ mx : Operand} {i1 i2 i3 : Int} {l m q s : Nat} (hv : v = .slice p len c) (hx : ev σ x = v) (hi : ev σ lo = .int .i64 i1) (hj : ev σ hi_ = .int .i64 i2) (hq : ev σ mx = .int .i64 i3) (hl : i1 = (l : Int)) (hm : i2 = (m : Int)) (hq2 : i3 = (q : Int)) (hlm : l ≤ m) (hmq : m ≤ q) (hmc : q ≤ c) (hu : P.underlying t = some (.slice e)) (hz : ∀ w, (sizeOf e).run P w = .ok s w) :
  Run P σ w ⟨dst, .slice t x (some lo) (some hi_) (some mx), ty, pos, aft, g⟩ (.slice (if q = l then p else p.map (·.add (l * s))) (m - l) (q - l)) w := by
 subst hl; subst hm; subst hq2; subst hv
 simp [Run, execOp, hx, hi, hj, hq, Instr.sliceAt, Instr.slice, run_underlying hu, Instr.sliceBounds, Instr.sliceBound, asIntOf, hz, hlm, hmc, hmq]
theorem set_same {own : Own} {k : Nat} {o : List (Nat × Obj)} (hk : own[k]? = some o) : own.set k o = own := by
 apply List.ext_getElem?
 intro q
 rw [List.getElem?_set]
 split
 ·rename_i e4; subst e4
  split
  ·exact hk.symm
  ·rename_i h5; rw [List.getElem?_eq_none (by omega)]
 ·rfl
/-- a part of one's own slice is cleared -/
theorem OpsL.clearSub {α : Type} {L : Lay α} {T : TypeId} {v : Value} {xs : List α} {o : List (Nat × Obj)} {k l m : Nat} {t e : TypeId} {z : Value} {x : Operand} (st : St h0 w0 h w own) (hO : OSl L T h v xs o) (hk : own[k]? = some o) (hlm : l ≤ m) (hmc : ∀ p n c, v = .slice p n c → m ≤ c)
  (hx : ev σ x = vsub L.size v l m) (ht : P.underlying t = some (.slice e)) (hz : ∀ w, (zeroValue e).run P w = .ok z w) (hzs : z.cells.size = L.size) (hz1 : ∀ u ∈ z.cells.toList, u.oneCell' = true)
  (hK : ∀ o' w' own', own' = own.set k o' → (∀ j, j ≤ l → j ≤ xs.length → OSl L T h (vtake v j) (xs.take j) o') → St h0 w0 h w' own' → OpsL P n ops rest K σ w') : OpsL P n ops (⟨none, .call ⟨.builtin .clear, #[x], #[t]⟩, ty, pos, aft, none⟩ :: rest) K σ w := by
 have hset := set_same hk
 have run (v' : Value) (w' : World) (hv : vsub L.size v l m = v') (hr : (Builtin.clear_ #[t] ty #[v']).run P w = .ok (.tuple #[]) w') : Run P σ w ⟨none, .call ⟨.builtin .clear, #[x], #[t]⟩, ty, pos, aft, none⟩ (.tuple #[]) w' := by
  refine run_bi rfl (vs := [v']) (by simp [hx, hv]) fun cs => ?_
  simp only [builtin, Sem.run_bind, hr, Result.andThen_ok, Sem.run_pure]
 obtain ⟨cs, e1, ⟨⟨p, rfl⟩, rfl, rfl⟩ | ⟨gb, cap, cur, rfl, rfl, hnc, hcm, hsz, htk⟩⟩ := hO
 ·have hm0 : m - l = 0 := by have := hmc _ _ _ rfl; omega
  refine Y rfl rfl (run _ w rfl ?_) (hK [] w _ rfl (fun j _ hj => ?_) (by rw [hset]; exact st))
  ·simp only [vsub, hm0]
   split <;> cases p <;> simp [Builtin.clear_, run_underlying ht]
  ·have : j = 0 := by simpa using hj
   subst this
   exact ⟨[], ⟨by simp, by simp⟩, .inl ⟨⟨p, rfl⟩, by simp, rfl⟩⟩
 ·have hmc := hmc _ _ _ rfl
  have hcl : cur.toList.length = cap * L.size := by rw [Array.length_toList, hsz]
  have fin : ∀ (cur' : Array Value) w', cur'.size = cap * L.size → cur'.toList.take (l * L.size) = cur.toList.take (l * L.size) → St h0 w0 h w' (own.set k [(gb, .cells cur' T)]) → OpsL P n ops rest K σ w' := by
   intro cur' w' h1 h2 s
   refine hK _ w' _ rfl (fun j hjl hj => ⟨_, e1.take hj, .inr ⟨gb, cap, cur', ?_, rfl, ?_, hcm, h1, ?_⟩⟩) s
   ·rw [List.length_take, Nat.min_eq_left hj]; rfl
   ·rw [List.length_take, Nat.min_eq_left hj]; omega
   ·have h3 := congrArg (List.take (j * L.size)) h2
    rw [List.take_take, List.take_take, Nat.min_eq_left (Nat.mul_le_mul_right _ hjl)] at h3
    rw [List.length_take, Nat.min_eq_left hj, h3, ← htk, List.take_take, Nat.min_eq_left (Nat.mul_le_mul_right _ hj)]
  by_cases h0 : m - l = 0
  ·refine Y rfl rfl (run _ w rfl ?_) (fin cur w hsz rfl (by rw [hset]; exact st))
   simp only [vsub, h0]
   split <;> simp [Builtin.clear_, run_underlying ht]
  ·have hgw := st.get hk
   have hfit : l * L.size + (List.length (Builtin.zeroCells z.cells (m - l)).toList) ≤ cur.size := by
    rw [Array.length_toList, size_zeroCells, hzs, hsz]
    have h2 : (l + (m - l)) * L.size ≤ cap * L.size := Nat.mul_le_mul_right _ (by omega)
    rw [Nat.add_mul] at h2
    exact h2
   have hst := run_storeCells_at P gb (l * L.size) T (Builtin.zeroCells z.cells (m - l)).toList 0 cur w hgw (by simpa using hfit) ?_
   ·simp only [Nat.add_zero] at hst
    refine Y rfl rfl (run (.slice ((some (⟨gb, 0, none⟩ : Addr)).map (·.add (l * L.size))) (m - l) (cap - l)) (w.setRow gb (cur.toList.take (l * L.size) ++ (Builtin.zeroCells z.cells (m - l)).toList ++ cur.toList.drop (l * L.size + (Builtin.zeroCells z.cells (m - l)).toList.length)).toArray) (by simp only [vsub]; rw [if_neg (by omega : ¬ cap = l)]) ?_) (fin (cur.toList.take (l * L.size) ++ (Builtin.zeroCells z.cells (m - l)).toList ++ cur.toList.drop (l * L.size + (Builtin.zeroCells z.cells (m - l)).toList.length)).toArray _ ?_ ?_ ?_)
    ·obtain ⟨q, hm⟩ : ∃ q, m - l = q + 1 := ⟨m - l - 1, by omega⟩
     rw [hm] at hst
     simp [Builtin.clear_, run_underlying ht, hm, hz, addr_add, hst]
    ·rw [List.size_toArray, List.length_append, List.length_append, List.length_take, List.length_drop, hcl]
     omega
    ·rw [List.append_assoc, List.take_append, List.length_take, hcl]
     rw [List.take_take, Nat.min_self, show l * L.size - min (l * L.size) (cap * L.size) = 0 by have := Nat.mul_le_mul_right L.size (show l ≤ cap by omega); omega, List.take_zero, List.append_nil]
    ·have := st.set (.cells (cur.toList.take (l * L.size) ++ (Builtin.zeroCells z.cells (m - l)).toList ++ cur.toList.drop (l * L.size + (Builtin.zeroCells z.cells (m - l)).toList.length)).toArray T) hk
     refine this.same ?_ rfl rfl rfl (Nat.le_refl _)
     apply Array.ext_getElem?
     intro q
     have hlt := lt_of_some hgw
     by_cases ej : q = gb
     ·subst ej
      rw [setRow_heap w _ cur _ T _ hgw]; simp [hlt]
     ·rw [setRow_other w gb q _ ej]; simp [Ne.symm ej]
   ·intro u hu
    refine hz1 u ?_
    simp only [Builtin.zeroCells, Array.toList_map, List.mem_map] at hu
    obtain ⟨q, hq, rfl⟩ := hu
    have hq2 : q < (m - l) * z.cells.size := by simpa using hq
    have hpos : 0 < z.cells.size := by
     rcases Nat.eq_zero_or_pos z.cells.size with e0 | e0
     ·rw [e0] at hq2; omega
     ·exact e0
    have hm := Nat.mod_lt q hpos
    rw [getElem!_pos z.cells _ hm]
    exact Array.getElem_mem_toList hm
/-- the rest of one's own slice is cleared -/
theorem OpsL.clearTail {α : Type} {L : Lay α} {T : TypeId} {v : Value} {xs : List α} {o : List (Nat × Obj)} {k j : Nat} {t e : TypeId} {z : Value} {x : Operand} (st : St h0 w0 h w own) (hO : OSl L T h v xs o) (hk : own[k]? = some o) (hj : j ≤ xs.length)
  (hx : ev σ x = vdrop L.size v j) (ht : P.underlying t = some (.slice e)) (hz : ∀ w, (zeroValue e).run P w = .ok z w) (hzs : z.cells.size = L.size) (hz1 : ∀ u ∈ z.cells.toList, u.oneCell' = true)
  (hK : ∀ o' w' own', own' = own.set k o' → OSl L T h (vtake v j) (xs.take j) o' → St h0 w0 h w' own' → OpsL P n ops rest K σ w') : OpsL P n ops (⟨none, .call ⟨.builtin .clear, #[x], #[t]⟩, ty, pos, aft, none⟩ :: rest) K σ w := by
 obtain ⟨p, c, rfl⟩ := hO.form
 refine OpsL.clearSub (l := j) (m := xs.length) st hO hk hj (fun p n c e => ?_) hx ht hz hzs hz1 (fun o' w' own' e1 f s => hK o' w' own' e1 (f j (Nat.le_refl _) hj) s)
 have := hO.len _ _ _ e; have := hO.caps _ _ _ e; omega
/-- a slice's own rest moves to the left -/
theorem OpsL.appendSelf {α : Type} {L : Lay α} {k i j : Nat} {v : Value} {xs : List α} {o : List (Nat × Obj)} {t e : TypeId} {i0 : TypeInfo} {x y : Operand} (st : St h0 w0 h w own) (hO : OSl L e h v xs o) (hk : own[k]? = some o) (hij : i ≤ j) (hj : j ≤ xs.length)
  (hx : ev σ x = vtake v i) (hy : ev σ y = vdrop L.size v j) (hd : Nat.blt d n = true) (ht : P.underlying t = some (.slice e)) (hi : P.info? e = some i0) (hsize : i0.size = L.size) (hpos : 0 < L.size)
  (hK : ∀ o' w' own', own' = own.set k o' → OSl L e h (vtake v (i + (xs.length - j))) (xs.take i ++ xs.drop j) o' → St h0 w0 h w' own' → OpsL P n ops rest K (upd σ d (vtake v (i + (xs.length - j)))) w') :
  OpsL P n ops (⟨some d, .call ⟨.builtin .append, #[x, y], #[t, t]⟩, ty, pos, aft, none⟩ :: rest) K σ w := by
 have hset := set_same hk
 have run (v1 v2 v' : Value) (w' : World) (h1 : vtake v i = v1) (h2 : vdrop L.size v j = v2) (hr : (Builtin.append_ #[t, t] ty #[v1, v2]).run P w = .ok v' w') : Run P σ w ⟨some d, .call ⟨.builtin .append, #[x, y], #[t, t]⟩, ty, pos, aft, none⟩ v' w' := by
  refine run_bi rfl (vs := [v1, v2]) (by simp [hx, hy, h1, h2]) fun cs => ?_
  simp only [builtin, Sem.run_bind, hr, Result.andThen_ok, Sem.run_pure]
 obtain ⟨cs, e1, ⟨⟨p, rfl⟩, rfl, rfl⟩ | ⟨gb, cap, cur, rfl, rfl, hnc, hcm, hsz, htk⟩⟩ := hO
 ·have hj0 : j = 0 := by simpa using hj
  have hi0 : i = 0 := by omega
  subst hj0; subst hi0
  refine Y rfl hd (run _ _ (.slice p 0 0) w rfl rfl ?_) (hK [] w _ rfl ⟨[], ⟨by simp, by simp⟩, .inl ⟨⟨p, rfl⟩, by simp, rfl⟩⟩ (by rw [hset]; exact st))
  cases p <;> simp [Builtin.append_, run_underlying ht, sizeOf, typeInfo, hi, Builtin.lenOf, Builtin.firstCells, loadCells, loadCellsFrom, storeCells, vtake, vdrop]
 ·have hgw := st.get hk
  have hcl : cur.toList.length = cap * L.size := by rw [Array.length_toList, hsz]
  have hdl : (cs.drop (j * L.size)).length = (xs.length - j) * L.size := by rw [List.length_drop, e1.1, Nat.sub_mul]
  have hnew : (xs.take i ++ xs.drop j).length = i + (xs.length - j) := by rw [List.length_append, List.length_take, List.length_drop, Nat.min_eq_left (by omega)]
  have one := e1.one hpos
  have hfit : i * L.size + (cs.drop (j * L.size)).length ≤ cur.size := by
   rw [hdl, hsz, ← Nat.add_mul]; exact Nat.mul_le_mul_right _ (by omega)
  by_cases hc : cap = j
  ·have hn : xs.length - j = 0 := by omega
   have hds : cs.drop (j * L.size) = [] := List.eq_nil_of_length_eq_zero (by rw [hdl, hn, Nat.zero_mul])
   refine Y rfl hd (run _ _ (.slice (some ⟨gb, 0, none⟩) i cap) w rfl (by simp only [vdrop]; rw [if_pos hc, hn]) ?_) ?_
   ·have hic : i ≤ cap := by omega
    show (Builtin.append_ #[t, t] ty #[.slice (some ⟨gb, 0, none⟩) i cap, _]).run P w = _
    simp [Builtin.append_, run_underlying ht, sizeOf, typeInfo, hi, Builtin.lenOf, Builtin.firstCells, loadCells, loadCellsFrom, storeCells, hic]
   ·have := hK [(gb, .cells cur e)] w _ rfl ⟨cs.take (i * L.size), ?_, .inr ⟨gb, cap, cur, by rw [hnew]; rfl, rfl, by rw [hnew]; omega, hcm, hsz, ?_⟩⟩ (by rw [hset]; exact st)
    ·simp only [vtake, hn, Nat.add_zero] at this; exact this
    ·have : xs.drop j = [] := List.drop_eq_nil_of_le (by omega)
     rw [this, List.append_nil]; exact e1.take (by omega)
    ·rw [hnew, hn, Nat.add_zero, ← htk, List.take_take, Nat.min_eq_left (Nat.mul_le_mul_right _ (by omega))]
  ·have holds : ∀ q u, (cs.drop (j * L.size))[q]? = some u → w.cell? ((⟨gb, j * L.size, none⟩ : Addr).add q) = some u := by
    intro q u hq
    rw [addr_add]
    rw [List.getElem?_drop, ← htk, List.getElem?_take] at hq
    split at hq
    ·simp only [World.cell?, hgw, Option.isSome_none, Bool.false_eq_true, if_false]
     simpa using hq
    ·cases hq
   have hr := run_append_room (P := P) w t ty e i0 ht hi gb i cap cur hgw ⟨gb, j * L.size, none⟩ (xs.length - j) (cap - j) (cs.drop (j * L.size)) (by rw [hdl, hsize]) holds (fun u hu => one u (List.mem_of_mem_drop hu)) (by omega) (by rw [hsize]; exact hfit)
   have hlen : (cur.toList.take (i * L.size)).length = i * L.size := by rw [List.length_take, hcl]; have := Nat.mul_le_mul_right L.size (show i ≤ cap by omega); omega
   refine Y rfl hd (run _ _ _ _ rfl (by simp only [vdrop]; rw [if_neg hc]; simp [addr_add]) hr) (hK [(gb, .cells (cur.toList.take (i * i0.size) ++ cs.drop (j * L.size) ++ cur.toList.drop (i * i0.size + (cs.drop (j * L.size)).length)).toArray e)] _ _ rfl ⟨cs.take (i * L.size) ++ cs.drop (j * L.size), (e1.take (by omega)).append (e1.drop j), .inr ⟨gb, cap, _, by rw [hnew]; rfl, rfl, by rw [hnew]; omega, hcm, ?_, ?_⟩⟩ ?_)
   ·clear hr; rw [hsize, List.size_toArray, List.length_append, List.length_append, hlen, List.length_drop (l := cur.toList), hcl]; rw [hsz] at hfit; omega
   ·rw [hnew, hsize]
    have h1 : (i + (xs.length - j)) * L.size = (cur.toList.take (i * L.size) ++ cs.drop (j * L.size)).length := by rw [List.length_append, hlen, hdl, Nat.add_mul]
    rw [h1]
    show ((cur.toList.take (i * L.size) ++ cs.drop (j * L.size)) ++ _).take _ = _
    rw [List.take_left]
    congr 1
    rw [← htk, List.take_take, Nat.min_eq_left (Nat.mul_le_mul_right _ (by omega))]
   ·have := st.set (.cells (cur.toList.take (i * i0.size) ++ cs.drop (j * L.size) ++ cur.toList.drop (i * i0.size + (cs.drop (j * L.size)).length)).toArray e) hk
    refine this.same ?_ rfl rfl rfl (Nat.le_refl _)
    apply Array.ext_getElem?
    intro q
    have hlt := lt_of_some hgw
    by_cases ej : q = gb
    ·subst ej
     rw [setRow_heap w _ cur _ e _ hgw]; simp [hlt]
    ·rw [setRow_other w gb q _ ej]; simp [Ne.symm ej]
/-- a frozen array, as a slice -/
theorem Sl.ofCells {α : Type} {L : Lay α} {b off : Nat} {cs : List Value} {xs : List α} (hc : Cells h b off cs) (hE : Enc L h cs xs) (hb : xs.length ≤ big) : Sl L h (.slice (some ⟨b, off, none⟩) xs.length xs.length) xs := by
 refine ⟨_, xs.length, rfl, ⟨hb, Nat.le_refl _⟩, .inr ⟨b, off, rfl, fun i x hi => ⟨_, ?_, hE.2 i x hi⟩⟩⟩
 obtain ⟨row, T, fr, hb, hh⟩ := hc
 refine ⟨row, T, fr, hb, fun j u hj => ?_⟩
 rw [List.getElem?_take] at hj
 split at hj
 ·rw [List.getElem?_drop] at hj
  have := hh _ _ hj
  rw [Nat.add_assoc]; exact this
 ·cases hj
theorem r_slice_arr {b off len m : Nat} {t e : TypeId} {x : Operand} (hx : ev σ x = .pointer (some ⟨b, off, none⟩)) (hu : P.underlying t = some (.array len e)) (hz : ∀ w, (sizeOf e).run P w = .ok m w) :
  Run P σ w ⟨dst, .slice t x none none none, ty, pos, aft, g⟩ (.slice (some ⟨b, off, none⟩) len len) w := by
 by_cases h : len = 0 <;> simp [Run, execOp, hx, Instr.sliceAt, run_underlying hu, Instr.sliceBounds, hz, Instr.sureAddr, addr_add, h]
theorem r_fieldN {s : TypeId} {x : Operand} {k m : Nat} {fs : Array Field} {f : Field} {vs us : List Value} (hx : ev σ x = .agg vs.toArray) (hu : P.underlying s = some (.struct fs)) (hf : fs[k]? = some f) (ha : ∀ w, (isAgg f.type).run P w = .ok true w) (hz : ∀ w, (sizeOf f.type).run P w = .ok m w) (hv : (vs.drop f.offset).take m = us) (hl : us.length = m) :
  Run P σ w ⟨dst, .field s x k, ty, pos, aft, g⟩ (.agg us.toArray) w := by
 subst hv
 simp [Run, execOp, hx, Instr.field, run_underlying hu, hf, asAgg, part, ha, hz]
theorem Post.retcell2 {fn : Func} {P : Program} {R : Ending → World → Prop} {a b n u : Nat} {t : TypeId} {σ : Env} {w : World} {cs : List Value} {T : TypeId} (hr : fn.results = #[.cell a t, .tmp u]) (hp : σ a = .pointer (some ⟨b, 0, none⟩)) (ha : ∀ w, (isAgg t).run P w = .ok true w) (hz : ∀ w, (sizeOf t).run P w = .ok n w) (hn : cs.length = n)
  (hb : w.heap[b]? = some (.cells cs.toArray T)) (h : R (.returned (.tuple #[.agg cs.toArray, σ u])) w) : Post fn P R .ret σ w := by
 intro tmps ht
 refine ⟨_, ?_, h⟩
 subst hn
 have hl := run_loadCells_list (P := P) (w := w) ⟨b, 0, none⟩ cs (fun j v hj => by rw [addr_add]; simp [World.cell?, hb, hj])
 have hp' : tmps.getD a undef = .pointer (some ⟨b, 0, none⟩) := by rw [ht, hp]
 have hu := ht u
 simp only [Array.getD_eq_getD_getElem?] at hp' hu
 simp [results, hr, hp', hu, asAddr, loadVar, ha, hz, hl]
theorem Post.endcell2 {fn : Func} {P : Program} {R : Ending → World → Prop} {a b n u : Nat} {t : TypeId} {σ : Env} {w : World} {cs : List Value} {T : TypeId} (hr : fn.results = #[.cell a t, .tmp u]) (hp : σ a = .pointer (some ⟨b, 0, none⟩)) (ha : ∀ w, (isAgg t).run P w = .ok true w) (hz : ∀ w, (sizeOf t).run P w = .ok n w) (hn : cs.length = n)
  (hb : w.heap[b]? = some (.cells cs.toArray T)) (h : R (.returned (.tuple #[.agg cs.toArray, σ u])) w) : Post fn P R .normal σ w := Post.retcell2 (P := P) hr hp ha hz hn hb h
theorem Post.retcell2F {fn : Func} {P : Program} {R : Ending → World → Prop} {a b n u : Nat} {t : TypeId} {σ : Env} {w : World} {cs : List Value} {h : Heap} (hr : fn.results = #[.cell a t, .tmp u]) (hp : σ a = .pointer (some ⟨b, 0, none⟩)) (ha : ∀ w, (isAgg t).run P w = .ok true w) (hz : ∀ w, (sizeOf t).run P w = .ok n w) (hn : cs.length = n)
  (hs : Sub h w) (hb : Cells h b 0 cs) (hR : R (.returned (.tuple #[.agg cs.toArray, σ u])) w) : Post fn P R .ret σ w := by
 intro tmps ht
 refine ⟨_, ?_, hR⟩
 subst hn
 have hl := run_loadCells_list (P := P) (w := w) ⟨b, 0, none⟩ cs (fun j v hj => by rw [addr_add]; exact hb.cell hs hj)
 have hp' : tmps.getD a undef = .pointer (some ⟨b, 0, none⟩) := by rw [ht, hp]
 have hu := ht u
 simp only [Array.getD_eq_getD_getElem?] at hp' hu
 simp [results, hr, hp', hu, asAddr, loadVar, ha, hz, hl]
theorem Post.endcell2F {fn : Func} {P : Program} {R : Ending → World → Prop} {a b n u : Nat} {t : TypeId} {σ : Env} {w : World} {cs : List Value} {h : Heap} (hr : fn.results = #[.cell a t, .tmp u]) (hp : σ a = .pointer (some ⟨b, 0, none⟩)) (ha : ∀ w, (isAgg t).run P w = .ok true w) (hz : ∀ w, (sizeOf t).run P w = .ok n w) (hn : cs.length = n)
  (hs : Sub h w) (hb : Cells h b 0 cs) (hR : R (.returned (.tuple #[.agg cs.toArray, σ u])) w) : Post fn P R .normal σ w := Post.retcell2F (P := P) hr hp ha hz hn hs hb hR
end
theorem OpsQ.skippedU {P : Program} {n : Nat} {ops : Array Oper} {C : World → Prop} {rest : List Oper} {K : Env → Prop} {σ : Env} {dst : Option Tmp} {op : Op} {type : TypeId} {pos : String} {after : Array Edge} {g d : Nat} {b : Bool}
  (hg : (ops[g]?).bind (·.dst) = some d) (hd : Nat.blt d n = true) (hv : σ d = undef) (hdst : dstOk n dst = true)
  (h : OpsQ P n ops C rest K (updO σ dst undef)) : OpsQ P n ops C (⟨dst, op, type, pos, after, some (g, b)⟩ :: rest) K σ := by
 intro a ha
 unfold wpQuiet
 rw [if_neg (by simp [Region.wanted, yielded_undef ha hg hd hv])]
 exact h _ (ha.put hdst _)
/-- for a while all memory may be taken as frozen -/
theorem OSl.whole {α : Type} {L : Lay α} {T : TypeId} {h0 h : Heap} {w0 w : World} {own : Own} {k : Nat} {v : Value} {xs : List α} {o : List (Nat × Obj)} (st : St h0 w0 h w own) (e : OSl L T h v xs o) (hk : own[k]? = some o) (hb : xs.length ≤ 281474976710656) : Le h (heapOf w) ∧ Sl L (heapOf w) v xs := by
 have hle : Le h (heapOf w) := fun b o hb => st.sub b o hb
 refine ⟨hle, ?_⟩
 obtain ⟨cs, e1, ⟨⟨p, rfl⟩, rfl, rfl⟩ | ⟨g, cap, cur, rfl, rfl, hnc, _, hsz, htk⟩⟩ := e
 ·exact ⟨p, 0, rfl, ⟨Nat.zero_le _, Nat.zero_le _⟩, .inl rfl⟩
 ·have hg := st.get hk
  refine ⟨_, cap, rfl, ⟨hb, hnc⟩, .inr ⟨g, 0, rfl, fun i x hi => ⟨_, ⟨cur, T, _, hg, fun j u hj => ?_⟩, L.up (e1.2 i x hi) hle⟩⟩⟩
  have hjl : j < L.size := by
   rw [List.getElem?_take] at hj
   split at hj
   ·assumption
   ·cases hj
  rw [List.getElem?_take, if_pos hjl, List.getElem?_drop, ← htk, List.getElem?_take] at hj
  split at hj
  ·rw [Nat.zero_add]; simpa using hj
  ·cases hj
theorem St.thaw {h h' : Heap} {w w' : World} (s : St (heapOf w) w h' w' []) (hs : Sub h w) : St h w h w' [] :=
 ⟨Le.refl h, fun _ _ => rfl, fun b o hb => s.sub b o (s.le b o (hs b o hb)), s.below, by simp, by simp⟩
/-- a part of what is frozen -/
theorem Sl.take {α : Type} {L : Lay α} {h : Heap} {v : Value} {xs : List α} (e : Sl L h v xs) {k : Nat} (hk : k ≤ xs.length) : Sl L h (vtake v k) (xs.take k) := by
 obtain ⟨p, c, rfl, ⟨hb, hc⟩, hh⟩ := e
 have hl : (xs.take k).length = k := by rw [List.length_take, Nat.min_eq_left hk]
 refine ⟨p, c, by rw [hl]; rfl, ⟨by omega, by omega⟩, ?_⟩
 rcases hh with rfl | ⟨b, off, rfl, hh⟩
 ·exact .inl (by simp)
 ·refine .inr ⟨b, off, rfl, fun i x hi => hh i x ?_⟩
  rw [List.getElem?_take] at hi
  split at hi
  ·exact hi
  ·cases hi
theorem Sl.drop {α : Type} {L : Lay α} {h : Heap} {v : Value} {xs : List α} (e : Sl L h v xs) {k : Nat} (hk : k ≤ xs.length) : Sl L h (vdrop L.size v k) (xs.drop k) := by
 obtain ⟨p, c, rfl, ⟨hb, hc⟩, hh⟩ := e
 have hl : (xs.drop k).length = xs.length - k := List.length_drop
 refine ⟨_, _, by rw [hl]; rfl, ⟨by omega, by omega⟩, ?_⟩
 rcases hh with rfl | ⟨b, off, rfl, hh⟩
 ·exact .inl (by simp)
 ·by_cases h1 : c = k
  ·exact .inl (List.drop_eq_nil_of_le (by omega))
  ·rw [if_neg h1]
   refine .inr ⟨b, off + k * L.size, by simp [addr_add], fun i x hi => ?_⟩
   rw [List.getElem?_drop] at hi
   obtain ⟨vs, h2, h3⟩ := hh _ x hi
   refine ⟨vs, ?_, h3⟩
   rw [Nat.add_assoc, ← Nat.add_mul]; exact h2
theorem Sl.caps {α : Type} {L : Lay α} {h : Heap} {v : Value} {xs : List α} (e : Sl L h v xs) : ∀ p n c, v = .slice p n c → n ≤ c := by
 rintro p n c rfl
 obtain ⟨q, c', e2, ⟨_, hc⟩, _⟩ := e
 cases e2; exact hc
theorem r_slice_to_sl {P : Program} {σ : Env} {w : World} {ty : TypeId} {pos : String} {aft : Array Edge} {dst : Option Tmp} {g : Option (Nat × Bool)} {α : Type} {L : Lay α} {h : Heap} {xs : List α} {v : Value} {t e : TypeId} {x hi_ : Operand} {i : Int} {k m : Nat} (hO : Sl L h v xs) (hx : ev σ x = v) (hi : ev σ hi_ = .int .i64 i) (hk : i = (k : Int)) (hle : k ≤ xs.length) (hu : P.underlying t = some (.slice e)) (hz : ∀ w, (sizeOf e).run P w = .ok m w) :
  Run P σ w ⟨dst, .slice t x none (some hi_) none, ty, pos, aft, g⟩ (vtake v k) w := by
 subst hk
 obtain ⟨p, c, rfl⟩ := hO.form
 have hc := hO.caps _ _ _ rfl
 have h1 : k ≤ c := by omega
 cases p <;> simp [Run, execOp, hx, hi, Instr.sliceAt, Instr.slice, run_underlying hu, Instr.sliceBounds, Instr.sliceBound, asIntOf, hz, h1, vtake]
 rename_i a
 intro _
 cases a
 rfl
theorem r_slice_from_sl {P : Program} {σ : Env} {w : World} {ty : TypeId} {pos : String} {aft : Array Edge} {dst : Option Tmp} {g : Option (Nat × Bool)} {α : Type} {L : Lay α} {h : Heap} {xs : List α} {v : Value} {t e : TypeId} {x lo : Operand} {i : Int} {k m : Nat} (hO : Sl L h v xs) (hx : ev σ x = v) (hi : ev σ lo = .int .i64 i) (hk : i = (k : Int)) (hle : k ≤ xs.length) (hu : P.underlying t = some (.slice e)) (hz : ∀ w, (sizeOf e).run P w = .ok m w) :
  Run P σ w ⟨dst, .slice t x (some lo) none none, ty, pos, aft, g⟩ (vdrop m v k) w := by
 subst hk
 obtain ⟨p, c, rfl⟩ := hO.form
 have h1 : k ≤ xs.length := hle
 simp [Run, execOp, hx, hi, Instr.sliceAt, Instr.slice, run_underlying hu, Instr.sliceBounds, Instr.sliceBound, asIntOf, hz, h1, vdrop]
end Go.Pk

namespace Go.Pk
open Go Go.RowKit
section
variable {α : Type}
/-- slices.DeleteFunc, part way -/
structure DelF (q : α → Bool) (s ys : List α) (i j : Nat) : Prop where
 len : ys.length = s.length
 le : i ≤ j
 le2 : j ≤ s.length
 head : ys.take i = (s.take j).filter fun x => !q x
 tail : ys.drop j = s.drop j
theorem DelF.get {q : α → Bool} {s ys : List α} {i j : Nat} (d : DelF q s ys i j) {y : α} (h : ys[j]? = some y) : s[j]? = some y := by
 have h1 := congrArg (fun l : List α => l[0]?) d.tail
 simp only [List.getElem?_drop, Nat.add_zero] at h1
 rw [← h1]; exact h
theorem DelF.start {q : α → Bool} {s : List α} {k : Nat} (h1 : ∀ j x, j < k → s[j]? = some x → q x = false) (h2 : ∀ x, s[k]? = some x → q x = true) (hk : k < s.length) : DelF q s s k (k + 1) := by
 refine ⟨rfl, by omega, by omega, ?_, rfl⟩
 have hx : s[k]? = some s[k] := List.getElem?_eq_getElem hk
 rw [take_snoc hx, List.filter_append]
 have e1 : (s.take k).filter (fun x => !q x) = s.take k := by
  rw [List.filter_eq_self]
  intro x hx
  obtain ⟨j, hj⟩ := List.mem_iff_getElem?.1 hx
  rw [List.getElem?_take] at hj
  split at hj
  ·rename_i hjk; simp [h1 j x hjk hj]
  ·cases hj
 simp [e1, h2 _ hx]
theorem DelF.keep {q : α → Bool} {s ys : List α} {i j : Nat} (d : DelF q s ys i j) {y : α} (h : ys[j]? = some y) (hq : q y = false) : DelF q s (ys.set i y) (i + 1) (j + 1) := by
 obtain ⟨h1, _⟩ := List.getElem?_eq_some_iff.1 h
 have hl := d.len; have hle := d.le
 refine ⟨by rw [List.length_set]; exact d.len, by omega, by omega, ?_, ?_⟩
 ·rw [take_snoc (d.get h), List.filter_append, ← d.head]
  have e : (ys.set i y)[i]? = some y := by rw [List.getElem?_set]; simp; omega
  rw [take_snoc e, List.take_set_of_le (Nat.le_refl i)]
  simp [hq]
 ·rw [List.drop_set_of_lt (by omega)]
  have := congrArg (List.drop 1) d.tail
  simpa [List.drop_drop] using this
theorem DelF.skip {q : α → Bool} {s ys : List α} {i j : Nat} (d : DelF q s ys i j) {y : α} (h : ys[j]? = some y) (hq : q y = true) : DelF q s ys i (j + 1) := by
 obtain ⟨h1, _⟩ := List.getElem?_eq_some_iff.1 h
 have hl := d.len; have hle := d.le
 refine ⟨d.len, by omega, by omega, ?_, ?_⟩
 ·rw [take_snoc (d.get h), List.filter_append, ← d.head]
  simp [hq]
 ·have := congrArg (List.drop 1) d.tail
  simpa [List.drop_drop] using this
theorem DelF.fin {q : α → Bool} {s ys : List α} {i j : Nat} (d : DelF q s ys i j) (h : s.length ≤ j) : ys.take i = s.filter fun x => !q x := by
 rw [d.head, List.take_of_length_le h]
theorem filter_none {q : α → Bool} {s : List α} (h : ∀ j x, j < s.length → s[j]? = some x → q x = false) : (s.filter fun x => !q x) = s := by
 rw [List.filter_eq_self]
 intro x hx
 obtain ⟨j, hj⟩ := List.mem_iff_getElem?.1 hx
 obtain ⟨h1, _⟩ := List.getElem?_eq_some_iff.1 hj
 simp [h j x h1 hj]
variable [DecidableEq α]
/-- slices.Compact -/
def compStep (acc : List α) (x : α) : List α := if acc.getLast? = some x then acc else acc ++ [x]
def compactL (l : List α) : List α := l.foldl compStep []
theorem compactL_snoc (l : List α) (x : α) : compactL (l ++ [x]) = compStep (compactL l) x := by simp [compactL]
theorem compactL_last (l : List α) : (compactL l).getLast? = l.getLast? := by
 induction l using snoc_ind with
 | nil => rfl
 | snoc l d ih =>
  rw [compactL_snoc, compStep]
  split
  ·rename_i h; rw [h]; simp
  ·simp
theorem compactL_succ {s : List α} {k : Nat} {y z : α} (hz : s[k]? = some z) (hy : s[k + 1]? = some y) : compactL (s.take (k + 2)) = if z = y then compactL (s.take (k + 1)) else compactL (s.take (k + 1)) ++ [y] := by
 have e : (s.take (k + 1)).getLast? = some z := by rw [take_snoc hz]; simp
 rw [take_snoc hy, compactL_snoc, compStep, compactL_last, e]
 simp only [Option.some.injEq]
/-- part way: the first stretch -/
theorem comp_more {s : List α} {k : Nat} {y z : α} (hz : s[k - 1]? = some z) (hy : s[k]? = some y) (hk : 1 ≤ k) (h : compactL (s.take k) = s.take k) (hne : ¬ y = z) : compactL (s.take (k + 1)) = s.take (k + 1) := by
 obtain ⟨m, rfl⟩ : ∃ m, k = m + 1 := ⟨k - 1, by omega⟩
 rw [Nat.add_sub_cancel] at hz
 rw [show m + 1 + 1 = m + 2 from rfl, compactL_succ hz hy, if_neg (fun e => hne e.symm), h, ← take_snoc hy]
theorem comp_one {s : List α} (h : 1 ≤ s.length) : compactL (s.take 1) = s.take 1 := by
 cases s with
 | nil => simp at h
 | cons a s => simp [compactL, compStep]
theorem comp_short {s : List α} (h : s.length < 2) : compactL s = s := by
 match s, h with
 | [], _ => rfl
 | [a], _ => simp [compactL, compStep]
structure Comp (s ys : List α) (i j : Nat) : Prop where
 len : ys.length = s.length
 le : i + 1 ≤ j
 le2 : j ≤ s.length
 head : ys.take i = compactL (s.take j)
 tail : ys.drop (j - 1) = s.drop (j - 1)
theorem Comp.start {s : List α} {k : Nat} {y z : α} (hz : s[k - 1]? = some z) (hy : s[k]? = some y) (hk : 1 ≤ k) (h : compactL (s.take k) = s.take k) (he : y = z) : Comp s s k (k + 1) := by
 obtain ⟨h1, _⟩ := List.getElem?_eq_some_iff.1 hy
 refine ⟨rfl, Nat.le_refl _, by omega, ?_, rfl⟩
 obtain ⟨m, rfl⟩ : ∃ m, k = m + 1 := ⟨k - 1, by omega⟩
 rw [Nat.add_sub_cancel] at hz
 rw [show m + 1 + 1 = m + 2 from rfl, compactL_succ hz hy, if_pos he.symm, h]
theorem Comp.get {s ys : List α} {i j : Nat} (d : Comp s ys i j) {y : α} {n : Nat} (hn : j - 1 ≤ n) (h : ys[n]? = some y) : s[n]? = some y := by
 have h1 := congrArg (fun l : List α => l[n - (j - 1)]?) d.tail
 simp only [List.getElem?_drop] at h1
 rw [show j - 1 + (n - (j - 1)) = n by omega] at h1
 rw [← h1]; exact h
theorem Comp.keep {s ys : List α} {i j : Nat} (d : Comp s ys i j) {y z : α} (h : ys[j]? = some y) (hz : ys[j - 1]? = some z) (hne : ¬ y = z) : Comp s (ys.set i y) (i + 1) (j + 1) := by
 obtain ⟨h1, _⟩ := List.getElem?_eq_some_iff.1 h
 have hl := d.len; have hle := d.le; have hle2 := d.le2
 have g1 := d.get (by omega) h
 have g2 := d.get (Nat.le_refl _) hz
 refine ⟨by rw [List.length_set]; exact d.len, by omega, by omega, ?_, ?_⟩
 ·obtain ⟨m, rfl⟩ : ∃ m, j = m + 1 := ⟨j - 1, by omega⟩
  rw [Nat.add_sub_cancel] at g2
  rw [show m + 1 + 1 = m + 2 from rfl, compactL_succ g2 g1, if_neg (fun e => hne e.symm), ← d.head]
  have e : (ys.set i y)[i]? = some y := by rw [List.getElem?_set]; simp; omega
  rw [take_snoc e, List.take_set_of_le (Nat.le_refl i)]
 ·rw [Nat.add_sub_cancel, List.drop_set_of_lt (by omega)]
  have := congrArg (List.drop 1) d.tail
  rw [List.drop_drop, List.drop_drop, show j - 1 + 1 = j by omega] at this
  exact this
theorem Comp.skip {s ys : List α} {i j : Nat} (d : Comp s ys i j) {y z : α} (h : ys[j]? = some y) (hz : ys[j - 1]? = some z) (he : y = z) : Comp s ys i (j + 1) := by
 obtain ⟨h1, _⟩ := List.getElem?_eq_some_iff.1 h
 have hl := d.len; have hle := d.le; have hle2 := d.le2
 have g1 := d.get (by omega) h
 have g2 := d.get (Nat.le_refl _) hz
 refine ⟨d.len, by omega, by omega, ?_, ?_⟩
 ·obtain ⟨m, rfl⟩ : ∃ m, j = m + 1 := ⟨j - 1, by omega⟩
  rw [Nat.add_sub_cancel] at g2
  rw [show m + 1 + 1 = m + 2 from rfl, compactL_succ g2 g1, if_pos he.symm, ← d.head]
 ·have := congrArg (List.drop 1) d.tail
  rw [List.drop_drop, List.drop_drop, show j - 1 + 1 = j by omega] at this
  rw [Nat.add_sub_cancel]; exact this
theorem Comp.fin {s ys : List α} {i j : Nat} (d : Comp s ys i j) (h : s.length ≤ j) : ys.take i = compactL s := by
 rw [d.head, List.take_of_length_le h]
end
end Go.Pk

namespace Go.Pk
open Go Go.RowKit
section
variable {α : Type} [DecidableEq α]
structure TLt (lt : α → α → Bool) : Prop where
 irrefl : ∀ a, lt a a = false
 trans : ∀ a b c, lt a b = true → lt b c = true → lt a c = true
 total : ∀ a b, a ≠ b → lt a b = true ∨ lt b a = true
def insBy (lt : α → α → Bool) (l : List α) (x : α) : List α := if (l.dropWhile fun a => lt a x).head? = some x then l else (l.takeWhile fun a => lt a x) ++ [x] ++ (l.dropWhile fun a => lt a x)
/-- in order, each once -/
def setL (lt : α → α → Bool) (l : List α) : List α := l.foldl (insBy lt) []
variable {lt : α → α → Bool}
theorem setL_snoc (l : List α) (x : α) : setL lt (l ++ [x]) = insBy lt (setL lt l) x := by simp [setL]
omit [DecidableEq α] in
theorem TLt.asymm (T : TLt lt) {a b : α} (h : lt a b = true) : lt b a = false := by
 cases e : lt b a with
 | false => rfl
 | true => have := T.trans _ _ _ h e; rw [T.irrefl] at this; cases this
omit [DecidableEq α] in
theorem while_at {p : α → Bool} {l : List α} {k : Nat} (h1 : ∀ j y, j < k → l[j]? = some y → p y = true) (h2 : ∀ y, l[k]? = some y → p y = false) : l.takeWhile p = l.take k ∧ l.dropWhile p = l.drop k := by
 induction l generalizing k with
 | nil => simp
 | cons a l ih =>
  cases k with
  | zero =>
   have := h2 a (by simp)
   simp [this]
  | succ k =>
   have h0 := h1 0 a (by omega) (by simp)
   obtain ⟨e1, e2⟩ := ih (k := k) (fun j y hj hy => h1 (j + 1) y (by omega) (by simpa using hy)) (fun y hy => h2 y (by simpa using hy))
   simp [h0, e1, e2]
/-- what the document's loop finds -/
theorem insBy_new {l : List α} {x : α} {k : Nat} (h1 : ∀ j y, j < k → l[j]? = some y → lt y x = true) (h2 : ∀ y, l[k]? = some y → lt y x = false) (h3 : l[k]? ≠ some x) : insBy lt l x = l.take k ++ [x] ++ l.drop k := by
 obtain ⟨e1, e2⟩ := while_at (p := fun a => lt a x) h1 h2
 rw [insBy, e1, e2, if_neg]
 rw [List.head?_drop]; exact h3
theorem insBy_old {l : List α} {x : α} {k : Nat} (h1 : ∀ j y, j < k → l[j]? = some y → lt y x = true) (h2 : ∀ y, l[k]? = some y → lt y x = false) (h3 : l[k]? = some x) : insBy lt l x = l := by
 obtain ⟨e1, e2⟩ := while_at (p := fun a => lt a x) h1 h2
 rw [insBy, e2, if_pos]
 rw [List.head?_drop]; exact h3
theorem insBy_mem {l : List α} {x y : α} : y ∈ insBy lt l x ↔ y ∈ l ∨ y = x := by
 unfold insBy
 split
 ·rename_i h
  have : x ∈ l.dropWhile fun a => lt a x := List.mem_of_mem_head? h
  have hx : x ∈ l := (List.dropWhile_sublist _).subset this
  constructor
  ·exact .inl
  ·rintro (h | rfl)
   ·exact h
   ·exact hx
 ·have e : l = (l.takeWhile fun a => lt a x) ++ (l.dropWhile fun a => lt a x) := (List.takeWhile_append_dropWhile).symm
  have : y ∈ l ↔ y ∈ (l.takeWhile fun a => lt a x) ∨ y ∈ (l.dropWhile fun a => lt a x) := by
   rw [← List.mem_append, ← e]
  rw [this]
  simp only [List.mem_append, List.mem_singleton]
  constructor
  ·rintro ((h | h) | h)
   ·exact .inl (.inl h)
   ·exact .inr h
   ·exact .inl (.inr h)
  ·rintro ((h | h) | h)
   ·exact .inl (.inl h)
   ·exact .inr h
   ·exact .inl (.inr h)
theorem insBy_sorted (T : TLt lt) {l : List α} {x : α} (hs : l.Pairwise fun a b => lt a b = true) : (insBy lt l x).Pairwise fun a b => lt a b = true := by
 unfold insBy
 split
 ·exact hs
 ·rename_i hne
  have e : l = (l.takeWhile fun a => lt a x) ++ (l.dropWhile fun a => lt a x) := (List.takeWhile_append_dropWhile).symm
  have hs' := hs
  rw [e] at hs'
  obtain ⟨s1, s2, s3⟩ := List.pairwise_append.1 hs'
  have ht : ∀ a ∈ l.takeWhile (fun a => lt a x), lt a x = true := by
   intro a ha
   have := List.all_takeWhile (l := l) (p := fun a => lt a x)
   exact List.all_eq_true.1 this a ha
  have hd : ∀ b ∈ l.dropWhile (fun a => lt a x), lt x b = true := by
   cases hD : l.dropWhile (fun a => lt a x) with
   | nil => simp
   | cons c D =>
    have hc : ¬ lt c x = true := by
     have := List.head?_dropWhile_not (fun a => lt a x) l
     rw [hD] at this; simpa using this
    have hcx : c ≠ x := by
     intro q; rw [hD, q] at hne; exact hne rfl
    have h1 : lt x c = true := (T.total x c (Ne.symm hcx)).resolve_right hc
    intro b hb
    rcases List.mem_cons.1 hb with rfl | hb
    ·exact h1
    ·rw [hD] at s2
     exact T.trans _ _ _ h1 ((List.pairwise_cons.1 s2).1 b hb)
  rw [List.append_assoc]
  refine List.pairwise_append.2 ⟨s1, List.pairwise_append.2 ⟨by simp, s2, ?_⟩, ?_⟩
  ·intro a ha b hb
   simp at ha; subst ha
   exact hd b hb
  ·intro a ha b hb
   rcases List.mem_append.1 hb with hb | hb
   ·simp at hb; subst hb; exact ht a ha
   ·exact s3 a ha b hb
theorem setL_sorted (T : TLt lt) (l : List α) : (setL lt l).Pairwise fun a b => lt a b = true := by
 induction l using snoc_ind with
 | nil => exact List.Pairwise.nil
 | snoc l d ih => rw [setL_snoc]; exact insBy_sorted T ih
theorem setL_mem {l : List α} {y : α} : y ∈ setL lt l ↔ y ∈ l := by
 induction l using snoc_ind with
 | nil => simp [setL]
 | snoc l d ih => rw [setL_snoc, insBy_mem, ih]; simp
omit [DecidableEq α] in
theorem strict_eq (T : TLt lt) {a b : List α} (ha : a.Pairwise fun x y => lt x y = true) (hb : b.Pairwise fun x y => lt x y = true) (h : ∀ x, x ∈ a ↔ x ∈ b) : a = b := by
 have na : a.Nodup := ha.imp (fun h e => by subst e; rw [T.irrefl] at h; cases h)
 have nb : b.Nodup := hb.imp (fun h e => by subst e; rw [T.irrefl] at h; cases h)
 refine List.Perm.eq_of_pairwise (le := fun x y => lt x y = true) (fun x y _ _ h1 h2 => by have := T.asymm h1; rw [h2] at this; cases this) ha hb ((List.perm_ext_iff_of_nodup na nb).2 h)
theorem setL_len (T : TLt lt) (l : List α) : (setL lt l).length ≤ l.length := by
 induction l using snoc_ind with
 | nil => simp [setL]
 | snoc l d ih =>
  rw [setL_snoc, insBy]
  split
  ·simp; omega
  ·have e := congrArg List.length (List.takeWhile_append_dropWhile (p := fun a => lt a d) (l := setL lt l))
   simp only [List.length_append] at e ⊢
   simp only [List.length_cons, List.length_nil]; omega
theorem compactL_mem {l : List α} : ∀ {y : α}, y ∈ compactL l ↔ y ∈ l := by
 induction l using snoc_ind with
 | nil => simp [compactL]
 | snoc l d ih =>
  intro y
  rw [compactL_snoc, compStep]
  split
  ·rename_i h
   rw [ih]
   have : d ∈ compactL l := List.mem_of_getLast? h
   rw [ih] at this
   constructor
   ·intro h; simp [h]
   ·intro h
    rcases List.mem_append.1 h with h | h
    ·exact h
    ·simp at h; subst h; exact this
  ·simp [ih]
theorem compactL_sorted (T : TLt lt) {l : List α} (hs : l.Pairwise fun a b => lt b a = false) : (compactL l).Pairwise fun a b => lt a b = true := by
 induction l using snoc_ind with
 | nil => exact List.Pairwise.nil
 | snoc l d ih =>
  obtain ⟨s1, _, s3⟩ := List.pairwise_append.1 hs
  rw [compactL_snoc, compStep]
  split
  ·exact ih s1
  ·rename_i hne
   refine List.pairwise_append.2 ⟨ih s1, by simp, fun a ha b hb => ?_⟩
   simp at hb; subst hb
   have hal : a ∈ l := compactL_mem.1 ha
   have h1 := s3 a hal b (by simp)
   by_cases e : a = b
   ·exfalso
    subst e
    rw [compactL_last] at hne
    cases hL : l.getLast? with
    | none => rw [List.getLast?_eq_none_iff] at hL; subst hL; cases hal
    | some z =>
     rw [hL] at hne
     have hz : z ∈ l := List.mem_of_getLast? hL
     have h2 := s3 z hz a (by simp)
     -- a comes ahead of z, or is it
     have h3 : lt z a = false := by
      obtain ⟨i, hi⟩ := List.mem_iff_getElem?.1 hal
      rw [List.getLast?_eq_getElem?] at hL
      obtain ⟨i1, i2⟩ := List.getElem?_eq_some_iff.1 hi
      obtain ⟨z1, z2⟩ := List.getElem?_eq_some_iff.1 hL
      rcases Nat.lt_or_ge i (l.length - 1) with h | h
      ·have := List.pairwise_iff_getElem.1 s1 i (l.length - 1) i1 z1 h
       rw [i2, z2] at this; exact this
      ·have : i = l.length - 1 := by omega
       subst this
       rw [i2] at z2; subst z2; exact T.irrefl _
     by_cases e2 : z = a
     ·exact hne (by rw [e2])
     ·rcases T.total z a e2 with q | q
      ·rw [q] at h3; cases h3
      ·rw [q] at h2; cases h2
   ·rcases T.total a b e with q | q
    ·exact q
    ·rw [q] at h1; cases h1
theorem setOf_compact (T : TLt lt) {xs ys : List α} (hp : ys.Perm xs) (hs : ys.Pairwise fun a b => lt b a = false) : compactL ys = setL lt xs :=
 strict_eq T (compactL_sorted T hs) (setL_sorted T xs) (fun x => by rw [compactL_mem, setL_mem]; exact hp.mem_iff)
end
theorem sLt_eq (a b : Str) : sLt a b = decide (a < b) := Go.Proofs.bytesLess_eq a b
theorem sLt_nil (a : Str) : sLt a [] = false := by cases a <;> rfl
theorem cmpS_lt : ∀ (a b : Str), decide (cmpS a b < 0) = sLt a b
 | [], [] => rfl
 | [], _ :: _ => rfl
 | _ :: _, [] => rfl
 | x :: a, y :: b => by
  have ih := cmpS_lt a b
  simp only [cmpS, sLt, Lib.compareBytes, Op.bytesLess] at ih ⊢
  by_cases h1 : x < y
  ·simp [h1]
  ·by_cases h2 : y < x
   ·have : ¬ x = y := by rintro rfl; exact h1 h2
    simp [h1, h2, this]
   ·have : x = y := by
     apply UInt8.le_antisymm
     ·exact UInt8.not_lt.1 h2
     ·exact UInt8.not_lt.1 h1
    subst this
    have h1' : ¬ x < x := h1
    simp only [h1', if_false, beq_self_eq_true, Bool.true_and, decide_false, Bool.false_or]; exact ih
theorem cmpS_eq : ∀ (a b : Str), cmpS a b = 0 ↔ a = b
 | [], [] => by simp [cmpS, Lib.compareBytes]
 | [], _ :: _ => by simp [cmpS, Lib.compareBytes]
 | _ :: _, [] => by simp [cmpS, Lib.compareBytes]
 | x :: a, y :: b => by
  have ih := cmpS_eq a b
  simp only [cmpS, Lib.compareBytes] at ih ⊢
  by_cases h1 : x < y
  ·have : ¬ x = y := by rintro rfl; exact absurd h1 (UInt8.lt_irrefl _)
   simp [h1, this]
  ·by_cases h2 : y < x
   ·have : ¬ x = y := by rintro rfl; exact h1 h2
    simp [h1, h2, this]
   ·have : x = y := by
     apply UInt8.le_antisymm
     ·exact UInt8.not_lt.1 h2
     ·exact UInt8.not_lt.1 h1
    subst this
    simp [h1, ih]
theorem cmpS_bound : ∀ (a b : Str), -1 ≤ cmpS a b ∧ cmpS a b ≤ 1
 | [], [] => by simp [cmpS, Lib.compareBytes]
 | [], _ :: _ => by simp [cmpS, Lib.compareBytes]
 | _ :: _, [] => by simp [cmpS, Lib.compareBytes]
 | x :: a, y :: b => by
  have ih := cmpS_bound a b
  simp only [cmpS, Lib.compareBytes] at ih ⊢
  repeat' split
  all_goals omega
theorem sLt_T : TLt sLt := by
 refine ⟨fun a => ?_, fun a b c => ?_, fun a b h => ?_⟩
 ·rw [sLt_eq]; simp [List.lt_irrefl]
 ·rw [sLt_eq, sLt_eq, sLt_eq]; simp only [decide_eq_true_eq]; exact fun h1 h2 => List.lt_trans h1 h2
 ·rw [sLt_eq, sLt_eq]; simp only [decide_eq_true_eq]
  by_cases h1 : a < b
  ·exact .inl h1
  ·by_cases h2 : b < a
   ·exact .inr h2
   ·exact absurd (List.le_antisymm (List.not_lt.1 h2) (List.not_lt.1 h1)) h
theorem headLt_T : TLt headLt := by
 refine ⟨fun a => ?_, fun a b c h1 h2 => ?_, fun a b h => ?_⟩
 ·simp [headLt, sLt_T.irrefl]
 ·simp only [headLt, Bool.or_eq_true, Bool.and_eq_true, decide_eq_true_eq] at *
  rcases h1 with h1 | ⟨e1, h1⟩
  ·rcases h2 with h2 | ⟨e2, h2⟩
   ·exact .inl (sLt_T.trans _ _ _ h1 h2)
   ·exact .inl (e2 ▸ h1)
  ·rcases h2 with h2 | ⟨e2, h2⟩
   ·exact .inl (by rw [e1]; exact h2)
   ·exact .inr ⟨e1.trans e2, by omega⟩
 ·simp only [headLt, Bool.or_eq_true, Bool.and_eq_true, decide_eq_true_eq]
  rcases a with ⟨s, m⟩; rcases b with ⟨s', m'⟩
  by_cases e : s = s'
  ·subst e
   have hm : m ≠ m' := fun q => h (by rw [q])
   rcases Int.lt_or_gt_of_ne hm with q | q
   ·exact .inl (.inr ⟨rfl, q⟩)
   ·exact .inr (.inr ⟨rfl, q⟩)
  ·rcases sLt_T.total s s' e with q | q
   ·exact .inl (.inl q)
   ·exact .inr (.inl q)
theorem cmpHead_lt (a b : Head) : decide (cmpHead a b < 0) = headLt a b := by
 unfold cmpHead headLt
 rw [← cmpS_lt]
 by_cases h : cmpS a.stem b.stem = 0
 ·have e := (cmpS_eq _ _).1 h
  have h' : ¬ cmpS a.stem b.stem ≠ 0 := by simp [h]
  simp only [if_neg h', h, e]
  have e2 : cmpS b.stem b.stem = 0 := (cmpS_eq _ _).2 rfl
  have e3 : sLt b.stem b.stem = false := sLt_T.irrefl _
  rw [← cmpS_lt] at e3
  rw [e3]; simp only [decide_true, Bool.true_and, Bool.false_or, decide_eq_decide]; omega
 ·have e : ¬ a.stem = b.stem := fun q => h ((cmpS_eq _ _).2 q)
  simp only [if_pos h, e]; simp
theorem swo_head : Go.Sort.SWO (Go.Proofs.ltOf cmpHead) := by
 have e : Go.Proofs.ltOf cmpHead = headLt := by funext a b; exact cmpHead_lt a b
 rw [e]
 refine ⟨headLt_T.irrefl, headLt_T.trans, fun a b c h1 h2 => ?_⟩
 cases h : headLt a c with
 | false => rfl
 | true =>
  by_cases e1 : a = b
  ·subst e1; rw [h] at h2; cases h2
  ·rcases headLt_T.total a b e1 with q | q
   ·rw [q] at h1; cases h1
   ·have := headLt_T.trans _ _ _ q h; rw [this] at h2; cases h2
/-- the lists of the document -/
def headsN (t : Text) (x : Lexicon) : List Head := if checkN t x = 0 then setL headLt (headsL t x) else []
def underP (t : Text) (x : Lexicon) (hd : Head) : List Place := (placesT t).filter fun p => decide (headAt t x p = hd)
def underE (t : Text) (x : Lexicon) (hd : Head) : Int := if checkN t x = 0 then (if headB hd = true then (if underP t x hd = [] then 6 else 0) else 2) else checkN t x
def underR (t : Text) (x : Lexicon) (hd : Head) : List Place := if underE t x hd = 0 then underP t x hd else []
def underN (t : Text) (x : Lexicon) (hd : Head) : List Entry := if underE t x hd = 0 then (entriesL t x).filter fun y => !decide (y.head ≠ hd) else []
def formsR (t : Text) (x : Lexicon) (hd : Head) : List Str := if underE t x hd = 0 then setL sLt ((underP t x hd).map (wordD t)) else []
theorem under_filter (t : Text) (x : Lexicon) (hd : Head) : ((entriesL t x).filter fun y => !decide (y.head ≠ hd)) = (underP t x hd).map (entryAt t x) := by
 rw [entriesL, underP, List.filter_map]
 congr 1
 apply List.filter_congr
 intro p _
 simp only [entryAt, Function.comp]
 by_cases e : headAt t x p = hd <;> simp [e]
theorem entries_len {t : Text} (ht : textB t = true) (x : Lexicon) : (entriesL t x).length ≤ 600 := by rw [entriesL, List.length_map]; exact places_len ht
theorem under_check {t : Text} {x : Lexicon} {hd : Head} (h : underE t x hd = 0) : checkN t x = 0 := by
 unfold underE at h
 split at h
 ·assumption
 ·rename_i q; exact absurd h q
theorem setOf_sort (l : List Str) : compactL (l.mergeSort fun a b => decide (a ≤ b)) = setL sLt l := by
 refine setOf_compact sLt_T (List.mergeSort_perm _ _) ?_
 have h := List.pairwise_mergeSort (le := fun a b : Str => decide (a ≤ b)) (by intro a b c h1 h2; simp only [decide_eq_true_eq] at *; exact List.le_trans h1 h2) (by intro a b; simp only [Bool.or_eq_true, decide_eq_true_eq]; exact List.le_total a b) l
 refine h.imp fun h => ?_
 rw [sLt_eq]; simp only [decide_eq_true_eq] at h; simpa using h
end Go.Pk

namespace Go.Pk
theorem X {α : Sort _} {a : α} : a = a := rfl
theorem t_kr {p : Prop} (h : p := by kernel_rfl) : p := h
theorem zZ {p : Prop} (h : p := by first | assumption | (simp [big]; done) | (simp [big]; omega) | omega) : p := h
theorem t_u8 {p : Prop} (h : p := by first | assumption | decide | omega | (dsimp only; omega) | (simp; omega)) : p := h
theorem t_om {p : Prop} (h : p := by first | omega | (simp; omega)) : p := h
theorem t_len {p : Prop} (h : p := by first | omega | (simp only [List.length_append, List.length_take, List.length_drop, List.length_map, List.length_cons, List.length_nil]; omega) | (simp; omega)) : p := h
theorem zag {p : Prop} (h : p := by repeat (first | exact Agree.mix _ _ _ | exact Agree.refl _ _ | refine Agree.updO rfl ?_ | refine Agree.upd rfl ?_ | refine Agree.known rfl ?_ | refine Agree.sub rfl ?_)) : p := h
theorem zak {p : Prop} (h : p := by first | omega | simp | trivial) : p := h
end Go.Pk
