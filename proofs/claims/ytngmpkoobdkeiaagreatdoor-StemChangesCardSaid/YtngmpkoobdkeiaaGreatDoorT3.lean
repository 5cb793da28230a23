/- A PART OF THE PROOF: contracts of functions, each walked once (much of it printed by a program of the author's own). -/
import Derived.Test.YtngmpkoobdkeiaaGreatDoorT1
import Derived.Test.YtngmpkoobdkeiaaGreatDoorT2
import Derived.Laws.CopyRow
import Derived.Sort.Walk0
namespace Go.Pk
open Go Go.RowKit
section
variable {α : Type} {L : Lay α} {T : TypeId} {h : Heap}
def vtake : Value → Nat → Value
 | .slice p _ c, k => .slice p k c
 | v, _ => v
def vdrop (s : Nat) : Value → Nat → Value
 | .slice p n c, k => .slice (if c = k then p else p.map (·.add (k * s))) (n - k) (c - k)
 | v, _ => v
theorem Enc.take {cs : List Value} {xs : List α} (e : Enc L h cs xs) {k : Nat} (hk : k ≤ xs.length) : Enc L h (cs.take (k * L.size)) (xs.take k) := by
 have hle : k * L.size ≤ cs.length := by rw [e.1]; exact Nat.mul_le_mul_right _ hk
 refine ⟨by rw [List.length_take, List.length_take, Nat.min_eq_left hle, Nat.min_eq_left hk], fun i x hi => ?_⟩
 have hik : i < k := by
  rw [List.getElem?_take] at hi
  split at hi
  ·assumption
  ·cases hi
 rw [List.getElem?_take, if_pos hik] at hi
 have hr := e.2 i x hi
 have h1 : i * L.size + L.size ≤ k * L.size := by rw [← Nat.succ_mul]; exact Nat.mul_le_mul_right _ hik
 rw [List.drop_take, List.take_take, Nat.min_eq_left (by omega)]
 exact hr
theorem Enc.drop {cs : List Value} {xs : List α} (e : Enc L h cs xs) (k : Nat) : Enc L h (cs.drop (k * L.size)) (xs.drop k) := by
 refine ⟨by rw [List.length_drop, List.length_drop, e.1, Nat.sub_mul], fun i x hi => ?_⟩
 rw [List.getElem?_drop] at hi
 have hr := e.2 _ x hi
 rw [List.drop_drop, ← Nat.add_mul]
 exact hr
theorem Enc.set {cs vs : List Value} {xs : List α} {i : Nat} {y : α} (e : Enc L h cs xs) (hi : i < xs.length) (hr : L.R h vs y) : Enc L h (cs.take (i * L.size) ++ vs ++ cs.drop ((i + 1) * L.size)) (xs.set i y) := by
 rw [List.set_eq_take_append_cons_drop, if_pos hi]
 have h1 := ((e.take (Nat.le_of_lt hi)).append (Enc.one1 hr)).append (e.drop (i + 1))
 rw [List.append_assoc (xs.take i)] at h1
 exact h1
theorem OSl.take {v : Value} {xs : List α} {o : List (Nat × Obj)} (e : OSl L T h v xs o) {k : Nat} (hk : k ≤ xs.length) : OSl L T h (vtake v k) (xs.take k) o := by
 obtain ⟨cs, e1, ⟨⟨p, rfl⟩, rfl, rfl⟩ | ⟨g, cap, cur, rfl, rfl, hnc, hcm, hsz, htk⟩⟩ := e
 ·have : k = 0 := by simpa using hk
  subst this
  exact ⟨[], ⟨by simp, by simp⟩, .inl ⟨⟨p, rfl⟩, by simp, rfl⟩⟩
 ·have hl : (xs.take k).length = k := by rw [List.length_take, Nat.min_eq_left hk]
  refine ⟨_, e1.take hk, .inr ⟨g, cap, cur, by rw [hl]; rfl, rfl, by omega, hcm, hsz, ?_⟩⟩
  rw [hl, ← htk, List.take_take, Nat.min_eq_left (Nat.mul_le_mul_right _ hk)]
/-- an element of the rest of a slice -/
theorem Elem.drop {v : Value} {k j s b o : Nat} (e : Elem v (k + j) s b o) (hc : ∀ p n c, v = .slice p n c → n ≤ c) : Elem (vdrop s v k) j s b o := by
 obtain ⟨off, n, c, rfl, hlt, rfl⟩ := e
 have := hc _ _ _ rfl
 refine ⟨off + k * s, n - k, c - k, ?_, by omega, by rw [Nat.add_mul]; omega⟩
 simp only [vdrop]
 rw [if_neg (by omega)]
 simp [addr_add]
theorem Elem.drop' {v : Value} {k j m s b o : Nat} (e : Elem v m s b o) (hm : m = k + j) (hc : ∀ p n c, v = .slice p n c → n ≤ c) : Elem (vdrop s v k) j s b o := by
 subst hm; exact e.drop hc
theorem OSl.caps {v : Value} {xs : List α} {o : List (Nat × Obj)} (e : OSl L T h v xs o) : ∀ p n c, v = .slice p n c → n ≤ c := by
 rintro p n c rfl
 obtain ⟨cs, e1, ⟨⟨q, e2⟩, rfl, rfl⟩ | ⟨g, cap, cur, e2, rfl, hnc, hcm, hsz, htk⟩⟩ := e
 ·cases e2; exact Nat.le_refl _
 ·cases e2; exact hnc
theorem OSl.len {v : Value} {xs : List α} {o : List (Nat × Obj)} (e : OSl L T h v xs o) : ∀ p n c, v = .slice p n c → n = xs.length := by
 rintro p n c rfl
 obtain ⟨q, c', e2⟩ := e.form
 cases e2; rfl
end
section
variable {P : Program} {n : Nat} {ops : Array Oper} {rest : List Oper} {K : Env → World → Prop} {σ : Env} {w w0 : World} {h0 h : Heap} {own : Own} {ty : TypeId} {pos : String} {aft : Array Edge} {d : Nat} {dst : Option Tmp} {g : Option (Nat × Bool)}
theorem r_slice_to_own {α : Type} {L : Lay α} {T : TypeId} {xs : List α} {v : Value} {o : List (Nat × Obj)} {t e : TypeId} {x hi_ : Operand} {i : Int} {k m : Nat} (hO : OSl L T h v xs o) (hx : ev σ x = v) (hi : ev σ hi_ = .int .i64 i) (hk : i = (k : Int)) (hle : k ≤ xs.length) (hu : P.underlying t = some (.slice e)) (hz : ∀ w, (sizeOf e).run P w = .ok m w) :
  Run P σ w ⟨dst, .slice t x none (some hi_) none, ty, pos, aft, g⟩ (vtake v k) w := by
 subst hk
 obtain ⟨p, c, rfl⟩ := hO.form
 have hc := hO.caps _ _ _ rfl
 have h1 : k ≤ c := by omega
 cases p <;> simp [Run, execOp, hx, hi, Instr.sliceAt, Instr.slice, run_underlying hu, Instr.sliceBounds, Instr.sliceBound, asIntOf, hz, h1, vtake]
 rename_i a
 intro _
 cases a
 rfl
theorem r_slice_from_own {α : Type} {L : Lay α} {T : TypeId} {xs : List α} {v : Value} {o : List (Nat × Obj)} {t e : TypeId} {x lo : Operand} {i : Int} {k m : Nat} (hO : OSl L T h v xs o) (hx : ev σ x = v) (hi : ev σ lo = .int .i64 i) (hk : i = (k : Int)) (hle : k ≤ xs.length) (hu : P.underlying t = some (.slice e)) (hz : ∀ w, (sizeOf e).run P w = .ok m w) :
  Run P σ w ⟨dst, .slice t x (some lo) none none, ty, pos, aft, g⟩ (vdrop m v k) w := by
 subst hk
 obtain ⟨p, c, rfl⟩ := hO.form
 have h1 : k ≤ xs.length := hle
 simp [Run, execOp, hx, hi, Instr.sliceAt, Instr.slice, run_underlying hu, Instr.sliceBounds, Instr.sliceBound, asIntOf, hz, h1, vdrop]
theorem r_len_vdrop {v : Value} {t e : TypeId} {x : Operand} {s k len : Nat} (hx : ev σ x = vdrop s v k) (hl : ∃ p c, v = .slice p len c) (hu : P.underlying t = some (.slice e)) :
  Run P σ w ⟨dst, .call ⟨.builtin .len, #[x], #[t]⟩, ty, pos, aft, g⟩ (.int .i64 ((len - k : Nat) : Int)) w := by
 obtain ⟨p, c, rfl⟩ := hl
 exact r_len_sl hx hu
/-- an element of one's own slice turns -/
theorem spliced_split : ∀ (us pre : List Value) (cs : List Value), us.length ≤ cs.length → spliced (pre ++ cs) pre.length us = pre ++ us ++ cs.drop us.length
 | [], pre, cs, _ => by simp [spliced]
 | u :: us, pre, [], h => by simp at h
 | u :: us, pre, c :: cs, h => by
  have ih := spliced_split us (pre ++ [u]) cs (by simpa using h)
  simp only [List.length_append, List.length_cons, List.length_nil, Nat.zero_add] at ih
  rw [spliced, List.set_append_right _ _ (Nat.le_refl _), Nat.sub_self, List.set_cons_zero]
  rw [show pre ++ u :: cs = pre ++ [u] ++ cs by simp, ih]
  simp
theorem spliced_eq' {cs us : List Value} {off : Nat} (h : off + us.length ≤ cs.length) : spliced cs off us = cs.take off ++ us ++ cs.drop (off + us.length) := by
 have h1 := spliced_split us (cs.take off) (cs.drop off) (by rw [List.length_drop]; omega)
 rw [List.take_append_drop, List.length_take, Nat.min_eq_left (by omega), List.drop_drop] at h1
 exact h1
theorem OpsL.storeEl {α : Type} {L : Lay α} {T : TypeId} {v : Value} {xs : List α} {o : List (Nat × Obj)} {k i b off : Nat} {y0 : α} {us : List Value} {t : TypeId} {x y : Operand} (st : St h0 w0 h w own) (hO : OSl L T h v xs o) (hk : own[k]? = some o) (hi : i < xs.length) (he : Elem v i L.size b off)
  (hx : ev σ x = .pointer (some ⟨b, off, none⟩)) (hy : ev σ y = .agg us.toArray) (hR : L.R h us y0) (hz : ∀ w, (sizeOf t).run P w = .ok us.length w)
  (hK : ∀ o' w' own', own' = own.set k o' → OSl L T h v (xs.set i y0) o' → St h0 w0 h w' own' → OpsL P n ops rest K σ w') : OpsL P n ops (⟨none, .store t x y, ty, pos, aft, none⟩ :: rest) K σ w := by
 obtain ⟨cs, e1, ⟨⟨p, rfl⟩, rfl, rfl⟩ | ⟨gb, cap, cur, rfl, rfl, hnc, hcm, hsz, htk⟩⟩ := hO
 ·simp at hi
 ·obtain ⟨off0, n', c', e2, hlt, rfl⟩ := he
  cases e2
  have hul := L.len hR
  have h1 : (i + 1) * L.size ≤ xs.length * L.size := Nat.mul_le_mul_right _ hi
  have h2 : xs.length * L.size ≤ cap * L.size := Nat.mul_le_mul_right _ hnc
  rw [Nat.succ_mul] at h1
  have hcl : cur.toList.length = cap * L.size := by rw [Array.length_toList, hsz]
  have ho : (0 + i * L.size) + us.length ≤ cur.toList.length := by rw [hcl]; have hul' : us.length = L.size := hul; omega
  have hk' : own[k]? = some [(b, .cells cur.toList.toArray T)] := by simpa using hk
  have hsp := spliced_eq' ho
  refine zB st hk' hx hy (by rw [List.all_eq_true]; exact fun u hu => L.one hR u hu) hz (by simpa using ho) hsp rfl fun w' st' => ?_
  have hlen : (cur.toList.take (0 + i * L.size)).length = i * L.size := by rw [List.length_take, hcl]; omega
  refine hK _ _ _ rfl ⟨_, e1.set hi hR, .inr ⟨b, cap, _, by rw [List.length_set], rfl, by rw [List.length_set]; exact hnc, hcm, ?_, ?_⟩⟩ st'
  ·simp only [List.size_toArray, List.length_append, hlen, List.length_drop, hcl]
   omega
  ·rw [List.length_set, ← htk]
   have e3 : (i + 1) * L.size = i * L.size + L.size := Nat.succ_mul _ _
   have hul' : us.length = L.size := hul
   rw [List.take_take, Nat.min_eq_left (by omega), e3, List.drop_take]
   rw [List.take_append, List.take_of_length_le (l := cur.toList.take (0 + i * L.size) ++ us) (by rw [List.length_append, hlen]; omega), List.length_append, hlen, hul', Nat.zero_add]
/-- the same where an element is one cell -/
theorem OpsL.storeEl1 {α : Type} {L : Lay α} {T : TypeId} {v : Value} {xs : List α} {o : List (Nat × Obj)} {k i b off : Nat} {y0 : α} {u : Value} {t : TypeId} {x y : Operand} (st : St h0 w0 h w own) (hO : OSl L T h v xs o) (hk : own[k]? = some o) (hi : i < xs.length) (he : Elem v i L.size b off)
  (hx : ev σ x = .pointer (some ⟨b, off, none⟩)) (hy : ev σ y = u) (hR : L.R h [u] y0) (hz : ∀ w, (sizeOf t).run P w = .ok 1 w)
  (hK : ∀ o' w' own', own' = own.set k o' → OSl L T h v (xs.set i y0) o' → St h0 w0 h w' own' → OpsL P n ops rest K σ w') : OpsL P n ops (⟨none, .store t x y, ty, pos, aft, none⟩ :: rest) K σ w := by
 obtain ⟨cs, e1, ⟨⟨p, rfl⟩, rfl, rfl⟩ | ⟨gb, cap, cur, rfl, rfl, hnc, hcm, hsz, htk⟩⟩ := hO
 ·simp at hi
 ·obtain ⟨off0, n', c', e2, hlt, rfl⟩ := he
  cases e2
  have hul := L.len hR
  have h1 : (i + 1) * L.size ≤ xs.length * L.size := Nat.mul_le_mul_right _ hi
  have h2 : xs.length * L.size ≤ cap * L.size := Nat.mul_le_mul_right _ hnc
  rw [Nat.succ_mul] at h1
  have hcl : cur.toList.length = cap * L.size := by rw [Array.length_toList, hsz]
  have hs1 : L.size = 1 := by rw [← hul]; rfl
  have ho : (0 + i * L.size) + [u].length ≤ cur.toList.length := by rw [hcl]; have hul' : [u].length = L.size := hul; omega
  have hk' : own[k]? = some [(b, .cells cur.toList.toArray T)] := by simpa using hk
  have hsp := spliced_eq' ho
  have hlen : (cur.toList.take (0 + i * L.size)).length = i * L.size := by rw [List.length_take, hcl]; omega
  have hlt' : 0 + i * L.size < cur.toList.length := by have h9 : [u].length = 1 := rfl; omega
  refine zas st hk' hx hy (L.one hR u (by simp)) hz (by simpa using hlt') rfl rfl fun w' st' => ?_
  refine hK _ _ _ rfl ⟨_, e1.set hi hR, .inr ⟨b, cap, _, by rw [List.length_set], rfl, by rw [List.length_set]; exact hnc, hcm, ?_, ?_⟩⟩ st'
  ·simp [hsz]
  ·have hset : cur.toList.set (0 + i * L.size) u = cur.toList.take (0 + i * L.size) ++ [u] ++ cur.toList.drop (0 + i * L.size + [u].length) := by
    rw [← hsp]; rfl
   rw [List.length_set, ← htk]
   have e3 : (i + 1) * L.size = i * L.size + L.size := Nat.succ_mul _ _
   rw [List.take_take, Nat.min_eq_left (by omega), e3, List.drop_take]
   have hul' : [u].length = L.size := hul
   show (cur.toList.set (0 + i * L.size) u).take (xs.length * L.size) = _
   rw [hset, List.take_append, List.take_of_length_le (l := cur.toList.take (0 + i * L.size) ++ [u]) (by rw [List.length_append, hlen]; omega), List.length_append, hlen, hul', Nat.zero_add]
def vsub (s : Nat) : Value → Nat → Nat → Value
 | .slice p _ c, l, m => .slice (if c = l then p else p.map (·.add (l * s))) (m - l) (c - l)
 | v, _, _ => v
theorem r_slice_lh_own {p : Option Addr} {len c : Nat} {v : Value} {t e : TypeId} {x lo hi_ : Operand} {i1 i2 : Int} {l m s : Nat} (hv : v = .slice p len c) (hx : ev σ x = v) (hi : ev σ lo = .int .i64 i1) (hj : ev σ hi_ = .int .i64 i2) (hl : i1 = (l : Int)) (hm : i2 = (m : Int)) (hlm : l ≤ m) (hmc : m ≤ c) (hu : P.underlying t = some (.slice e)) (hz : ∀ w, (sizeOf e).run P w = .ok s w) :
  Run P σ w ⟨dst, .slice t x (some lo) (some hi_) none, ty, pos, aft, g⟩ (vsub s v l m) w := by
 subst hl; subst hm; subst hv
 simp [Run, execOp, hx, hi, hj, Instr.sliceAt, Instr.slice, run_underlying hu, Instr.sliceBounds, Instr.sliceBound, asIntOf, hz, hlm, hmc, vsub]
theorem r_slice_lhm_own {p : Option Addr} {len c : Nat} {v : Value} {t e : TypeId} {x lo hi_ mx : Operand} {i1 i2 i3 : Int} {l m q s : Nat} (hv : v = .slice p len c) (hx : ev σ x = v) (hi : ev σ lo = .int .i64 i1) (hj : ev σ hi_ = .int .i64 i2) (hq : ev σ mx = .int .i64 i3) (hl : i1 = (l : Int)) (hm : i2 = (m : Int)) (hq2 : i3 = (q : Int)) (hlm : l ≤ m) (hmq : m ≤ q) (hmc : q ≤ c) (hu : P.underlying t = some (.slice e)) (hz : ∀ w, (sizeOf e).run P w = .ok s w) :
  Run P σ w ⟨dst, .slice t x (some lo) (some hi_) (some mx), ty, pos, aft, g⟩ (.slice (if q = l then p else p.map (·.add (l * s))) (m - l) (q - l)) w := by
 subst hl; subst hm; subst hq2; subst hv
 simp [Run, execOp, hx, hi, hj, hq, Instr.sliceAt, Instr.slice, run_underlying hu, Instr.sliceBounds, Instr.sliceBound, asIntOf, hz, hlm, hmc, hmq]
theorem set_same {own : Own} {k : Nat} {o : List (Nat × Obj)} (hk : own[k]? = some o) : own.set k o = own := by
 apply List.ext_getElem?
 intro q
 rw [List.getElem?_set]
 split
 ·rename_i e4; subst e4
  split
  ·exact hk.symm
  ·rename_i h5; rw [List.getElem?_eq_none (by omega)]
 ·rfl
/-- a part of one's own slice is cleared -/
theorem OpsL.clearSub {α : Type} {L : Lay α} {T : TypeId} {v : Value} {xs : List α} {o : List (Nat × Obj)} {k l m : Nat} {t e : TypeId} {z : Value} {x : Operand} (st : St h0 w0 h w own) (hO : OSl L T h v xs o) (hk : own[k]? = some o) (hlm : l ≤ m) (hmc : ∀ p n c, v = .slice p n c → m ≤ c)
  (hx : ev σ x = vsub L.size v l m) (ht : P.underlying t = some (.slice e)) (hz : ∀ w, (zeroValue e).run P w = .ok z w) (hzs : z.cells.size = L.size) (hz1 : ∀ u ∈ z.cells.toList, u.oneCell' = true)
  (hK : ∀ o' w' own', own' = own.set k o' → (∀ j, j ≤ l → j ≤ xs.length → OSl L T h (vtake v j) (xs.take j) o') → St h0 w0 h w' own' → OpsL P n ops rest K σ w') : OpsL P n ops (⟨none, .call ⟨.builtin .clear, #[x], #[t]⟩, ty, pos, aft, none⟩ :: rest) K σ w := by
 have hset := set_same hk
 have run (v' : Value) (w' : World) (hv : vsub L.size v l m = v') (hr : (Builtin.clear_ #[t] ty #[v']).run P w = .ok (.tuple #[]) w') : Run P σ w ⟨none, .call ⟨.builtin .clear, #[x], #[t]⟩, ty, pos, aft, none⟩ (.tuple #[]) w' := by
  refine run_bi rfl (vs := [v']) (by simp [hx, hv]) fun cs => ?_
  simp only [builtin, Sem.run_bind, hr, Result.andThen_ok, Sem.run_pure]
 obtain ⟨cs, e1, ⟨⟨p, rfl⟩, rfl, rfl⟩ | ⟨gb, cap, cur, rfl, rfl, hnc, hcm, hsz, htk⟩⟩ := hO
 ·have hm0 : m - l = 0 := by have := hmc _ _ _ rfl; omega
  refine Y rfl rfl (run _ w rfl ?_) (hK [] w _ rfl (fun j _ hj => ?_) (by rw [hset]; exact st))
  ·simp only [vsub, hm0]
   split <;> cases p <;> simp [Builtin.clear_, run_underlying ht]
  ·have : j = 0 := by simpa using hj
   subst this
   exact ⟨[], ⟨by simp, by simp⟩, .inl ⟨⟨p, rfl⟩, by simp, rfl⟩⟩
 ·have hmc := hmc _ _ _ rfl
  have hcl : cur.toList.length = cap * L.size := by rw [Array.length_toList, hsz]
  have fin : ∀ (cur' : Array Value) w', cur'.size = cap * L.size → cur'.toList.take (l * L.size) = cur.toList.take (l * L.size) → St h0 w0 h w' (own.set k [(gb, .cells cur' T)]) → OpsL P n ops rest K σ w' := by
   intro cur' w' h1 h2 s
   refine hK _ w' _ rfl (fun j hjl hj => ⟨_, e1.take hj, .inr ⟨gb, cap, cur', ?_, rfl, ?_, hcm, h1, ?_⟩⟩) s
   ·rw [List.length_take, Nat.min_eq_left hj]; rfl
   ·rw [List.length_take, Nat.min_eq_left hj]; omega
   ·have h3 := congrArg (List.take (j * L.size)) h2
    rw [List.take_take, List.take_take, Nat.min_eq_left (Nat.mul_le_mul_right _ hjl)] at h3
    rw [List.length_take, Nat.min_eq_left hj, h3, ← htk, List.take_take, Nat.min_eq_left (Nat.mul_le_mul_right _ hj)]
  by_cases h0 : m - l = 0
  ·refine Y rfl rfl (run _ w rfl ?_) (fin cur w hsz rfl (by rw [hset]; exact st))
   simp only [vsub, h0]
   split <;> simp [Builtin.clear_, run_underlying ht]
  ·have hgw := st.get hk
   have hfit : l * L.size + (List.length (Builtin.zeroCells z.cells (m - l)).toList) ≤ cur.size := by
    rw [Array.length_toList, size_zeroCells, hzs, hsz]
    have h2 : (l + (m - l)) * L.size ≤ cap * L.size := Nat.mul_le_mul_right _ (by omega)
    rw [Nat.add_mul] at h2
    exact h2
   have hst := run_storeCells_at P gb (l * L.size) T (Builtin.zeroCells z.cells (m - l)).toList 0 cur w hgw (by simpa using hfit) ?_
   ·simp only [Nat.add_zero] at hst
    refine Y rfl rfl (run (.slice ((some (⟨gb, 0, none⟩ : Addr)).map (·.add (l * L.size))) (m - l) (cap - l)) (w.setRow gb (cur.toList.take (l * L.size) ++ (Builtin.zeroCells z.cells (m - l)).toList ++ cur.toList.drop (l * L.size + (Builtin.zeroCells z.cells (m - l)).toList.length)).toArray) (by simp only [vsub]; rw [if_neg (by omega : ¬ cap = l)]) ?_) (fin (cur.toList.take (l * L.size) ++ (Builtin.zeroCells z.cells (m - l)).toList ++ cur.toList.drop (l * L.size + (Builtin.zeroCells z.cells (m - l)).toList.length)).toArray _ ?_ ?_ ?_)
    ·obtain ⟨q, hm⟩ : ∃ q, m - l = q + 1 := ⟨m - l - 1, by omega⟩
     rw [hm] at hst
     simp [Builtin.clear_, run_underlying ht, hm, hz, addr_add, hst]
    ·rw [List.size_toArray, List.length_append, List.length_append, List.length_take, List.length_drop, hcl]
     omega
    ·rw [List.append_assoc, List.take_append, List.length_take, hcl]
     rw [List.take_take, Nat.min_self, show l * L.size - min (l * L.size) (cap * L.size) = 0 by have := Nat.mul_le_mul_right L.size (show l ≤ cap by omega); omega, List.take_zero, List.append_nil]
    ·have := st.set (.cells (cur.toList.take (l * L.size) ++ (Builtin.zeroCells z.cells (m - l)).toList ++ cur.toList.drop (l * L.size + (Builtin.zeroCells z.cells (m - l)).toList.length)).toArray T) hk
     refine this.same ?_ rfl rfl rfl (Nat.le_refl _)
     apply Array.ext_getElem?
     intro q
     have hlt := lt_of_some hgw
     by_cases ej : q = gb
     ·subst ej
      rw [setRow_heap w _ cur _ T _ hgw]; simp [hlt]
     ·rw [setRow_other w gb q _ ej]; simp [Ne.symm ej]
   ·intro u hu
    refine hz1 u ?_
    simp only [Builtin.zeroCells, Array.toList_map, List.mem_map] at hu
    obtain ⟨q, hq, rfl⟩ := hu
    have hq2 : q < (m - l) * z.cells.size := by simpa using hq
    have hpos : 0 < z.cells.size := by
     rcases Nat.eq_zero_or_pos z.cells.size with e0 | e0
     ·rw [e0] at hq2; omega
     ·exact e0
    have hm := Nat.mod_lt q hpos
    rw [getElem!_pos z.cells _ hm]
    exact Array.getElem_mem_toList hm
/-- the rest of one's own slice is cleared -/
theorem OpsL.clearTail {α : Type} {L : Lay α} {T : TypeId} {v : Value} {xs : List α} {o : List (Nat × Obj)} {k j : Nat} {t e : TypeId} {z : Value} {x : Operand} (st : St h0 w0 h w own) (hO : OSl L T h v xs o) (hk : own[k]? = some o) (hj : j ≤ xs.length)
  (hx : ev σ x = vdrop L.size v j) (ht : P.underlying t = some (.slice e)) (hz : ∀ w, (zeroValue e).run P w = .ok z w) (hzs : z.cells.size = L.size) (hz1 : ∀ u ∈ z.cells.toList, u.oneCell' = true)
  (hK : ∀ o' w' own', own' = own.set k o' → OSl L T h (vtake v j) (xs.take j) o' → St h0 w0 h w' own' → OpsL P n ops rest K σ w') : OpsL P n ops (⟨none, .call ⟨.builtin .clear, #[x], #[t]⟩, ty, pos, aft, none⟩ :: rest) K σ w := by
 obtain ⟨p, c, rfl⟩ := hO.form
 refine OpsL.clearSub (l := j) (m := xs.length) st hO hk hj (fun p n c e => ?_) hx ht hz hzs hz1 (fun o' w' own' e1 f s => hK o' w' own' e1 (f j (Nat.le_refl _) hj) s)
 have := hO.len _ _ _ e; have := hO.caps _ _ _ e; omega
/-- a slice's own rest moves to the left -/
theorem OpsL.appendSelf {α : Type} {L : Lay α} {k i j : Nat} {v : Value} {xs : List α} {o : List (Nat × Obj)} {t e : TypeId} {i0 : TypeInfo} {x y : Operand} (st : St h0 w0 h w own) (hO : OSl L e h v xs o) (hk : own[k]? = some o) (hij : i ≤ j) (hj : j ≤ xs.length)
  (hx : ev σ x = vtake v i) (hy : ev σ y = vdrop L.size v j) (hd : Nat.blt d n = true) (ht : P.underlying t = some (.slice e)) (hi : P.info? e = some i0) (hsize : i0.size = L.size) (hpos : 0 < L.size)
  (hK : ∀ o' w' own', own' = own.set k o' → OSl L e h (vtake v (i + (xs.length - j))) (xs.take i ++ xs.drop j) o' → St h0 w0 h w' own' → OpsL P n ops rest K (upd σ d (vtake v (i + (xs.length - j)))) w') :
  OpsL P n ops (⟨some d, .call ⟨.builtin .append, #[x, y], #[t, t]⟩, ty, pos, aft, none⟩ :: rest) K σ w := by
 have hset := set_same hk
 have run (v1 v2 v' : Value) (w' : World) (h1 : vtake v i = v1) (h2 : vdrop L.size v j = v2) (hr : (Builtin.append_ #[t, t] ty #[v1, v2]).run P w = .ok v' w') : Run P σ w ⟨some d, .call ⟨.builtin .append, #[x, y], #[t, t]⟩, ty, pos, aft, none⟩ v' w' := by
  refine run_bi rfl (vs := [v1, v2]) (by simp [hx, hy, h1, h2]) fun cs => ?_
  simp only [builtin, Sem.run_bind, hr, Result.andThen_ok, Sem.run_pure]
 obtain ⟨cs, e1, ⟨⟨p, rfl⟩, rfl, rfl⟩ | ⟨gb, cap, cur, rfl, rfl, hnc, hcm, hsz, htk⟩⟩ := hO
 ·have hj0 : j = 0 := by simpa using hj
  have hi0 : i = 0 := by omega
  subst hj0; subst hi0
  refine Y rfl hd (run _ _ (.slice p 0 0) w rfl rfl ?_) (hK [] w _ rfl ⟨[], ⟨by simp, by simp⟩, .inl ⟨⟨p, rfl⟩, by simp, rfl⟩⟩ (by rw [hset]; exact st))
  cases p <;> simp [Builtin.append_, run_underlying ht, sizeOf, typeInfo, hi, Builtin.lenOf, Builtin.firstCells, loadCells, loadCellsFrom, storeCells, vtake, vdrop]
 ·have hgw := st.get hk
  have hcl : cur.toList.length = cap * L.size := by rw [Array.length_toList, hsz]
  have hdl : (cs.drop (j * L.size)).length = (xs.length - j) * L.size := by rw [List.length_drop, e1.1, Nat.sub_mul]
  have hnew : (xs.take i ++ xs.drop j).length = i + (xs.length - j) := by rw [List.length_append, List.length_take, List.length_drop, Nat.min_eq_left (by omega)]
  have one := e1.one hpos
  have hfit : i * L.size + (cs.drop (j * L.size)).length ≤ cur.size := by
   rw [hdl, hsz, ← Nat.add_mul]; exact Nat.mul_le_mul_right _ (by omega)
  by_cases hc : cap = j
  ·have hn : xs.length - j = 0 := by omega
   have hds : cs.drop (j * L.size) = [] := List.eq_nil_of_length_eq_zero (by rw [hdl, hn, Nat.zero_mul])
   refine Y rfl hd (run _ _ (.slice (some ⟨gb, 0, none⟩) i cap) w rfl (by simp only [vdrop]; rw [if_pos hc, hn]) ?_) ?_
   ·have hic : i ≤ cap := by omega
    show (Builtin.append_ #[t, t] ty #[.slice (some ⟨gb, 0, none⟩) i cap, _]).run P w = _
    simp [Builtin.append_, run_underlying ht, sizeOf, typeInfo, hi, Builtin.lenOf, Builtin.firstCells, loadCells, loadCellsFrom, storeCells, hic]
   ·have := hK [(gb, .cells cur e)] w _ rfl ⟨cs.take (i * L.size), ?_, .inr ⟨gb, cap, cur, by rw [hnew]; rfl, rfl, by rw [hnew]; omega, hcm, hsz, ?_⟩⟩ (by rw [hset]; exact st)
    ·simp only [vtake, hn, Nat.add_zero] at this; exact this
    ·have : xs.drop j = [] := List.drop_eq_nil_of_le (by omega)
     rw [this, List.append_nil]; exact e1.take (by omega)
    ·rw [hnew, hn, Nat.add_zero, ← htk, List.take_take, Nat.min_eq_left (Nat.mul_le_mul_right _ (by omega))]
  ·have holds : ∀ q u, (cs.drop (j * L.size))[q]? = some u → w.cell? ((⟨gb, j * L.size, none⟩ : Addr).add q) = some u := by
    intro q u hq
    rw [addr_add]
    rw [List.getElem?_drop, ← htk, List.getElem?_take] at hq
    split at hq
    ·simp only [World.cell?, hgw, Option.isSome_none, Bool.false_eq_true, if_false]
     simpa using hq
    ·cases hq
   have hr := run_append_room (P := P) w t ty e i0 ht hi gb i cap cur hgw ⟨gb, j * L.size, none⟩ (xs.length - j) (cap - j) (cs.drop (j * L.size)) (by rw [hdl, hsize]) holds (fun u hu => one u (List.mem_of_mem_drop hu)) (by omega) (by rw [hsize]; exact hfit)
   have hlen : (cur.toList.take (i * L.size)).length = i * L.size := by rw [List.length_take, hcl]; have := Nat.mul_le_mul_right L.size (show i ≤ cap by omega); omega
   refine Y rfl hd (run _ _ _ _ rfl (by simp only [vdrop]; rw [if_neg hc]; simp [addr_add]) hr) (hK [(gb, .cells (cur.toList.take (i * i0.size) ++ cs.drop (j * L.size) ++ cur.toList.drop (i * i0.size + (cs.drop (j * L.size)).length)).toArray e)] _ _ rfl ⟨cs.take (i * L.size) ++ cs.drop (j * L.size), (e1.take (by omega)).append (e1.drop j), .inr ⟨gb, cap, _, by rw [hnew]; rfl, rfl, by rw [hnew]; omega, hcm, ?_, ?_⟩⟩ ?_)
   ·clear hr; rw [hsize, List.size_toArray, List.length_append, List.length_append, hlen, List.length_drop (l := cur.toList), hcl]; rw [hsz] at hfit; omega
   ·rw [hnew, hsize]
    have h1 : (i + (xs.length - j)) * L.size = (cur.toList.take (i * L.size) ++ cs.drop (j * L.size)).length := by rw [List.length_append, hlen, hdl, Nat.add_mul]
    rw [h1]
    show ((cur.toList.take (i * L.size) ++ cs.drop (j * L.size)) ++ _).take _ = _
    rw [List.take_left]
    congr 1
    rw [← htk, List.take_take, Nat.min_eq_left (Nat.mul_le_mul_right _ (by omega))]
   ·have := st.set (.cells (cur.toList.take (i * i0.size) ++ cs.drop (j * L.size) ++ cur.toList.drop (i * i0.size + (cs.drop (j * L.size)).length)).toArray e) hk
    refine this.same ?_ rfl rfl rfl (Nat.le_refl _)
    apply Array.ext_getElem?
    intro q
    have hlt := lt_of_some hgw
    by_cases ej : q = gb
    ·subst ej
     rw [setRow_heap w _ cur _ e _ hgw]; simp [hlt]
    ·rw [setRow_other w gb q _ ej]; simp [Ne.symm ej]
/-- a frozen array, as a slice -/
theorem Sl.ofCells {α : Type} {L : Lay α} {b off : Nat} {cs : List Value} {xs : List α} (hc : Cells h b off cs) (hE : Enc L h cs xs) (hb : xs.length ≤ big) : Sl L h (.slice (some ⟨b, off, none⟩) xs.length xs.length) xs := by
 refine ⟨_, xs.length, rfl, ⟨hb, Nat.le_refl _⟩, .inr ⟨b, off, rfl, fun i x hi => ⟨_, ?_, hE.2 i x hi⟩⟩⟩
 obtain ⟨row, T, fr, hb, hh⟩ := hc
 refine ⟨row, T, fr, hb, fun j u hj => ?_⟩
 rw [List.getElem?_take] at hj
 split at hj
 ·rw [List.getElem?_drop] at hj
  have := hh _ _ hj
  rw [Nat.add_assoc]; exact this
 ·cases hj
theorem r_slice_arr {b off len m : Nat} {t e : TypeId} {x : Operand} (hx : ev σ x = .pointer (some ⟨b, off, none⟩)) (hu : P.underlying t = some (.array len e)) (hz : ∀ w, (sizeOf e).run P w = .ok m w) :
  Run P σ w ⟨dst, .slice t x none none none, ty, pos, aft, g⟩ (.slice (some ⟨b, off, none⟩) len len) w := by
 by_cases h : len = 0 <;> simp [Run, execOp, hx, Instr.sliceAt, run_underlying hu, Instr.sliceBounds, hz, Instr.sureAddr, addr_add, h]
theorem r_fieldN {s : TypeId} {x : Operand} {k m : Nat} {fs : Array Field} {f : Field} {vs us : List Value} (hx : ev σ x = .agg vs.toArray) (hu : P.underlying s = some (.struct fs)) (hf : fs[k]? = some f) (ha : ∀ w, (isAgg f.type).run P w = .ok true w) (hz : ∀ w, (sizeOf f.type).run P w = .ok m w) (hv : (vs.drop f.offset).take m = us) (hl : us.length = m) :
  Run P σ w ⟨dst, .field s x k, ty, pos, aft, g⟩ (.agg us.toArray) w := by
 subst hv
 simp [Run, execOp, hx, Instr.field, run_underlying hu, hf, asAgg, part, ha, hz]
theorem zao {fn : Func} {P : Program} {R : Ending → World → Prop} {a b n u : Nat} {t : TypeId} {σ : Env} {w : World} {cs : List Value} {T : TypeId} (hr : fn.results = #[.cell a t, .tmp u]) (hp : σ a = .pointer (some ⟨b, 0, none⟩)) (ha : ∀ w, (isAgg t).run P w = .ok true w) (hz : ∀ w, (sizeOf t).run P w = .ok n w) (hn : cs.length = n)
  (hb : w.heap[b]? = some (.cells cs.toArray T)) (h : R (.returned (.tuple #[.agg cs.toArray, σ u])) w) : Post fn P R .ret σ w := by
 intro tmps ht
 refine ⟨_, ?_, h⟩
 subst hn
 have hl := run_loadCells_list (P := P) (w := w) ⟨b, 0, none⟩ cs (fun j v hj => by rw [addr_add]; simp [World.cell?, hb, hj])
 have hp' : tmps.getD a undef = .pointer (some ⟨b, 0, none⟩) := by rw [ht, hp]
 have hu := ht u
 simp only [Array.getD_eq_getD_getElem?] at hp' hu
 simp [results, hr, hp', hu, asAddr, loadVar, ha, hz, hl]
theorem Post.endcell2 {fn : Func} {P : Program} {R : Ending → World → Prop} {a b n u : Nat} {t : TypeId} {σ : Env} {w : World} {cs : List Value} {T : TypeId} (hr : fn.results = #[.cell a t, .tmp u]) (hp : σ a = .pointer (some ⟨b, 0, none⟩)) (ha : ∀ w, (isAgg t).run P w = .ok true w) (hz : ∀ w, (sizeOf t).run P w = .ok n w) (hn : cs.length = n)
  (hb : w.heap[b]? = some (.cells cs.toArray T)) (h : R (.returned (.tuple #[.agg cs.toArray, σ u])) w) : Post fn P R .normal σ w := zao (P := P) hr hp ha hz hn hb h
theorem Post.retcell2F {fn : Func} {P : Program} {R : Ending → World → Prop} {a b n u : Nat} {t : TypeId} {σ : Env} {w : World} {cs : List Value} {h : Heap} (hr : fn.results = #[.cell a t, .tmp u]) (hp : σ a = .pointer (some ⟨b, 0, none⟩)) (ha : ∀ w, (isAgg t).run P w = .ok true w) (hz : ∀ w, (sizeOf t).run P w = .ok n w) (hn : cs.length = n)
  (hs : Sub h w) (hb : Cells h b 0 cs) (hR : R (.returned (.tuple #[.agg cs.toArray, σ u])) w) : Post fn P R .ret σ w := by
 intro tmps ht
 refine ⟨_, ?_, hR⟩
 subst hn
 have hl := run_loadCells_list (P := P) (w := w) ⟨b, 0, none⟩ cs (fun j v hj => by rw [addr_add]; exact hb.cell hs hj)
 have hp' : tmps.getD a undef = .pointer (some ⟨b, 0, none⟩) := by rw [ht, hp]
 have hu := ht u
 simp only [Array.getD_eq_getD_getElem?] at hp' hu
 simp [results, hr, hp', hu, asAddr, loadVar, ha, hz, hl]
theorem Post.endcell2F {fn : Func} {P : Program} {R : Ending → World → Prop} {a b n u : Nat} {t : TypeId} {σ : Env} {w : World} {cs : List Value} {h : Heap} (hr : fn.results = #[.cell a t, .tmp u]) (hp : σ a = .pointer (some ⟨b, 0, none⟩)) (ha : ∀ w, (isAgg t).run P w = .ok true w) (hz : ∀ w, (sizeOf t).run P w = .ok n w) (hn : cs.length = n)
  (hs : Sub h w) (hb : Cells h b 0 cs) (hR : R (.returned (.tuple #[.agg cs.toArray, σ u])) w) : Post fn P R .normal σ w := Post.retcell2F (P := P) hr hp ha hz hn hs hb hR
end
theorem OpsQ.skippedU {P : Program} {n : Nat} {ops : Array Oper} {C : World → Prop} {rest : List Oper} {K : Env → Prop} {σ : Env} {dst : Option Tmp} {op : Op} {type : TypeId} {pos : String} {after : Array Edge} {g d : Nat} {b : Bool}
  (hg : (ops[g]?).bind (·.dst) = some d) (hd : Nat.blt d n = true) (hv : σ d = undef) (hdst : dstOk n dst = true)
  (h : OpsQ P n ops C rest K (updO σ dst undef)) : OpsQ P n ops C (⟨dst, op, type, pos, after, some (g, b)⟩ :: rest) K σ := by
 intro a ha
 unfold wpQuiet
 rw [if_neg (by simp [Region.wanted, yielded_undef ha hg hd hv])]
 exact h _ (ha.put hdst _)
/-- for a while all memory may be taken as frozen -/
theorem OSl.whole {α : Type} {L : Lay α} {T : TypeId} {h0 h : Heap} {w0 w : World} {own : Own} {k : Nat} {v : Value} {xs : List α} {o : List (Nat × Obj)} (st : St h0 w0 h w own) (e : OSl L T h v xs o) (hk : own[k]? = some o) (hb : xs.length ≤ 281474976710656) : Le h (heapOf w) ∧ Sl L (heapOf w) v xs := by
 have hle : Le h (heapOf w) := fun b o hb => st.sub b o hb
 refine ⟨hle, ?_⟩
 obtain ⟨cs, e1, ⟨⟨p, rfl⟩, rfl, rfl⟩ | ⟨g, cap, cur, rfl, rfl, hnc, _, hsz, htk⟩⟩ := e
 ·exact ⟨p, 0, rfl, ⟨Nat.zero_le _, Nat.zero_le _⟩, .inl rfl⟩
 ·have hg := st.get hk
  refine ⟨_, cap, rfl, ⟨hb, hnc⟩, .inr ⟨g, 0, rfl, fun i x hi => ⟨_, ⟨cur, T, _, hg, fun j u hj => ?_⟩, L.up (e1.2 i x hi) hle⟩⟩⟩
  have hjl : j < L.size := by
   rw [List.getElem?_take] at hj
   split at hj
   ·assumption
   ·cases hj
  rw [List.getElem?_take, if_pos hjl, List.getElem?_drop, ← htk, List.getElem?_take] at hj
  split at hj
  ·rw [Nat.zero_add]; simpa using hj
  ·cases hj
theorem St.thaw {h h' : Heap} {w w' : World} (s : St (heapOf w) w h' w' []) (hs : Sub h w) : St h w h w' [] :=
 ⟨Le.refl h, fun _ _ => rfl, fun b o hb => s.sub b o (s.le b o (hs b o hb)), s.below, by simp, by simp⟩
/-- a part of what is frozen -/
theorem Sl.take {α : Type} {L : Lay α} {h : Heap} {v : Value} {xs : List α} (e : Sl L h v xs) {k : Nat} (hk : k ≤ xs.length) : Sl L h (vtake v k) (xs.take k) := by
 obtain ⟨p, c, rfl, ⟨hb, hc⟩, hh⟩ := e
 have hl : (xs.take k).length = k := by rw [List.length_take, Nat.min_eq_left hk]
 refine ⟨p, c, by rw [hl]; rfl, ⟨by omega, by omega⟩, ?_⟩
 rcases hh with rfl | ⟨b, off, rfl, hh⟩
 ·exact .inl (by simp)
 ·refine .inr ⟨b, off, rfl, fun i x hi => hh i x ?_⟩
  rw [List.getElem?_take] at hi
  split at hi
  ·exact hi
  ·cases hi
theorem Sl.drop {α : Type} {L : Lay α} {h : Heap} {v : Value} {xs : List α} (e : Sl L h v xs) {k : Nat} (hk : k ≤ xs.length) : Sl L h (vdrop L.size v k) (xs.drop k) := by
 obtain ⟨p, c, rfl, ⟨hb, hc⟩, hh⟩ := e
 have hl : (xs.drop k).length = xs.length - k := List.length_drop
 refine ⟨_, _, by rw [hl]; rfl, ⟨by omega, by omega⟩, ?_⟩
 rcases hh with rfl | ⟨b, off, rfl, hh⟩
 ·exact .inl (by simp)
 ·by_cases h1 : c = k
  ·exact .inl (List.drop_eq_nil_of_le (by omega))
  ·rw [if_neg h1]
   refine .inr ⟨b, off + k * L.size, by simp [addr_add], fun i x hi => ?_⟩
   rw [List.getElem?_drop] at hi
   obtain ⟨vs, h2, h3⟩ := hh _ x hi
   refine ⟨vs, ?_, h3⟩
   rw [Nat.add_assoc, ← Nat.add_mul]; exact h2
theorem Sl.caps {α : Type} {L : Lay α} {h : Heap} {v : Value} {xs : List α} (e : Sl L h v xs) : ∀ p n c, v = .slice p n c → n ≤ c := by
 rintro p n c rfl
 obtain ⟨q, c', e2, ⟨_, hc⟩, _⟩ := e
 cases e2; exact hc
theorem r_slice_to_sl {P : Program} {σ : Env} {w : World} {ty : TypeId} {pos : String} {aft : Array Edge} {dst : Option Tmp} {g : Option (Nat × Bool)} {α : Type} {L : Lay α} {h : Heap} {xs : List α} {v : Value} {t e : TypeId} {x hi_ : Operand} {i : Int} {k m : Nat} (hO : Sl L h v xs) (hx : ev σ x = v) (hi : ev σ hi_ = .int .i64 i) (hk : i = (k : Int)) (hle : k ≤ xs.length) (hu : P.underlying t = some (.slice e)) (hz : ∀ w, (sizeOf e).run P w = .ok m w) :
  Run P σ w ⟨dst, .slice t x none (some hi_) none, ty, pos, aft, g⟩ (vtake v k) w := by
 subst hk
 obtain ⟨p, c, rfl⟩ := hO.form
 have hc := hO.caps _ _ _ rfl
 have h1 : k ≤ c := by omega
 cases p <;> simp [Run, execOp, hx, hi, Instr.sliceAt, Instr.slice, run_underlying hu, Instr.sliceBounds, Instr.sliceBound, asIntOf, hz, h1, vtake]
 rename_i a
 intro _
 cases a
 rfl
theorem r_slice_from_sl {P : Program} {σ : Env} {w : World} {ty : TypeId} {pos : String} {aft : Array Edge} {dst : Option Tmp} {g : Option (Nat × Bool)} {α : Type} {L : Lay α} {h : Heap} {xs : List α} {v : Value} {t e : TypeId} {x lo : Operand} {i : Int} {k m : Nat} (hO : Sl L h v xs) (hx : ev σ x = v) (hi : ev σ lo = .int .i64 i) (hk : i = (k : Int)) (hle : k ≤ xs.length) (hu : P.underlying t = some (.slice e)) (hz : ∀ w, (sizeOf e).run P w = .ok m w) :
  Run P σ w ⟨dst, .slice t x (some lo) none none, ty, pos, aft, g⟩ (vdrop m v k) w := by
 subst hk
 obtain ⟨p, c, rfl⟩ := hO.form
 have h1 : k ≤ xs.length := hle
 simp [Run, execOp, hx, hi, Instr.sliceAt, Instr.slice, run_underlying hu, Instr.sliceBounds, Instr.sliceBound, asIntOf, hz, h1, vdrop]
end Go.Pk

namespace Go.Pk
open Go Go.RowKit
theorem sub_flat {α : Type} {a b : List (List α)} (h : a.Sublist b) : a.flatten.Sublist b.flatten := by
 induction h with
 | slnil => exact List.Sublist.refl _
 | cons c _ ih => rw [List.flatten_cons]; exact ih.trans (List.sublist_append_right _ _)
 | cons_cons c _ ih => rw [List.flatten_cons, List.flatten_cons]; exact (List.Sublist.refl _).append ih
theorem St.sublist {h0 h : Heap} {w0 w : World} {own own' : Own} (st : St h0 w0 h w own) (hs : own'.Sublist own) : St h0 w0 h w own' := by
 have hsub : own'.flatten.Sublist own.flatten := sub_flat hs
 exact ⟨st.le, st.new, st.sub, st.below, fun p hp => st.mine p (hsub.subset hp), (hsub.map _).nodup st.nodup⟩
theorem heapOf_le {h : Heap} {w : World} (hs : Sub h w) : Le h (heapOf w) := fun b o hb => hs b o hb
theorem Rets.thaw {P : Program} {f : FuncId} {args : Array Value} {h : Heap} {w : World} {v : Value} (hs : Sub h w) (hc : Calls P f args w (Rets (heapOf w) w fun _ _ r => r = v)) : Calls P f args w (Rets h w fun _ _ r => r = v) := by
 refine hc.mono ?_
 rintro e w' ⟨h', r, rfl, s, rfl⟩
 exact ⟨h, _, rfl, St.thaw s hs, rfl⟩
section
variable {α : Type} {L : Lay α} {T : TypeId} {h : Heap} {v : Value} {xs : List α} {o : List (Nat × Obj)}
theorem vtake_self (e : OSl L T h v xs o) {k : Nat} (hk : k = xs.length) : vtake v k = v := by
 obtain ⟨p, c, rfl⟩ := e.form
 subst hk; rfl
theorem OSl.retake (e : OSl L T h (vtake v xs.length) (xs.take xs.length) o) (hv : ∃ p c, v = .slice p xs.length c) : OSl L T h v xs o := by
 obtain ⟨p, c, rfl⟩ := hv
 rw [List.take_length] at e
 exact e
theorem vtake_caps (e : OSl L T h v xs o) (k : Nat) : ∀ p n c, vtake v k = .slice p n c → xs.length ≤ c := by
 obtain ⟨p0, c0, rfl⟩ := e.form
 have := e.caps _ _ _ rfl
 intro p n c q
 simp only [vtake] at q
 cases q
 exact this
theorem OSl.cap {p : Option Addr} {n c : Nat} (e : OSl L T h v xs o) (hv : v = .slice p n c) : n = xs.length ∧ xs.length ≤ c := by
 have h1 := e.caps _ _ _ hv
 have h2 := e.len _ _ _ hv
 exact ⟨h2, h2 ▸ h1⟩
end
section
variable {P : Program} {n : Nat} {ops : Array Oper} {rest : List Oper} {K : Env → World → Prop} {σ : Env} {w w0 : World} {h0 h : Heap} {own : Own} {ty : TypeId} {pos : String} {aft : Array Edge}
theorem set_seg {cs : List Value} {a s j : Nat} {u : Value} (hl : a + s ≤ cs.length) (hj : j < s) : cs.set (a + j) u = cs.take a ++ ((cs.drop a).take s).set j u ++ cs.drop (a + s) := by
 have e : cs = cs.take a ++ ((cs.drop a).take s ++ cs.drop (a + s)) := by
  have : cs.drop (a + s) = (cs.drop a).drop s := by rw [List.drop_drop]
  rw [this, List.take_append_drop, List.take_append_drop]
 have h1 : (cs.take a).length = a := by rw [List.length_take]; omega
 have h2 : ((cs.drop a).take s).length = s := by rw [List.length_take, List.length_drop]; omega
 conv => lhs; rw [e]
 rw [List.set_append_right _ _ (by omega), h1, Nat.add_sub_cancel_left, List.set_append_left _ _ (by omega), List.append_assoc]
/-- a cell of an element of one's own slice turns -/
theorem OpsL.storeElF {α : Type} {L : Lay α} {T : TypeId} {v : Value} {xs : List α} {o : List (Nat × Obj)} {k i j b off off' : Nat} {y y1 : α} {u : Value} {t : TypeId} {x z : Operand} (st : St h0 w0 h w own) (hO : OSl L T h v xs o) (hk : own[k]? = some o) (hy : xs[i]? = some y) (he : Elem v i L.size b off)
  (hj : Nat.blt j L.size = true) (ho : off' = off + j) (hx : ev σ x = .pointer (some ⟨b, off', none⟩)) (hv : ev σ z = u) (h1 : u.oneCell' = true) (hR : ∀ vs, L.R h vs y → L.R h (vs.set j u) y1) (hz : ∀ w, (sizeOf t).run P w = .ok 1 w)
  (hK : ∀ o' w' own', own' = own.set k o' → OSl L T h v (xs.set i y1) o' → St h0 w0 h w' own' → OpsL P n ops rest K σ w') : OpsL P n ops (⟨none, .store t x z, ty, pos, aft, none⟩ :: rest) K σ w := by
 obtain ⟨cs, e1, ⟨⟨p, rfl⟩, rfl, rfl⟩ | ⟨gb, cap, cur, rfl, rfl, hnc, hcm, hsz, htk⟩⟩ := hO
 ·simp at hy
 ·obtain ⟨off0, n', c', e2, hlt, rfl⟩ := he
  cases e2
  subst ho
  have hj' : j < L.size := Nat.le_of_ble_eq_true hj
  obtain ⟨hi, _⟩ := List.getElem?_eq_some_iff.1 hy
  have hRus := hR _ (e1.2 i y hy)
  have h3 : (i + 1) * L.size ≤ xs.length * L.size := Nat.mul_le_mul_right _ hi
  have h2 : xs.length * L.size ≤ cap * L.size := Nat.mul_le_mul_right _ hnc
  rw [Nat.succ_mul] at h3
  have hcl : cur.toList.length = cap * L.size := by rw [Array.length_toList, hsz]
  have hk' : own[k]? = some [(b, .cells cur.toList.toArray T)] := by simpa using hk
  refine zas st hk' hx hv h1 hz (Nat.ble_eq_true_of_le (show 0 + i * L.size + j < cur.toList.length by omega)) rfl rfl fun w' st' => ?_
  refine hK _ _ _ rfl ⟨_, e1.set hi hRus, .inr ⟨b, cap, _, by rw [List.length_set], rfl, by rw [List.length_set]; exact hnc, hcm, by simp [hsz], ?_⟩⟩ st'
  rw [List.length_set]
  show (cur.toList.set (0 + i * L.size + j) u).take (xs.length * L.size) = _
  rw [List.take_set, htk, Nat.zero_add, set_seg (s := L.size) (by rw [e1.1]; omega) hj', Nat.succ_mul]
end
theorem Box.up {α : Type} {L : Lay α} {h h' : Heap} {c : Bool} {x : α} {v : Value} (f : Box L h c x v) (hl : Le h h') : Box L h' c x v := by
 cases c with
 | false => exact f
 | true => obtain ⟨b, vs, e, hc, hr⟩ := f; exact ⟨b, vs, e, hc.up hl, L.up hr hl⟩
end Go.Pk

namespace Go.Pk
open Go Go.RowKit
section
variable {α : Type}
/-- slices.DeleteFunc, part way -/
structure DelF (q : α → Bool) (s ys : List α) (i j : Nat) : Prop where
 len : ys.length = s.length
 le : i ≤ j
 le2 : j ≤ s.length
 head : ys.take i = (s.take j).filter fun x => !q x
 tail : ys.drop j = s.drop j
theorem DelF.get {q : α → Bool} {s ys : List α} {i j : Nat} (d : DelF q s ys i j) {y : α} (h : ys[j]? = some y) : s[j]? = some y := by
 have h1 := congrArg (fun l : List α => l[0]?) d.tail
 simp only [List.getElem?_drop, Nat.add_zero] at h1
 rw [← h1]; exact h
theorem DelF.start {q : α → Bool} {s : List α} {k : Nat} (h1 : ∀ j x, j < k → s[j]? = some x → q x = false) (h2 : ∀ x, s[k]? = some x → q x = true) (hk : k < s.length) : DelF q s s k (k + 1) := by
 refine ⟨rfl, by omega, by omega, ?_, rfl⟩
 have hx : s[k]? = some s[k] := List.getElem?_eq_getElem hk
 rw [take_snoc hx, List.filter_append]
 have e1 : (s.take k).filter (fun x => !q x) = s.take k := by
  rw [List.filter_eq_self]
  intro x hx
  obtain ⟨j, hj⟩ := List.mem_iff_getElem?.1 hx
  rw [List.getElem?_take] at hj
  split at hj
  ·rename_i hjk; simp [h1 j x hjk hj]
  ·cases hj
 simp [e1, h2 _ hx]
theorem DelF.keep {q : α → Bool} {s ys : List α} {i j : Nat} (d : DelF q s ys i j) {y : α} (h : ys[j]? = some y) (hq : q y = false) : DelF q s (ys.set i y) (i + 1) (j + 1) := by
 obtain ⟨h1, _⟩ := List.getElem?_eq_some_iff.1 h
 have hl := d.len; have hle := d.le
 refine ⟨by rw [List.length_set]; exact d.len, by omega, by omega, ?_, ?_⟩
 ·rw [take_snoc (d.get h), List.filter_append, ← d.head]
  have e : (ys.set i y)[i]? = some y := by rw [List.getElem?_set]; simp; omega
  rw [take_snoc e, List.take_set_of_le (Nat.le_refl i)]
  simp [hq]
 ·rw [List.drop_set_of_lt (by omega)]
  have := congrArg (List.drop 1) d.tail
  simpa [List.drop_drop] using this
theorem DelF.skip {q : α → Bool} {s ys : List α} {i j : Nat} (d : DelF q s ys i j) {y : α} (h : ys[j]? = some y) (hq : q y = true) : DelF q s ys i (j + 1) := by
 obtain ⟨h1, _⟩ := List.getElem?_eq_some_iff.1 h
 have hl := d.len; have hle := d.le
 refine ⟨d.len, by omega, by omega, ?_, ?_⟩
 ·rw [take_snoc (d.get h), List.filter_append, ← d.head]
  simp [hq]
 ·have := congrArg (List.drop 1) d.tail
  simpa [List.drop_drop] using this
theorem DelF.fin {q : α → Bool} {s ys : List α} {i j : Nat} (d : DelF q s ys i j) (h : s.length ≤ j) : ys.take i = s.filter fun x => !q x := by
 rw [d.head, List.take_of_length_le h]
theorem filter_none {q : α → Bool} {s : List α} (h : ∀ j x, j < s.length → s[j]? = some x → q x = false) : (s.filter fun x => !q x) = s := by
 rw [List.filter_eq_self]
 intro x hx
 obtain ⟨j, hj⟩ := List.mem_iff_getElem?.1 hx
 obtain ⟨h1, _⟩ := List.getElem?_eq_some_iff.1 hj
 simp [h j x h1 hj]
variable [DecidableEq α]
/-- slices.Compact -/
def compStep (acc : List α) (x : α) : List α := if acc.getLast? = some x then acc else acc ++ [x]
def compactL (l : List α) : List α := l.foldl compStep []
theorem compactL_snoc (l : List α) (x : α) : compactL (l ++ [x]) = compStep (compactL l) x := by simp [compactL]
theorem compactL_last (l : List α) : (compactL l).getLast? = l.getLast? := by
 induction l using snoc_ind with
 | nil => rfl
 | snoc l d ih =>
  rw [compactL_snoc, compStep]
  split
  ·rename_i h; rw [h]; simp
  ·simp
theorem compactL_succ {s : List α} {k : Nat} {y z : α} (hz : s[k]? = some z) (hy : s[k + 1]? = some y) : compactL (s.take (k + 2)) = if z = y then compactL (s.take (k + 1)) else compactL (s.take (k + 1)) ++ [y] := by
 have e : (s.take (k + 1)).getLast? = some z := by rw [take_snoc hz]; simp
 rw [take_snoc hy, compactL_snoc, compStep, compactL_last, e]
 simp only [Option.some.injEq]
/-- part way: the first stretch -/
theorem comp_more {s : List α} {k : Nat} {y z : α} (hz : s[k - 1]? = some z) (hy : s[k]? = some y) (hk : 1 ≤ k) (h : compactL (s.take k) = s.take k) (hne : ¬ y = z) : compactL (s.take (k + 1)) = s.take (k + 1) := by
 obtain ⟨m, rfl⟩ : ∃ m, k = m + 1 := ⟨k - 1, by omega⟩
 rw [Nat.add_sub_cancel] at hz
 rw [show m + 1 + 1 = m + 2 from rfl, compactL_succ hz hy, if_neg (fun e => hne e.symm), h, ← take_snoc hy]
theorem comp_one {s : List α} (h : 1 ≤ s.length) : compactL (s.take 1) = s.take 1 := by
 cases s with
 | nil => simp at h
 | cons a s => simp [compactL, compStep]
theorem comp_short {s : List α} (h : s.length < 2) : compactL s = s := by
 match s, h with
 | [], _ => rfl
 | [a], _ => simp [compactL, compStep]
structure Comp (s ys : List α) (i j : Nat) : Prop where
 len : ys.length = s.length
 le : i + 1 ≤ j
 le2 : j ≤ s.length
 head : ys.take i = compactL (s.take j)
 tail : ys.drop (j - 1) = s.drop (j - 1)
theorem Comp.start {s : List α} {k : Nat} {y z : α} (hz : s[k - 1]? = some z) (hy : s[k]? = some y) (hk : 1 ≤ k) (h : compactL (s.take k) = s.take k) (he : y = z) : Comp s s k (k + 1) := by
 obtain ⟨h1, _⟩ := List.getElem?_eq_some_iff.1 hy
 refine ⟨rfl, Nat.le_refl _, by omega, ?_, rfl⟩
 obtain ⟨m, rfl⟩ : ∃ m, k = m + 1 := ⟨k - 1, by omega⟩
 rw [Nat.add_sub_cancel] at hz
 rw [show m + 1 + 1 = m + 2 from rfl, compactL_succ hz hy, if_pos he.symm, h]
theorem Comp.get {s ys : List α} {i j : Nat} (d : Comp s ys i j) {y : α} {n : Nat} (hn : j - 1 ≤ n) (h : ys[n]? = some y) : s[n]? = some y := by
 have h1 := congrArg (fun l : List α => l[n - (j - 1)]?) d.tail
 simp only [List.getElem?_drop] at h1
 rw [show j - 1 + (n - (j - 1)) = n by omega] at h1
 rw [← h1]; exact h
theorem Comp.keep {s ys : List α} {i j : Nat} (d : Comp s ys i j) {y z : α} (h : ys[j]? = some y) (hz : ys[j - 1]? = some z) (hne : ¬ y = z) : Comp s (ys.set i y) (i + 1) (j + 1) := by
 obtain ⟨h1, _⟩ := List.getElem?_eq_some_iff.1 h
 have hl := d.len; have hle := d.le; have hle2 := d.le2
 have g1 := d.get (by omega) h
 have g2 := d.get (Nat.le_refl _) hz
 refine ⟨by rw [List.length_set]; exact d.len, by omega, by omega, ?_, ?_⟩
 ·obtain ⟨m, rfl⟩ : ∃ m, j = m + 1 := ⟨j - 1, by omega⟩
  rw [Nat.add_sub_cancel] at g2
  rw [show m + 1 + 1 = m + 2 from rfl, compactL_succ g2 g1, if_neg (fun e => hne e.symm), ← d.head]
  have e : (ys.set i y)[i]? = some y := by rw [List.getElem?_set]; simp; omega
  rw [take_snoc e, List.take_set_of_le (Nat.le_refl i)]
 ·rw [Nat.add_sub_cancel, List.drop_set_of_lt (by omega)]
  have := congrArg (List.drop 1) d.tail
  rw [List.drop_drop, List.drop_drop, show j - 1 + 1 = j by omega] at this
  exact this
theorem Comp.skip {s ys : List α} {i j : Nat} (d : Comp s ys i j) {y z : α} (h : ys[j]? = some y) (hz : ys[j - 1]? = some z) (he : y = z) : Comp s ys i (j + 1) := by
 obtain ⟨h1, _⟩ := List.getElem?_eq_some_iff.1 h
 have hl := d.len; have hle := d.le; have hle2 := d.le2
 have g1 := d.get (by omega) h
 have g2 := d.get (Nat.le_refl _) hz
 refine ⟨d.len, by omega, by omega, ?_, ?_⟩
 ·obtain ⟨m, rfl⟩ : ∃ m, j = m + 1 := ⟨j - 1, by omega⟩
  rw [Nat.add_sub_cancel] at g2
  rw [show m + 1 + 1 = m + 2 from rfl, compactL_succ g2 g1, if_pos he.symm, ← d.head]
 ·have := congrArg (List.drop 1) d.tail
  rw [List.drop_drop, List.drop_drop, show j - 1 + 1 = j by omega] at this
  rw [Nat.add_sub_cancel]; exact this
theorem Comp.fin {s ys : List α} {i j : Nat} (d : Comp s ys i j) (h : s.length ≤ j) : ys.take i = compactL s := by
 rw [d.head, List.take_of_length_le h]
end
end Go.Pk

namespace Go.Pk
open Go Go.RowKit
section
variable {α : Type} [DecidableEq α]
structure TLt (lt : α → α → Bool) : Prop where
 irrefl : ∀ a, lt a a = false
 trans : ∀ a b c, lt a b = true → lt b c = true → lt a c = true
 total : ∀ a b, a ≠ b → lt a b = true ∨ lt b a = true
def insBy (lt : α → α → Bool) (l : List α) (x : α) : List α := if (l.dropWhile fun a => lt a x).head? = some x then l else (l.takeWhile fun a => lt a x) ++ [x] ++ (l.dropWhile fun a => lt a x)
/-- in order, each once -/
def setL (lt : α → α → Bool) (l : List α) : List α := l.foldl (insBy lt) []
variable {lt : α → α → Bool}
theorem setL_snoc (l : List α) (x : α) : setL lt (l ++ [x]) = insBy lt (setL lt l) x := by simp [setL]
omit [DecidableEq α] in
theorem TLt.asymm (T : TLt lt) {a b : α} (h : lt a b = true) : lt b a = false := by
 cases e : lt b a with
 | false => rfl
 | true => have := T.trans _ _ _ h e; rw [T.irrefl] at this; cases this
omit [DecidableEq α] in
theorem while_at {p : α → Bool} {l : List α} {k : Nat} (h1 : ∀ j y, j < k → l[j]? = some y → p y = true) (h2 : ∀ y, l[k]? = some y → p y = false) : l.takeWhile p = l.take k ∧ l.dropWhile p = l.drop k := by
 induction l generalizing k with
 | nil => simp
 | cons a l ih =>
  cases k with
  | zero =>
   have := h2 a (by simp)
   simp [this]
  | succ k =>
   have h0 := h1 0 a (by omega) (by simp)
   obtain ⟨e1, e2⟩ := ih (k := k) (fun j y hj hy => h1 (j + 1) y (by omega) (by simpa using hy)) (fun y hy => h2 y (by simpa using hy))
   simp [h0, e1, e2]
/-- what the document's loop finds -/
theorem insBy_new {l : List α} {x : α} {k : Nat} (h1 : ∀ j y, j < k → l[j]? = some y → lt y x = true) (h2 : ∀ y, l[k]? = some y → lt y x = false) (h3 : l[k]? ≠ some x) : insBy lt l x = l.take k ++ [x] ++ l.drop k := by
 obtain ⟨e1, e2⟩ := while_at (p := fun a => lt a x) h1 h2
 rw [insBy, e1, e2, if_neg]
 rw [List.head?_drop]; exact h3
theorem insBy_old {l : List α} {x : α} {k : Nat} (h1 : ∀ j y, j < k → l[j]? = some y → lt y x = true) (h2 : ∀ y, l[k]? = some y → lt y x = false) (h3 : l[k]? = some x) : insBy lt l x = l := by
 obtain ⟨e1, e2⟩ := while_at (p := fun a => lt a x) h1 h2
 rw [insBy, e2, if_pos]
 rw [List.head?_drop]; exact h3
theorem insBy_mem {l : List α} {x y : α} : y ∈ insBy lt l x ↔ y ∈ l ∨ y = x := by
 unfold insBy
 split
 ·rename_i h
  have : x ∈ l.dropWhile fun a => lt a x := List.mem_of_mem_head? h
  have hx : x ∈ l := (List.dropWhile_sublist _).subset this
  constructor
  ·exact .inl
  ·rintro (h | rfl)
   ·exact h
   ·exact hx
 ·have e : l = (l.takeWhile fun a => lt a x) ++ (l.dropWhile fun a => lt a x) := (List.takeWhile_append_dropWhile).symm
  have : y ∈ l ↔ y ∈ (l.takeWhile fun a => lt a x) ∨ y ∈ (l.dropWhile fun a => lt a x) := by
   rw [← List.mem_append, ← e]
  rw [this]
  simp only [List.mem_append, List.mem_singleton]
  constructor
  ·rintro ((h | h) | h)
   ·exact .inl (.inl h)
   ·exact .inr h
   ·exact .inl (.inr h)
  ·rintro ((h | h) | h)
   ·exact .inl (.inl h)
   ·exact .inr h
   ·exact .inl (.inr h)
theorem insBy_sorted (T : TLt lt) {l : List α} {x : α} (hs : l.Pairwise fun a b => lt a b = true) : (insBy lt l x).Pairwise fun a b => lt a b = true := by
 unfold insBy
 split
 ·exact hs
 ·rename_i hne
  have e : l = (l.takeWhile fun a => lt a x) ++ (l.dropWhile fun a => lt a x) := (List.takeWhile_append_dropWhile).symm
  have hs' := hs
  rw [e] at hs'
  obtain ⟨s1, s2, s3⟩ := List.pairwise_append.1 hs'
  have ht : ∀ a ∈ l.takeWhile (fun a => lt a x), lt a x = true := by
   intro a ha
   have := List.all_takeWhile (l := l) (p := fun a => lt a x)
   exact List.all_eq_true.1 this a ha
  have hd : ∀ b ∈ l.dropWhile (fun a => lt a x), lt x b = true := by
   cases hD : l.dropWhile (fun a => lt a x) with
   | nil => simp
   | cons c D =>
    have hc : ¬ lt c x = true := by
     have := List.head?_dropWhile_not (fun a => lt a x) l
     rw [hD] at this; simpa using this
    have hcx : c ≠ x := by
     intro q; rw [hD, q] at hne; exact hne rfl
    have h1 : lt x c = true := (T.total x c (Ne.symm hcx)).resolve_right hc
    intro b hb
    rcases List.mem_cons.1 hb with rfl | hb
    ·exact h1
    ·rw [hD] at s2
     exact T.trans _ _ _ h1 ((List.pairwise_cons.1 s2).1 b hb)
  rw [List.append_assoc]
  refine List.pairwise_append.2 ⟨s1, List.pairwise_append.2 ⟨by simp, s2, ?_⟩, ?_⟩
  ·intro a ha b hb
   simp at ha; subst ha
   exact hd b hb
  ·intro a ha b hb
   rcases List.mem_append.1 hb with hb | hb
   ·simp at hb; subst hb; exact ht a ha
   ·exact s3 a ha b hb
theorem setL_sorted (T : TLt lt) (l : List α) : (setL lt l).Pairwise fun a b => lt a b = true := by
 induction l using snoc_ind with
 | nil => exact List.Pairwise.nil
 | snoc l d ih => rw [setL_snoc]; exact insBy_sorted T ih
theorem setL_mem {l : List α} {y : α} : y ∈ setL lt l ↔ y ∈ l := by
 induction l using snoc_ind with
 | nil => simp [setL]
 | snoc l d ih => rw [setL_snoc, insBy_mem, ih]; simp
omit [DecidableEq α] in
theorem strict_eq (T : TLt lt) {a b : List α} (ha : a.Pairwise fun x y => lt x y = true) (hb : b.Pairwise fun x y => lt x y = true) (h : ∀ x, x ∈ a ↔ x ∈ b) : a = b := by
 have na : a.Nodup := ha.imp (fun h e => by subst e; rw [T.irrefl] at h; cases h)
 have nb : b.Nodup := hb.imp (fun h e => by subst e; rw [T.irrefl] at h; cases h)
 refine List.Perm.eq_of_pairwise (le := fun x y => lt x y = true) (fun x y _ _ h1 h2 => by have := T.asymm h1; rw [h2] at this; cases this) ha hb ((List.perm_ext_iff_of_nodup na nb).2 h)
theorem setL_len (T : TLt lt) (l : List α) : (setL lt l).length ≤ l.length := by
 induction l using snoc_ind with
 | nil => simp [setL]
 | snoc l d ih =>
  rw [setL_snoc, insBy]
  split
  ·simp; omega
  ·have e := congrArg List.length (List.takeWhile_append_dropWhile (p := fun a => lt a d) (l := setL lt l))
   simp only [List.length_append] at e ⊢
   simp only [List.length_cons, List.length_nil]; omega
theorem compactL_mem {l : List α} : ∀ {y : α}, y ∈ compactL l ↔ y ∈ l := by
 induction l using snoc_ind with
 | nil => simp [compactL]
 | snoc l d ih =>
  intro y
  rw [compactL_snoc, compStep]
  split
  ·rename_i h
   rw [ih]
   have : d ∈ compactL l := List.mem_of_getLast? h
   rw [ih] at this
   constructor
   ·intro h; simp [h]
   ·intro h
    rcases List.mem_append.1 h with h | h
    ·exact h
    ·simp at h; subst h; exact this
  ·simp [ih]
theorem compactL_sorted (T : TLt lt) {l : List α} (hs : l.Pairwise fun a b => lt b a = false) : (compactL l).Pairwise fun a b => lt a b = true := by
 induction l using snoc_ind with
 | nil => exact List.Pairwise.nil
 | snoc l d ih =>
  obtain ⟨s1, _, s3⟩ := List.pairwise_append.1 hs
  rw [compactL_snoc, compStep]
  split
  ·exact ih s1
  ·rename_i hne
   refine List.pairwise_append.2 ⟨ih s1, by simp, fun a ha b hb => ?_⟩
   simp at hb; subst hb
   have hal : a ∈ l := compactL_mem.1 ha
   have h1 := s3 a hal b (by simp)
   by_cases e : a = b
   ·exfalso
    subst e
    rw [compactL_last] at hne
    cases hL : l.getLast? with
    | none => rw [List.getLast?_eq_none_iff] at hL; subst hL; cases hal
    | some z =>
     rw [hL] at hne
     have hz : z ∈ l := List.mem_of_getLast? hL
     have h2 := s3 z hz a (by simp)
     -- a comes ahead of z, or is it
     have h3 : lt z a = false := by
      obtain ⟨i, hi⟩ := List.mem_iff_getElem?.1 hal
      rw [List.getLast?_eq_getElem?] at hL
      obtain ⟨i1, i2⟩ := List.getElem?_eq_some_iff.1 hi
      obtain ⟨z1, z2⟩ := List.getElem?_eq_some_iff.1 hL
      rcases Nat.lt_or_ge i (l.length - 1) with h | h
      ·have := List.pairwise_iff_getElem.1 s1 i (l.length - 1) i1 z1 h
       rw [i2, z2] at this; exact this
      ·have : i = l.length - 1 := by omega
       subst this
       rw [i2] at z2; subst z2; exact T.irrefl _
     by_cases e2 : z = a
     ·exact hne (by rw [e2])
     ·rcases T.total z a e2 with q | q
      ·rw [q] at h3; cases h3
      ·rw [q] at h2; cases h2
   ·rcases T.total a b e with q | q
    ·exact q
    ·rw [q] at h1; cases h1
theorem setOf_compact (T : TLt lt) {xs ys : List α} (hp : ys.Perm xs) (hs : ys.Pairwise fun a b => lt b a = false) : compactL ys = setL lt xs :=
 strict_eq T (compactL_sorted T hs) (setL_sorted T xs) (fun x => by rw [compactL_mem, setL_mem]; exact hp.mem_iff)
end
theorem sLt_eq (a b : Str) : sLt a b = decide (a < b) := Go.Proofs.bytesLess_eq a b
theorem sLt_nil (a : Str) : sLt a [] = false := by cases a <;> rfl
theorem cmpS_lt : ∀ (a b : Str), decide (cmpS a b < 0) = sLt a b
 | [], [] => rfl
 | [], _ :: _ => rfl
 | _ :: _, [] => rfl
 | x :: a, y :: b => by
  have ih := cmpS_lt a b
  simp only [cmpS, sLt, Lib.compareBytes, Op.bytesLess] at ih ⊢
  by_cases h1 : x < y
  ·simp [h1]
  ·by_cases h2 : y < x
   ·have : ¬ x = y := by rintro rfl; exact h1 h2
    simp [h1, h2, this]
   ·have : x = y := by
     apply UInt8.le_antisymm
     ·exact UInt8.not_lt.1 h2
     ·exact UInt8.not_lt.1 h1
    subst this
    have h1' : ¬ x < x := h1
    simp only [h1', if_false, beq_self_eq_true, Bool.true_and, decide_false, Bool.false_or]; exact ih
theorem cmpS_eq : ∀ (a b : Str), cmpS a b = 0 ↔ a = b
 | [], [] => by simp [cmpS, Lib.compareBytes]
 | [], _ :: _ => by simp [cmpS, Lib.compareBytes]
 | _ :: _, [] => by simp [cmpS, Lib.compareBytes]
 | x :: a, y :: b => by
  have ih := cmpS_eq a b
  simp only [cmpS, Lib.compareBytes] at ih ⊢
  by_cases h1 : x < y
  ·have : ¬ x = y := by rintro rfl; exact absurd h1 (UInt8.lt_irrefl _)
   simp [h1, this]
  ·by_cases h2 : y < x
   ·have : ¬ x = y := by rintro rfl; exact h1 h2
    simp [h1, h2, this]
   ·have : x = y := by
     apply UInt8.le_antisymm
     ·exact UInt8.not_lt.1 h2
     ·exact UInt8.not_lt.1 h1
    subst this
    simp [h1, ih]
theorem cmpS_bound : ∀ (a b : Str), -1 ≤ cmpS a b ∧ cmpS a b ≤ 1
 | [], [] => by simp [cmpS, Lib.compareBytes]
 | [], _ :: _ => by simp [cmpS, Lib.compareBytes]
 | _ :: _, [] => by simp [cmpS, Lib.compareBytes]
 | x :: a, y :: b => by
  have ih := cmpS_bound a b
  simp only [cmpS, Lib.compareBytes] at ih ⊢
  repeat' split
  all_goals omega
theorem sLt_T : TLt sLt := by
 refine ⟨fun a => ?_, fun a b c => ?_, fun a b h => ?_⟩
 ·rw [sLt_eq]; simp [List.lt_irrefl]
 ·rw [sLt_eq, sLt_eq, sLt_eq]; simp only [decide_eq_true_eq]; exact fun h1 h2 => List.lt_trans h1 h2
 ·rw [sLt_eq, sLt_eq]; simp only [decide_eq_true_eq]
  by_cases h1 : a < b
  ·exact .inl h1
  ·by_cases h2 : b < a
   ·exact .inr h2
   ·exact absurd (List.le_antisymm (List.not_lt.1 h2) (List.not_lt.1 h1)) h
theorem headLt_T : TLt headLt := by
 refine ⟨fun a => ?_, fun a b c h1 h2 => ?_, fun a b h => ?_⟩
 ·simp [headLt, sLt_T.irrefl]
 ·simp only [headLt, Bool.or_eq_true, Bool.and_eq_true, decide_eq_true_eq] at *
  rcases h1 with h1 | ⟨e1, h1⟩
  ·rcases h2 with h2 | ⟨e2, h2⟩
   ·exact .inl (sLt_T.trans _ _ _ h1 h2)
   ·exact .inl (e2 ▸ h1)
  ·rcases h2 with h2 | ⟨e2, h2⟩
   ·exact .inl (by rw [e1]; exact h2)
   ·exact .inr ⟨e1.trans e2, by omega⟩
 ·simp only [headLt, Bool.or_eq_true, Bool.and_eq_true, decide_eq_true_eq]
  rcases a with ⟨s, m⟩; rcases b with ⟨s', m'⟩
  by_cases e : s = s'
  ·subst e
   have hm : m ≠ m' := fun q => h (by rw [q])
   rcases Int.lt_or_gt_of_ne hm with q | q
   ·exact .inl (.inr ⟨rfl, q⟩)
   ·exact .inr (.inr ⟨rfl, q⟩)
  ·rcases sLt_T.total s s' e with q | q
   ·exact .inl (.inl q)
   ·exact .inr (.inl q)
theorem cmpHead_lt (a b : Head) : decide (cmpHead a b < 0) = headLt a b := by
 unfold cmpHead headLt
 rw [← cmpS_lt]
 by_cases h : cmpS a.stem b.stem = 0
 ·have e := (cmpS_eq _ _).1 h
  have h' : ¬ cmpS a.stem b.stem ≠ 0 := by simp [h]
  simp only [if_neg h', h, e]
  have e2 : cmpS b.stem b.stem = 0 := (cmpS_eq _ _).2 rfl
  have e3 : sLt b.stem b.stem = false := sLt_T.irrefl _
  rw [← cmpS_lt] at e3
  rw [e3]; simp only [decide_true, Bool.true_and, Bool.false_or, decide_eq_decide]; omega
 ·have e : ¬ a.stem = b.stem := fun q => h ((cmpS_eq _ _).2 q)
  simp only [if_pos h, e]; simp
theorem swo_head : Go.Sort.SWO (Go.Proofs.ltOf cmpHead) := by
 have e : Go.Proofs.ltOf cmpHead = headLt := by funext a b; exact cmpHead_lt a b
 rw [e]
 refine ⟨headLt_T.irrefl, headLt_T.trans, fun a b c h1 h2 => ?_⟩
 cases h : headLt a c with
 | false => rfl
 | true =>
  by_cases e1 : a = b
  ·subst e1; rw [h] at h2; cases h2
  ·rcases headLt_T.total a b e1 with q | q
   ·rw [q] at h1; cases h1
   ·have := headLt_T.trans _ _ _ q h; rw [this] at h2; cases h2
/-- the lists of the document -/
def headsN (t : Text) (x : Lexicon) : List Head := if checkN t x = 0 then setL headLt (headsL t x) else []
def underP (t : Text) (x : Lexicon) (hd : Head) : List Place := (placesT t).filter fun p => decide (headAt t x p = hd)
def underE (t : Text) (x : Lexicon) (hd : Head) : Int := if checkN t x = 0 then (if headB hd = true then (if underP t x hd = [] then 6 else 0) else 2) else checkN t x
def underR (t : Text) (x : Lexicon) (hd : Head) : List Place := if underE t x hd = 0 then underP t x hd else []
def underN (t : Text) (x : Lexicon) (hd : Head) : List Entry := if underE t x hd = 0 then (entriesL t x).filter fun y => !decide (y.head ≠ hd) else []
def formsR (t : Text) (x : Lexicon) (hd : Head) : List Str := if underE t x hd = 0 then setL sLt ((underP t x hd).map (wordD t)) else []
theorem under_filter (t : Text) (x : Lexicon) (hd : Head) : ((entriesL t x).filter fun y => !decide (y.head ≠ hd)) = (underP t x hd).map (entryAt t x) := by
 rw [entriesL, underP, List.filter_map]
 congr 1
 apply List.filter_congr
 intro p _
 simp only [entryAt, Function.comp]
 by_cases e : headAt t x p = hd <;> simp [e]
theorem entries_len {t : Text} (ht : textB t = true) (x : Lexicon) : (entriesL t x).length ≤ 600 := by rw [entriesL, List.length_map]; exact places_len ht
theorem under_check {t : Text} {x : Lexicon} {hd : Head} (h : underE t x hd = 0) : checkN t x = 0 := by
 unfold underE at h
 split at h
 ·assumption
 ·rename_i q; exact absurd h q
theorem setOf_sort (l : List Str) : compactL (l.mergeSort fun a b => decide (a ≤ b)) = setL sLt l := by
 refine setOf_compact sLt_T (List.mergeSort_perm _ _) ?_
 have h := List.pairwise_mergeSort (le := fun a b : Str => decide (a ≤ b)) (by intro a b c h1 h2; simp only [decide_eq_true_eq] at *; exact List.le_trans h1 h2) (by intro a b; simp only [Bool.or_eq_true, decide_eq_true_eq]; exact List.le_total a b) l
 refine h.imp fun h => ?_
 rw [sLt_eq]; simp only [decide_eq_true_eq] at h; simpa using h
end Go.Pk

namespace Go.Pk
open Go Go.RowKit
/-- the head that a word had first -/
def hdFirst (es : List Entry) (w : Str) : Option Head := (es.find? fun y => decide (y.word = w)).map (·.head)
def homAt (es : List Entry) (y : Entry) : List Str := match hdFirst es y.word with
 | some h => if h ≠ y.head then [y.word] else []
 | none => []
def homsN (es : List Entry) : Nat → List Str
 | 0 => []
 | n + 1 => homsN es n ++ (match es[n]? with
  | some y => homAt (es.take n) y
  | none => [])
theorem homsN_succ {es : List Entry} {n : Nat} {y : Entry} (h : es[n]? = some y) : homsN es (n + 1) = homsN es n ++ homAt (es.take n) y := by simp only [homsN, h]
theorem homsN_len (es : List Entry) : ∀ n, (homsN es n).length ≤ n
 | 0 => by simp [homsN]
 | n + 1 => by
  have ih := homsN_len es n
  simp only [homsN, List.length_append]
  split
  ·unfold homAt
   split
   ·split <;> simp <;> omega
   ·simp; omega
  ·simp; omega
theorem hdFirst_snoc (es : List Entry) (y : Entry) (w : Str) : hdFirst (es ++ [y]) w = match hdFirst es w with
  | some h => some h
  | none => if y.word = w then some y.head else none := by
 unfold hdFirst
 rw [List.find?_append]
 cases h : es.find? fun y => decide (y.word = w) with
 | some z => simp
 | none =>
  by_cases e : y.word = w <;> simp [e]
theorem hdFirst_put {es : List Entry} {n : Nat} {y : Entry} (h : es[n]? = some y) {m : List (Str × Head)} (hm : ∀ w, look m w = hdFirst (es.take n) w) (hc : ∀ z, hdFirst (es.take n) y.word = some z → z = y.head) : ∀ w, look (putM m y.word y.head) w = hdFirst (es.take (n + 1)) w := by
 intro w
 rw [look_putM, take_snoc h, hdFirst_snoc, hm]
 by_cases e : w = y.word
 ·subst e
  simp only [if_true]
  cases q : hdFirst (es.take n) y.word with
  | some z => rw [hc z q]
  | none => rfl
 ·rw [if_neg e]
  cases q : hdFirst (es.take n) w with
  | some z => rfl
  | none => simp only []; rw [if_neg (fun q => e q.symm)]
theorem hdFirst_keep {es : List Entry} {n : Nat} {y : Entry} (h : es[n]? = some y) {m : List (Str × Head)} (hm : ∀ w, look m w = hdFirst (es.take n) w) {z : Head} (hc : hdFirst (es.take n) y.word = some z) : ∀ w, look m w = hdFirst (es.take (n + 1)) w := by
 intro w
 rw [take_snoc h, hdFirst_snoc, hm]
 cases q : hdFirst (es.take n) w with
 | some z => rfl
 | none =>
  simp only []
  by_cases e : y.word = w
  ·subst e; rw [hc] at q; cases q
  ·rw [if_neg e]
theorem hdFirst_some {es : List Entry} {n : Nat} {w : Str} {h : Head} (q : hdFirst (es.take n) w = some h) : ∃ j b, j < n ∧ es[j]? = some b ∧ b.word = w ∧ b.head = h := by
 unfold hdFirst at q
 obtain ⟨b, hb, rfl⟩ := Option.map_eq_some_iff.1 q
 have h1 := List.find?_some hb
 have h2 := List.mem_of_find?_eq_some hb
 obtain ⟨j, hj⟩ := List.mem_iff_getElem?.1 h2
 rw [List.getElem?_take] at hj
 split at hj
 ·exact ⟨j, b, by assumption, hj, by simpa using h1, rfl⟩
 ·cases hj
theorem hdFirst_is {es : List Entry} {n j : Nat} {b : Entry} (hj : j < n) (hb : es[j]? = some b) : ∃ h, hdFirst (es.take n) b.word = some h := by
 cases q : hdFirst (es.take n) b.word with
 | some h => exact ⟨h, rfl⟩
 | none =>
  exfalso
  unfold hdFirst at q
  rw [Option.map_eq_none_iff, List.find?_eq_none] at q
  have := q b (List.mem_of_getElem? (by rw [List.getElem?_take, if_pos hj]; exact hb))
  simp at this
theorem hdFirst_take {es : List Entry} {n m : Nat} {w : Str} {h : Head} (hnm : n ≤ m) (q : hdFirst (es.take n) w = some h) : hdFirst (es.take m) w = some h := by
 have e : es.take m = es.take n ++ (es.take m).drop n := by
  conv => lhs; rw [← List.take_append_drop n (es.take m), List.take_take, Nat.min_eq_left hnm]
 unfold hdFirst at q ⊢
 rw [e, List.find?_append]
 cases f : (es.take n).find? fun y => decide (y.word = w) with
 | some z => rw [f] at q; simpa using q
 | none => rw [f] at q; cases q
/-- two places of a word whose heads differ -/
def pairAt (es : List Entry) (i j : Nat) : List Str := match es[i]?, es[j]? with
 | some a, some b => if a.word = b.word ∧ a.head ≠ b.head then [a.word] else []
 | _, _ => []
def pairRow (es : List Entry) (i : Nat) : List Str := (List.range i).flatMap (pairAt es i)
def pairsN (es : List Entry) (n : Nat) : List Str := (List.range n).flatMap (pairRow es)
theorem pairAt_some {es : List Entry} {i j : Nat} {a b : Entry} (ha : es[i]? = some a) (hb : es[j]? = some b) : pairAt es i j = if a.word = b.word ∧ a.head ≠ b.head then [a.word] else [] := by simp only [pairAt, ha, hb]
theorem pairAt_len (es : List Entry) (i j : Nat) : (pairAt es i j).length ≤ 1 := by
 unfold pairAt
 split
 ·split <;> simp
 ·simp
theorem pairs_len (es : List Entry) : ∀ n, n ≤ es.length → (pairsN es n).length ≤ es.length * n
 | 0, _ => by simp [pairsN]
 | n + 1, h => by
  have ih := pairs_len es n (by omega)
  have h1 := flatMap_len (pairAt_len es n) n
  have h2 : (pairRow es n).length ≤ n := by rw [pairRow]; omega
  rw [pairsN, range_flat_succ, List.length_append, Nat.mul_succ]
  have : (pairsN es n).length = ((List.range n).flatMap (pairRow es)).length := rfl
  omega
theorem mem_pairs {es : List Entry} {n : Nat} {w : Str} : w ∈ pairsN es n ↔ ∃ i j a b, i < n ∧ j < i ∧ es[i]? = some a ∧ es[j]? = some b ∧ a.word = w ∧ b.word = w ∧ a.head ≠ b.head := by
 simp only [pairsN, pairRow, List.mem_flatMap, List.mem_range]
 constructor
 ·rintro ⟨i, hi, j, hj, hw⟩
  unfold pairAt at hw
  split at hw
  ·rename_i a b ha hb
   split at hw
   ·rename_i hc
    simp only [List.mem_singleton] at hw
    exact ⟨i, j, a, b, hi, hj, ha, hb, hw.symm, by rw [← hc.1, hw], hc.2⟩
   ·cases hw
  ·cases hw
 ·rintro ⟨i, j, a, b, hi, hj, ha, hb, h1, h2, h3⟩
  refine ⟨i, hi, j, hj, ?_⟩
  rw [pairAt_some ha hb, if_pos ⟨h1.trans h2.symm, h3⟩, h1]
  simp
theorem mem_homs {es : List Entry} {w : Str} : ∀ {n : Nat}, w ∈ homsN es n ↔ ∃ i a h, i < n ∧ es[i]? = some a ∧ a.word = w ∧ hdFirst (es.take i) w = some h ∧ h ≠ a.head
 | 0 => by simp [homsN]
 | n + 1 => by
  rw [homsN, List.mem_append, mem_homs (n := n)]
  constructor
  ·rintro (⟨i, a, h, hi, q⟩ | hw)
   ·exact ⟨i, a, h, by omega, q⟩
   ·split at hw
    ·rename_i y hy
     unfold homAt at hw
     split at hw
     ·rename_i h hh
      split at hw
      ·rename_i hne
       simp only [List.mem_singleton] at hw
       exact ⟨n, y, h, by omega, hy, hw.symm, by rw [hw]; exact hh, hne⟩
      ·cases hw
     ·cases hw
    ·cases hw
  ·rintro ⟨i, a, h, hi, ha, h1, h2, h3⟩
   rcases Nat.lt_or_ge i n with q | q
   ·exact .inl ⟨i, a, h, q, ha, h1, h2, h3⟩
   ·obtain rfl : i = n := by omega
    right
    subst h1
    simp only [ha, homAt, h2, if_pos h3]
    simp
theorem homs_pairs (es : List Entry) : setL sLt (homsN es es.length) = setL sLt (pairsN es es.length) := by
 refine strict_eq sLt_T (setL_sorted sLt_T _) (setL_sorted sLt_T _) fun w => ?_
 rw [setL_mem, setL_mem, mem_homs, mem_pairs]
 constructor
 ·rintro ⟨i, a, h, hi, ha, h1, h2, h3⟩
  obtain ⟨j, b, hj, hb, e1, e2⟩ := hdFirst_some h2
  exact ⟨i, j, a, b, hi, hj, ha, hb, h1, e1, by rw [e2]; exact Ne.symm h3⟩
 ·rintro ⟨i, j, a, b, hi, hj, ha, hb, h1, h2, h3⟩
  obtain ⟨h0, q0⟩ := hdFirst_is (es := es) hj hb
  rw [h2] at q0
  by_cases e : h0 = a.head
  ·cases q : hdFirst (es.take j) w with
   | some h4 =>
    have := hdFirst_take (Nat.le_of_lt hj) q
    rw [q0] at this
    have e4 : h0 = h4 := Option.some.inj this
    exact ⟨j, b, h4, by omega, hb, h2, q, by rw [← e4, e]; exact h3⟩
   | none =>
    exfalso
    have := hdFirst_snoc (es.take j) b w
    rw [q] at this
    simp only [if_pos h2] at this
    rw [← take_snoc hb] at this
    have := hdFirst_take (show j + 1 ≤ i by omega) this
    rw [q0] at this
    exact h3 (by rw [← e]; exact Option.some.inj this)
  ·exact ⟨i, a, h0, hi, ha, h1, q0, e⟩
def homR (t : Text) (x : Lexicon) : List Str := if checkN t x = 0 then setL sLt (homsN (entriesL t x) (entriesL t x).length) else []
/-- a lexicon without the decision with a Number -/
def lessX (x : Lexicon) (n : Int) : Lexicon := { x with decisions := x.decisions.filter fun d => decide (d.number ≠ n) }
theorem lexiconB_of {t : Text} {x y : Lexicon} (h : checkN t x = 0) (hr : y.rules = x.rules) (hd : ∀ d ∈ y.decisions, decisionB t d = true) (hl : y.decisions.length ≤ 20) (hn : (y.decisions.map (·.number)).Nodup) : checkN t y = 0 := by
 obtain ⟨h1, h2⟩ := lexicon_of h
 have h3 : lexiconB t y = true := by
  simp only [lexiconB, Bool.and_eq_true, decide_eq_true_eq, List.all_eq_true] at h2 ⊢
  exact ⟨⟨⟨⟨by rw [hr]; exact h2.1.1.1.1, hl⟩, by rw [hr]; exact h2.1.1.2⟩, hd⟩, hn⟩
 simp [checkN, h1, h3]
theorem lessX_check {t : Text} {x : Lexicon} (h : checkN t x = 0) (n : Int) : checkN t (lessX x n) = 0 := by
 refine lexiconB_of h rfl (fun d hd => lexicon_dec h d (List.mem_filter.1 hd).1) ?_ ?_
 ·exact Nat.le_trans (List.length_filter_le _ _) (lexicon_20 h)
 ·exact (List.filter_sublist.map _).nodup (okD_of h).1
theorem lexicon_12 {t : Text} {x : Lexicon} (h : checkN t x = 0) : x.rules.length ≤ 12 := by
 have h1 := (lexicon_of h).2
 simp only [lexiconB, Bool.and_eq_true, decide_eq_true_eq] at h1
 exact h1.1.1.1.1
def idleB (t : Text) (x : Lexicon) (n : Int) : Bool := decide ((lessX x n).decisions.length < x.decisions.length) && decide (headsL t (lessX x n) = headsL t x)
def natI (k : Nat) : Int := (k : Int) + 1
def idleK (t : Text) (x : Lexicon) (k : Nat) : List Int := ((List.range k).map natI).filter (idleB t x)
def idleR (t : Text) (x : Lexicon) : List Int := idleK t x 999
def idleN (t : Text) (x : Lexicon) : List Int := if checkN t x = 0 then idleR t x else []
theorem idleK_succ (t : Text) (x : Lexicon) (k : Nat) : idleK t x (k + 1) = idleK t x k ++ (if idleB t x (natI k) = true then [natI k] else []) := by
 simp only [idleK, List.range_succ, List.map_append, List.filter_append, List.map_cons, List.map_nil, List.filter_cons, List.filter_nil]
theorem idleK_len (t : Text) (x : Lexicon) (k : Nat) : (idleK t x k).length ≤ k := by
 have := List.length_filter_le (idleB t x) ((List.range k).map natI)
 simpa [idleK] using this
theorem entries_heads {t : Text} {x y : Lexicon} : entriesL t y = entriesL t x ↔ headsL t y = headsL t x := by
 constructor
 ·intro h
  have := congrArg (fun l : List Entry => l.map (·.head)) h
  simpa [entriesL, headsL, List.map_map, Function.comp_def, entryAt] using this
 ·intro h
  simp only [headsL, entriesL] at h ⊢
  rw [List.map_inj_left] at h ⊢
  intro p hp
  rw [entryAt, entryAt, h p hp]
theorem without_at {ds : List Decision} {i : Nat} {d : Decision} (hn : (ds.map (·.number)).Nodup) (hd : ds[i]? = some d) : ds.take i ++ ds.drop (i + 1) = ds.filter fun e => decide (e.number ≠ d.number) := by
 have h1 : ds = ds.take i ++ d :: ds.drop (i + 1) := by rw [← drop_cons hd, List.take_append_drop]
 have hn' := hn
 rw [h1, List.map_append, List.map_cons, List.nodup_append] at hn'
 obtain ⟨_, n2, n3⟩ := hn'
 rw [List.nodup_cons] at n2
 have e1 : (ds.take i).filter (fun e => decide (e.number ≠ d.number)) = ds.take i := by
  rw [List.filter_eq_self]
  intro e he
  simpa using n3 _ (List.mem_map_of_mem he) _ (List.mem_cons_self ..)
 have e2 : (ds.drop (i + 1)).filter (fun e => decide (e.number ≠ d.number)) = ds.drop (i + 1) := by
  rw [List.filter_eq_self]
  intro e he
  have : ¬ e.number = d.number := fun q => n2.1 (q ▸ List.mem_map_of_mem he)
  simpa using this
 conv => rhs; rw [h1]
 rw [List.filter_append, List.filter_cons, if_neg (by simp), e1, e2]
/-- the decisions, from the first on, without which all heads are the same -/
def idleP (t : Text) (x : Lexicon) (d : Decision) : Bool := decide (entriesL t (lessX x d.number) = entriesL t x)
theorem idle_eq {t : Text} {x : Lexicon} (h : checkN t x = 0) : ((x.decisions.filter (idleP t x)).map (·.number)).mergeSort (fun a b => decide (a ≤ b)) = idleR t x := by
 have hx := okD_of h
 have hs : (idleR t x).Pairwise fun a b => a < b := by
  refine List.Pairwise.filter _ ?_
  rw [List.pairwise_map]
  refine List.pairwise_lt_range.imp fun h => ?_
  simp only [natI]; omega
 have hnd : (idleR t x).Nodup := hs.imp fun h => by omega
 have hn1 : ((x.decisions.filter (idleP t x)).map (·.number)).Nodup := (List.filter_sublist.map _).nodup hx.1
 have hperm : ((x.decisions.filter (idleP t x)).map (·.number)).Perm (idleR t x) := by
  rw [List.perm_ext_iff_of_nodup hn1 hnd]
  intro n
  simp only [idleR, idleK, List.mem_filter, List.mem_map, List.mem_range, idleB, Bool.and_eq_true, decide_eq_true_eq, idleP]
  constructor
  ·rintro ⟨d, ⟨h1, h2⟩, rfl⟩
   obtain ⟨h3, h4, _⟩ := hx.2 d h1
   refine ⟨⟨(d.number - 1).toNat, by omega, by simp only [natI]; omega⟩, ?_, entries_heads.1 h2⟩
   have h5 : (lessX x d.number).decisions.Sublist x.decisions := List.filter_sublist
   refine Nat.lt_of_le_of_ne h5.length_le fun e => ?_
   have h6 := h5.eq_of_length e
   have h7 : d ∈ (lessX x d.number).decisions := by rw [h6]; exact h1
   simpa using (List.mem_filter.1 h7).2
  ·rintro ⟨_, h1, h2⟩
   rcases Classical.em (∃ d ∈ x.decisions, d.number = n) with ⟨d, hd, e⟩ | hno
   ·exact ⟨d, ⟨hd, by rw [e]; exact entries_heads.2 h2⟩, e⟩
   ·exfalso
    have : (lessX x n).decisions = x.decisions := by
     simp only [lessX]
     rw [List.filter_eq_self]
     intro d hd
     have : ¬ d.number = n := fun e => hno ⟨d, hd, e⟩
     simpa using this
    rw [this] at h1; omega
 refine List.Perm.eq_of_pairwise (le := fun a b : Int => a ≤ b) (fun a b _ _ h1 h2 => by omega) ?_ (hs.imp (fun h => by omega)) ((List.mergeSort_perm _ _).trans hperm)
 have h := List.pairwise_mergeSort (le := fun a b : Int => decide (a ≤ b)) (by intro a b c h1 h2; simp at *; omega) (by intro a b; simp; omega) ((x.decisions.filter (idleP t x)).map (·.number))
 exact h.imp (fun h => by simpa using h)
/-- a decision more -/
def moreX (x : Lexicon) (d : Decision) : Lexicon := { x with decisions := x.decisions ++ [d] }
def ascD (l : List Decision) : List Decision := l.mergeSort fun a b => decide (a.number ≤ b.number)
def addX (x : Lexicon) (d : Decision) : Lexicon := { x with decisions := ascD (x.decisions ++ [d]) }
def addE (t : Text) (x : Lexicon) (d : Decision) : Int := if checkN t x ≠ 0 then checkN t x else if x.decisions.length = 20 then 9 else if checkN t (moreX x d) ≠ 0 then 41 else 0
def zLexicon : Lexicon := ⟨[], []⟩
def addN (t : Text) (x : Lexicon) (d : Decision) : Lexicon := if addE t x d = 0 then addX x d else zLexicon
theorem ascD_perm (l : List Decision) : (ascD l).Perm l := List.mergeSort_perm _ _
theorem ascD_sorted (l : List Decision) : (ascD l).Pairwise fun a b => a.number ≤ b.number := by
 have h := List.pairwise_mergeSort (le := fun a b : Decision => decide (a.number ≤ b.number)) (by intro a b c h1 h2; simp at *; omega) (by intro a b; simp; omega) l
 exact h.imp (fun h => by simpa using h)
theorem ascD_eq {l ys : List Decision} (hp : ys.Perm l) (hs : ys.Pairwise fun a b => a.number ≤ b.number) (hn : (l.map (·.number)).Nodup) : ys = ascD l := by
 refine List.Perm.eq_of_pairwise (le := fun a b : Decision => a.number ≤ b.number) ?_ hs (ascD_sorted l) (hp.trans (ascD_perm l).symm)
 intro a b ha hb h1 h2
 exact nodup_key hn (hp.mem_iff.1 ha) ((ascD_perm l).mem_iff.1 hb) (by omega)
theorem addE_zero {t : Text} {x : Lexicon} {d : Decision} (h : addE t x d = 0) : checkN t x = 0 ∧ ¬ x.decisions.length = 20 ∧ checkN t (moreX x d) = 0 := by
 unfold addE at h
 split at h
 ·rename_i q; exact absurd h q
 ·rename_i q
  split at h
  ·cases h
  ·rename_i q2
   split at h
   ·cases h
   ·rename_i q3
    exact ⟨by simpa using q, q2, by simpa using q3⟩
theorem addX_check {t : Text} {x : Lexicon} {d : Decision} (h : checkN t (moreX x d) = 0) : checkN t (addX x d) = 0 := by
 have hp := ascD_perm (x.decisions ++ [d])
 refine lexiconB_of h rfl (fun e he => lexicon_dec h e (hp.mem_iff.1 he)) ?_ ?_
 ·have := lexicon_20 h
  rw [show (addX x d).decisions.length = (moreX x d).decisions.length from hp.length_eq]; exact this
 ·exact (hp.map _).nodup_iff.2 (okD_of h).1
def changesP (t : Text) (x : Lexicon) (d : Decision) : List Place := (placesT t).filter fun p => decide (headAt t (addX x d) p ≠ headAt t x p)
def changesR (t : Text) (x : Lexicon) (d : Decision) : List Place := if addE t x d = 0 then changesP t x d else []
theorem hom_keep {es : List Entry} {n : Nat} {y : Entry} (h : es[n]? = some y) {m : List (Str × Head)} (hm : ∀ w, look m w = hdFirst (es.take n) w) (h1 : (look m y.word).isSome = true) : ∀ w, look m w = hdFirst (es.take (n + 1)) w := by
 obtain ⟨z, hz⟩ := Option.isSome_iff_exists.1 h1
 exact hdFirst_keep h hm ((hm _).symm.trans hz)
theorem hom_put {es : List Entry} {n : Nat} {y : Entry} (h : es[n]? = some y) {m : List (Str × Head)} (hm : ∀ w, look m w = hdFirst (es.take n) w) (h1 : (look m y.word).isSome = true → (look m y.word).getD zHead = y.head) : ∀ w, look (putM m y.word y.head) w = hdFirst (es.take (n + 1)) w := by
 refine hdFirst_put h hm fun z hz => ?_
 rw [← hm] at hz
 rw [hz] at h1
 exact h1 rfl
theorem homAt_yes {es : List Entry} {y : Entry} {m : List (Str × Head)} (hm : ∀ w, look m w = hdFirst es w) (h1 : (look m y.word).isSome = true) (h2 : (look m y.word).getD zHead ≠ y.head) : homAt es y = [y.word] := by
 obtain ⟨z, hz⟩ := Option.isSome_iff_exists.1 h1
 rw [hz] at h2
 rw [hm] at hz
 simp only [homAt, hz]
 exact if_pos h2
theorem homAt_no {es : List Entry} {y : Entry} {m : List (Str × Head)} (hm : ∀ w, look m w = hdFirst es w) (h1 : (look m y.word).isSome = true → (look m y.word).getD zHead = y.head) : homAt es y = [] := by
 unfold homAt
 rw [← hm]
 cases hz : look m y.word with
 | none => rfl
 | some z =>
  rw [hz] at h1
  simp only []
  exact if_neg (fun q => q (h1 rfl))
theorem entry_at {t : Text} {x : Lexicon} {i : Nat} {y : Entry} (h : (entriesL t x)[i]? = some y) : ∃ p, (placesT t)[i]? = some p ∧ y = entryAt t x p := by
 rw [entriesL, List.getElem?_map] at h
 obtain ⟨p, hp, rfl⟩ := Option.map_eq_some_iff.1 h
 exact ⟨p, hp, rfl⟩
theorem change_at {t : Text} {x x' : Lexicon} {i : Nat} {y z : Entry} (hy : (entriesL t x')[i]? = some y) (hz : (entriesL t x)[i]? = some z) : ∃ p, (placesT t)[i]? = some p ∧ y.at_ = p ∧ (y = z ↔ headAt t x' p = headAt t x p) := by
 obtain ⟨p, hp, rfl⟩ := entry_at hy
 obtain ⟨q, hq, rfl⟩ := entry_at hz
 rw [hp] at hq; cases hq
 exact ⟨p, hp, rfl, by simp [entryAt]⟩
theorem entries_length (t : Text) (x : Lexicon) : (entriesL t x).length = (placesT t).length := by rw [entriesL, List.length_map]
theorem heads_length (t : Text) (x : Lexicon) : (headsL t x).length = (placesT t).length := by rw [headsL, List.length_map]
theorem head_pl {t : Text} {x : Lexicon} {i : Nat} {p : Place} {a : Head} (hp : (placesT t)[i]? = some p) (ha : (headsL t x)[i]? = some a) : a = headAt t x p := by
 rw [headsL, List.getElem?_map, hp] at ha
 exact (Option.some.inj ha).symm
theorem entry_pl {t : Text} {x : Lexicon} {i : Nat} {p : Place} (hp : (placesT t)[i]? = some p) : (entriesL t x)[i]? = some (entryAt t x p) := by
 rw [entriesL, List.getElem?_map, hp]; rfl
theorem pair_pl {t : Text} {x : Lexicon} {i k : Nat} {p q : Place} {a b : Head} (hp : (placesT t)[i]? = some p) (hq : (placesT t)[k]? = some q) (ha : (headsL t x)[i]? = some a) (hb : (headsL t x)[k]? = some b) : pairAt (entriesL t x) i k = if wordD t p = wordD t q ∧ a ≠ b then [wordD t p] else [] := by
 rw [pairAt_some (entry_pl hp) (entry_pl hq), head_pl hp ha, head_pl hq hb]
 rfl
theorem addE_bad {t : Text} {x : Lexicon} {d : Decision} (h : ¬ checkN t x = 0) : addE t x d = checkN t x ∧ addN t x d = zLexicon := by
 have e : addE t x d = checkN t x := if_pos h
 exact ⟨e, by rw [addN, e]; exact if_neg h⟩
theorem addE_full {t : Text} {x : Lexicon} {d : Decision} (h : checkN t x = 0) (h2 : x.decisions.length = 20) : addE t x d = 9 ∧ addN t x d = zLexicon := by
 have e : addE t x d = 9 := by rw [addE, if_neg (fun q => q h), if_pos h2]
 exact ⟨e, by rw [addN, e]; rfl⟩
theorem addE_err {t : Text} {x : Lexicon} {d : Decision} (h : checkN t x = 0) (h2 : ¬ x.decisions.length = 20) (h3 : ¬ checkN t (moreX x d) = 0) : addE t x d = 41 ∧ addN t x d = zLexicon := by
 have e : addE t x d = 41 := by rw [addE, if_neg (fun q => q h), if_neg h2, if_pos h3]
 exact ⟨e, by rw [addN, e]; rfl⟩
theorem addE_ok {t : Text} {x : Lexicon} {d : Decision} (h : checkN t x = 0) (h2 : ¬ x.decisions.length = 20) (h3 : checkN t (moreX x d) = 0) : addE t x d = 0 ∧ addN t x d = addX x d := by
 have e : addE t x d = 0 := by rw [addE, if_neg (fun q => q h), if_neg h2, if_neg (fun q => q h3)]
 exact ⟨e, by rw [addN, e]; rfl⟩
theorem more_bad {t : Text} {x : Lexicon} (ht : textB t = true) (h : lexiconB t x = false) : ¬ checkN t x = 0 := by simp [checkN, ht, h]
theorem more_ok {t : Text} {x : Lexicon} (ht : textB t = true) (h : lexiconB t x = true) : checkN t x = 0 := by simp [checkN, ht, h]
theorem addN_len1 (t : Text) (x : Lexicon) (d : Decision) : (addN t x d).rules.length ≤ 281474976710656 := by
 unfold addN
 split
 ·have := lexicon_12 (addE_zero (by assumption)).2.2
  simp only [addX, moreX] at *; omega
 ·simp [zLexicon]
theorem addN_len2 (t : Text) (x : Lexicon) (d : Decision) : (addN t x d).decisions.length ≤ 281474976710656 := by
 unfold addN
 split
 ·have := lexicon_20 (addX_check (addE_zero (by assumption)).2.2)
  omega
 ·simp [zLexicon]
end Go.Pk

namespace Go.Pk
open Go Go.RowKit
/-- the i-th decision on its way to the left, now at k -/
def insK (ds : List Decision) (i k : Nat) (y : Decision) : List Decision := ds.take k ++ y :: ((ds.take i).drop k ++ ds.drop (i + 1))
theorem insK_start {ds : List Decision} {i : Nat} {y : Decision} (h : ds[i]? = some y) : insK ds i i y = ds := by
 rw [insK, List.drop_eq_nil_of_le (by rw [List.length_take]; omega), List.nil_append, ← drop_cons h, List.take_append_drop]
theorem insK_perm {ds : List Decision} {i k : Nat} {y : Decision} (h : ds[i]? = some y) (hk : k ≤ i) : (insK ds i k y).Perm ds := by
 have e : ds.take i = ds.take k ++ (ds.take i).drop k := by
  conv => lhs; rw [← List.take_append_drop k (ds.take i), List.take_take, Nat.min_eq_left hk]
 have h1 : ds = ds.take k ++ ((ds.take i).drop k ++ y :: ds.drop (i + 1)) := by
  rw [← List.append_assoc, ← e, ← drop_cons h, List.take_append_drop]
 conv => rhs; rw [h1]
 rw [insK]
 exact List.Perm.append_left _ List.perm_middle.symm
theorem insK_len {ds : List Decision} {i k : Nat} {y : Decision} (h : ds[i]? = some y) (hk : k ≤ i) : (insK ds i k y).length = ds.length := (insK_perm h hk).length_eq
theorem insK_at {ds : List Decision} {i k : Nat} {y : Decision} (h : ds[i]? = some y) (hk : k ≤ i) : (insK ds i k y)[k]? = some y := by
 obtain ⟨h1, _⟩ := List.getElem?_eq_some_iff.1 h
 have hl : (ds.take k).length = k := by rw [List.length_take]; omega
 rw [insK, List.getElem?_append_right (by omega), hl, Nat.sub_self]
 rfl
theorem insK_pred {ds : List Decision} {i k : Nat} {y : Decision} (h : ds[i]? = some y) (hk : k ≤ i) (h0 : 0 < k) : (insK ds i k y)[k - 1]? = ds[k - 1]? := by
 obtain ⟨h1, _⟩ := List.getElem?_eq_some_iff.1 h
 rw [insK, List.getElem?_append_left (by rw [List.length_take]; omega), List.getElem?_take, if_pos (by omega)]
theorem insK_step {ds : List Decision} {i k : Nat} {y z : Decision} (h : ds[i]? = some y) (hk : k ≤ i) (h0 : 0 < k) (hz : ds[k - 1]? = some z) : ((insK ds i k y).set k z).set (k - 1) y = insK ds i (k - 1) y := by
 obtain ⟨m, rfl⟩ : ∃ m, k = m + 1 := ⟨k - 1, by omega⟩
 rw [Nat.add_sub_cancel] at hz ⊢
 obtain ⟨h1, _⟩ := List.getElem?_eq_some_iff.1 h
 have hl : (ds.take m).length = m := by rw [List.length_take]; omega
 have hzi : (ds.take i)[m]? = some z := by rw [List.getElem?_take, if_pos (by omega)]; exact hz
 rw [insK, insK, take_snoc hz, drop_cons hzi]
 have e1 : (ds.take m ++ [z] ++ y :: ((ds.take i).drop (m + 1) ++ ds.drop (i + 1))).set (m + 1) z = ds.take m ++ [z] ++ z :: ((ds.take i).drop (m + 1) ++ ds.drop (i + 1)) := by
  have hl2 : (ds.take m ++ [z]).length = m + 1 := by simp [hl]
  rw [List.set_append_right _ _ (by omega), hl2, Nat.sub_self, List.set_cons_zero]
 rw [e1, List.append_assoc, List.set_append_right _ _ (by omega), hl, Nat.sub_self]
 rfl
/-- part way: the first i in order -/
def sortedTo (ds : List Decision) (i : Nat) : Prop := (ds.take i).Pairwise fun a b => a.number ≤ b.number
theorem sorted_one (ds : List Decision) : sortedTo ds 1 := by
 unfold sortedTo
 cases ds with
 | nil => simp
 | cons d ds => simp
theorem insK_sorted {ds : List Decision} {i k : Nat} {y : Decision} (h : ds[i]? = some y) (hk : k ≤ i) (hs : sortedTo ds i) (hg : ∀ z ∈ (ds.take i).drop k, y.number < z.number) (hle : 0 < k → ∀ z, ds[k - 1]? = some z → z.number ≤ y.number) : sortedTo (insK ds i k y) (i + 1) := by
 obtain ⟨h1, _⟩ := List.getElem?_eq_some_iff.1 h
 unfold sortedTo at hs ⊢
 have e : (insK ds i k y).take (i + 1) = ds.take k ++ y :: (ds.take i).drop k := by
  have hl : (ds.take k ++ y :: (ds.take i).drop k).length = i + 1 := by simp; omega
  rw [insK, show ds.take k ++ y :: ((ds.take i).drop k ++ ds.drop (i + 1)) = (ds.take k ++ y :: (ds.take i).drop k) ++ ds.drop (i + 1) by simp, List.take_append_of_le_length (by omega), List.take_of_length_le (by omega)]
 have e2 : ds.take i = ds.take k ++ (ds.take i).drop k := by
  conv => lhs; rw [← List.take_append_drop k (ds.take i), List.take_take, Nat.min_eq_left hk]
 rw [e2] at hs
 obtain ⟨s1, s2, s3⟩ := List.pairwise_append.1 hs
 rw [e]
 refine List.pairwise_append.2 ⟨s1, List.pairwise_cons.2 ⟨fun z hz => by have := hg z hz; omega, s2⟩, fun a ha b hb => ?_⟩
 rcases List.mem_cons.1 hb with rfl | hb
 ·-- all ahead of k are at most the last of these
  cases k with
  | zero => simp at ha
  | succ m =>
   obtain ⟨z, hz⟩ : ∃ z, ds[m]? = some z := ⟨_, List.getElem?_eq_getElem (by omega)⟩
   have hzb := hle (by omega) z (by simpa using hz)
   rw [take_snoc hz] at s1 ha
   rcases List.mem_append.1 ha with ha | ha
   ·have := (List.pairwise_append.1 s1).2.2 a ha z (by simp)
    omega
   ·simp at ha; subst ha; exact hzb
 ·exact s3 a ha b hb
theorem insK_gt {ds : List Decision} {i k : Nat} {y z : Decision} (hk : k ≤ i) (h0 : 0 < k) (hz : ds[k - 1]? = some z) (hyz : y.number < z.number) (hg : ∀ z ∈ (ds.take i).drop k, y.number < z.number) : ∀ z ∈ (ds.take i).drop (k - 1), y.number < z.number := by
 obtain ⟨m, rfl⟩ : ∃ m, k = m + 1 := ⟨k - 1, by omega⟩
 rw [Nat.add_sub_cancel] at hz ⊢
 have hzi : (ds.take i)[m]? = some z := by rw [List.getElem?_take, if_pos (by omega)]; exact hz
 rw [drop_cons hzi]
 intro u hu
 rcases List.mem_cons.1 hu with rfl | hu
 ·exact hyz
 ·exact hg u hu
theorem ascD_of {l ds : List Decision} {i : Nat} (hp : ds.Perm l) (hs : sortedTo ds i) (hi : ds.length ≤ i) (hn : (l.map (·.number)).Nodup) : ds = ascD l := by
 unfold sortedTo at hs
 rw [List.take_of_length_le hi] at hs
 exact ascD_eq hp hs hn
end Go.Pk

namespace Go.Pk
theorem X {α : Sort _} {a : α} : a = a := rfl
theorem t_kr {p : Prop} (h : p := by kernel_rfl) : p := h
theorem zZ {p : Prop} (h : p := by first | assumption | (simp [big]; done) | (simp [big]; omega) | omega) : p := h
theorem t_u8 {p : Prop} (h : p := by first | assumption | decide | omega | (dsimp only; omega) | (simp; omega)) : p := h
theorem t_om {p : Prop} (h : p := by first | omega | (simp; omega)) : p := h
theorem t_len {p : Prop} (h : p := by first | omega | (simp only [List.length_append, List.length_take, List.length_drop, List.length_map, List.length_cons, List.length_nil]; omega) | (simp; omega)) : p := h
theorem zae {p : Prop} (h : p := by repeat (first | exact Agree.mix _ _ _ | exact Agree.refl _ _ | refine Agree.updO rfl ?_ | refine Agree.upd rfl ?_ | refine Agree.known rfl ?_ | refine Agree.sub rfl ?_)) : p := h
theorem zak {p : Prop} (h : p := by first | omega | simp | trivial) : p := h
end Go.Pk
