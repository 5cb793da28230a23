/- A PART OF THE PROOF: contracts of functions, each walked once (much of it printed by a program of the author's own). -/
import Derived.Test.YtfgkfdglomngiaaGreatDoorT1
import Derived.Test.YtfgkfdglomngiaaGreatDoorT2
import Derived.Laws.CopyRow
import Derived.Sort.Walk0
import Derived.Test.YtfgkfdglomngiaaGreatDoorT0
set_option linter.unusedSimpArgs false
set_option linter.unusedVariables false
namespace Go.Pk
open Go Go.RowKit
section
variable {α : Type} {L : Lay α} {T : TypeId} {h : Heap}
def vtake : Value → Nat → Value
 | .slice p _ c, k => .slice p k c
 | v, _ => v
def vdrop (s : Nat) : Value → Nat → Value
 | .slice p n c, k => .slice (if c = k then p else p.map (·.add (k * s))) (n - k) (c - k)
 | v, _ => v
theorem Enc.take {cs : List Value} {xs : List α} (e : Enc L h cs xs) {k : Nat} (hk : k ≤ xs.length) : Enc L h (cs.take (k * L.size)) (xs.take k) := by
 have hle : k * L.size ≤ cs.length := by rw [e.1]; exact Nat.mul_le_mul_right _ hk
 refine ⟨by rw [List.length_take, List.length_take, Nat.min_eq_left hle, Nat.min_eq_left hk], fun i x hi => ?_⟩
 have hik : i < k := by
  rw [List.getElem?_take] at hi
  split at hi
  ·assumption
  ·cases hi
 rw [List.getElem?_take, if_pos hik] at hi
 have hr := e.2 i x hi
 have h1 : i * L.size + L.size ≤ k * L.size := by rw [← Nat.succ_mul]; exact Nat.mul_le_mul_right _ hik
 rw [List.drop_take, List.take_take, Nat.min_eq_left (by omega)]
 exact hr
theorem Enc.drop {cs : List Value} {xs : List α} (e : Enc L h cs xs) (k : Nat) : Enc L h (cs.drop (k * L.size)) (xs.drop k) := by
 refine ⟨by rw [List.length_drop, List.length_drop, e.1, Nat.sub_mul], fun i x hi => ?_⟩
 rw [List.getElem?_drop] at hi
 have hr := e.2 _ x hi
 rw [List.drop_drop, ← Nat.add_mul]
 exact hr
theorem Enc.set {cs vs : List Value} {xs : List α} {i : Nat} {y : α} (e : Enc L h cs xs) (hi : i < xs.length) (hr : L.R h vs y) : Enc L h (cs.take (i * L.size) ++ vs ++ cs.drop ((i + 1) * L.size)) (xs.set i y) := by
 rw [List.set_eq_take_append_cons_drop, if_pos hi]
 have h1 := ((e.take (Nat.le_of_lt hi)).append (Enc.one1 hr)).append (e.drop (i + 1))
 rw [List.append_assoc (xs.take i)] at h1
 exact h1
theorem OSl.take {v : Value} {xs : List α} {o : List (Nat × Obj)} (e : OSl L T h v xs o) {k : Nat} (hk : k ≤ xs.length) : OSl L T h (vtake v k) (xs.take k) o := by
 obtain ⟨cs, e1, ⟨⟨p, rfl⟩, rfl, rfl⟩ | ⟨g, cap, cur, rfl, rfl, hnc, hcm, hsz, htk⟩⟩ := e
 ·have : k = 0 := by simpa using hk
  subst this
  exact ⟨[], ⟨by simp, by simp⟩, .inl ⟨⟨p, rfl⟩, by simp, rfl⟩⟩
 ·have hl : (xs.take k).length = k := by rw [List.length_take, Nat.min_eq_left hk]
  refine ⟨_, e1.take hk, .inr ⟨g, cap, cur, by rw [hl]; rfl, rfl, by omega, hcm, hsz, ?_⟩⟩
  rw [hl, ← htk, List.take_take, Nat.min_eq_left (Nat.mul_le_mul_right _ hk)]
/-- an element of the rest of a slice -/
theorem Elem.drop {v : Value} {k j s b o : Nat} (e : Elem v (k + j) s b o) (hc : ∀ p n c, v = .slice p n c → n ≤ c) : Elem (vdrop s v k) j s b o := by
 obtain ⟨off, n, c, rfl, hlt, rfl⟩ := e
 have := hc _ _ _ rfl
 refine ⟨off + k * s, n - k, c - k, ?_, by omega, by rw [Nat.add_mul]; omega⟩
 simp only [vdrop]
 rw [if_neg (by omega)]
 simp [addr_add]
theorem Elem.drop' {v : Value} {k j m s b o : Nat} (e : Elem v m s b o) (hm : m = k + j) (hc : ∀ p n c, v = .slice p n c → n ≤ c) : Elem (vdrop s v k) j s b o := by
 subst hm; exact e.drop hc
theorem OSl.caps {v : Value} {xs : List α} {o : List (Nat × Obj)} (e : OSl L T h v xs o) : ∀ p n c, v = .slice p n c → n ≤ c := by
 rintro p n c rfl
 obtain ⟨cs, e1, ⟨⟨q, e2⟩, rfl, rfl⟩ | ⟨g, cap, cur, e2, rfl, hnc, hcm, hsz, htk⟩⟩ := e
 ·cases e2; exact Nat.le_refl _
 ·cases e2; exact hnc
theorem OSl.len {v : Value} {xs : List α} {o : List (Nat × Obj)} (e : OSl L T h v xs o) : ∀ p n c, v = .slice p n c → n = xs.length := by
 rintro p n c rfl
 obtain ⟨q, c', e2⟩ := e.form
 cases e2; rfl
end
section
variable {P : Program} {n : Nat} {ops : Array Oper} {rest : List Oper} {K : Env → World → Prop} {σ : Env} {w w0 : World} {h0 h : Heap} {own : Own} {ty : TypeId} {pos : String} {aft : Array Edge} {d : Nat} {dst : Option Tmp} {g : Option (Nat × Bool)}
theorem r_slice_to_own {α : Type} {L : Lay α} {T : TypeId} {xs : List α} {v : Value} {o : List (Nat × Obj)} {t e : TypeId} {x hi_ : Operand} {i : Int} {k m : Nat} (hO : OSl L T h v xs o) (hx : ev σ x = v) (hi : ev σ hi_ = .int .i64 i) (hk : i = (k : Int)) (hle : k ≤ xs.length) (hu : P.underlying t = some (.slice e)) (hz : ∀ w, (sizeOf e).run P w = .ok m w) :
  Run P σ w ⟨dst, .slice t x none (some hi_) none, ty, pos, aft, g⟩ (vtake v k) w := by
 subst hk
 obtain ⟨p, c, rfl⟩ := hO.form
 have hc := hO.caps _ _ _ rfl
 have h1 : k ≤ c := by omega
 cases p <;> simp [Run, execOp, hx, hi, Instr.sliceAt, Instr.slice, run_underlying hu, Instr.sliceBounds, Instr.sliceBound, asIntOf, hz, h1, vtake]
 rename_i a
 intro _
 cases a
 rfl
theorem r_slice_from_own {α : Type} {L : Lay α} {T : TypeId} {xs : List α} {v : Value} {o : List (Nat × Obj)} {t e : TypeId} {x lo : Operand} {i : Int} {k m : Nat} (hO : OSl L T h v xs o) (hx : ev σ x = v) (hi : ev σ lo = .int .i64 i) (hk : i = (k : Int)) (hle : k ≤ xs.length) (hu : P.underlying t = some (.slice e)) (hz : ∀ w, (sizeOf e).run P w = .ok m w) :
  Run P σ w ⟨dst, .slice t x (some lo) none none, ty, pos, aft, g⟩ (vdrop m v k) w := by
 subst hk
 obtain ⟨p, c, rfl⟩ := hO.form
 have h1 : k ≤ xs.length := hle
 simp [Run, execOp, hx, hi, Instr.sliceAt, Instr.slice, run_underlying hu, Instr.sliceBounds, Instr.sliceBound, asIntOf, hz, h1, vdrop]
theorem r_len_vdrop {v : Value} {t e : TypeId} {x : Operand} {s k len : Nat} (hx : ev σ x = vdrop s v k) (hl : ∃ p c, v = .slice p len c) (hu : P.underlying t = some (.slice e)) :
  Run P σ w ⟨dst, .call ⟨.builtin .len, #[x], #[t]⟩, ty, pos, aft, g⟩ (.int .i64 ((len - k : Nat) : Int)) w := by
 obtain ⟨p, c, rfl⟩ := hl
 exact r_len_sl hx hu
/-- an element of one's own slice turns -/
theorem spliced_split : ∀ (us pre : List Value) (cs : List Value), us.length ≤ cs.length → spliced (pre ++ cs) pre.length us = pre ++ us ++ cs.drop us.length
 | [], pre, cs, _ => by simp [spliced]
 | u :: us, pre, [], h => by simp at h
 | u :: us, pre, c :: cs, h => by
  have ih := spliced_split us (pre ++ [u]) cs (by simpa using h)
  simp only [List.length_append, List.length_cons, List.length_nil, Nat.zero_add] at ih
  rw [spliced, List.set_append_right _ _ (Nat.le_refl _), Nat.sub_self, List.set_cons_zero]
  rw [show pre ++ u :: cs = pre ++ [u] ++ cs by simp, ih]
  simp
theorem spliced_eq' {cs us : List Value} {off : Nat} (h : off + us.length ≤ cs.length) : spliced cs off us = cs.take off ++ us ++ cs.drop (off + us.length) := by
 have h1 := spliced_split us (cs.take off) (cs.drop off) (by rw [List.length_drop]; omega)
 rw [List.take_append_drop, List.length_take, Nat.min_eq_left (by omega), List.drop_drop] at h1
 exact h1
theorem OpsL.storeEl {α : Type} {L : Lay α} {T : TypeId} {v : Value} {xs : List α} {o : List (Nat × Obj)} {k i b off : Nat} {y0 : α} {us : List Value} {t : TypeId} {x y : Operand} (st : St h0 w0 h w own) (hO : OSl L T h v xs o) (hk : own[k]? = some o) (hi : i < xs.length) (he : Elem v i L.size b off)
  (hx : ev σ x = .pointer (some ⟨b, off, none⟩)) (hy : ev σ y = .agg us.toArray) (hR : L.R h us y0) (hz : ∀ w, (sizeOf t).run P w = .ok us.length w)
  (hK : ∀ o' w' own', own' = own.set k o' → OSl L T h v (xs.set i y0) o' → St h0 w0 h w' own' → OpsL P n ops rest K σ w') : OpsL P n ops (⟨none, .store t x y, ty, pos, aft, none⟩ :: rest) K σ w := by
 obtain ⟨cs, e1, ⟨⟨p, rfl⟩, rfl, rfl⟩ | ⟨gb, cap, cur, rfl, rfl, hnc, hcm, hsz, htk⟩⟩ := hO
 ·simp at hi
 ·obtain ⟨off0, n', c', e2, hlt, rfl⟩ := he
  cases e2
  have hul := L.len hR
  have h1 : (i + 1) * L.size ≤ xs.length * L.size := Nat.mul_le_mul_right _ hi
  have h2 : xs.length * L.size ≤ cap * L.size := Nat.mul_le_mul_right _ hnc
  rw [Nat.succ_mul] at h1
  have hcl : cur.toList.length = cap * L.size := by rw [Array.length_toList, hsz]
  have ho : (0 + i * L.size) + us.length ≤ cur.toList.length := by rw [hcl]; have hul' : us.length = L.size := hul; omega
  have hk' : own[k]? = some [(b, .cells cur.toList.toArray T)] := by simpa using hk
  have hsp := spliced_eq' ho
  refine zq st hk' hx hy (by rw [List.all_eq_true]; exact fun u hu => L.one hR u hu) hz (by simpa using ho) hsp rfl fun w' st' => ?_
  have hlen : (cur.toList.take (0 + i * L.size)).length = i * L.size := by rw [List.length_take, hcl]; omega
  refine hK _ _ _ rfl ⟨_, e1.set hi hR, .inr ⟨b, cap, _, by rw [List.length_set], rfl, by rw [List.length_set]; exact hnc, hcm, ?_, ?_⟩⟩ st'
  ·simp only [List.size_toArray, List.length_append, hlen, List.length_drop, hcl]
   omega
  ·rw [List.length_set, ← htk]
   have e3 : (i + 1) * L.size = i * L.size + L.size := Nat.succ_mul _ _
   have hul' : us.length = L.size := hul
   rw [List.take_take, Nat.min_eq_left (by omega), e3, List.drop_take]
   rw [List.take_append, List.take_of_length_le (l := cur.toList.take (0 + i * L.size) ++ us) (by rw [List.length_append, hlen]; omega), List.length_append, hlen, hul', Nat.zero_add]
/-- the same where an element is one cell -/
theorem OpsL.storeEl1 {α : Type} {L : Lay α} {T : TypeId} {v : Value} {xs : List α} {o : List (Nat × Obj)} {k i b off : Nat} {y0 : α} {u : Value} {t : TypeId} {x y : Operand} (st : St h0 w0 h w own) (hO : OSl L T h v xs o) (hk : own[k]? = some o) (hi : i < xs.length) (he : Elem v i L.size b off)
  (hx : ev σ x = .pointer (some ⟨b, off, none⟩)) (hy : ev σ y = u) (hR : L.R h [u] y0) (hz : ∀ w, (sizeOf t).run P w = .ok 1 w)
  (hK : ∀ o' w' own', own' = own.set k o' → OSl L T h v (xs.set i y0) o' → St h0 w0 h w' own' → OpsL P n ops rest K σ w') : OpsL P n ops (⟨none, .store t x y, ty, pos, aft, none⟩ :: rest) K σ w := by
 obtain ⟨cs, e1, ⟨⟨p, rfl⟩, rfl, rfl⟩ | ⟨gb, cap, cur, rfl, rfl, hnc, hcm, hsz, htk⟩⟩ := hO
 ·simp at hi
 ·obtain ⟨off0, n', c', e2, hlt, rfl⟩ := he
  cases e2
  have hul := L.len hR
  have h1 : (i + 1) * L.size ≤ xs.length * L.size := Nat.mul_le_mul_right _ hi
  have h2 : xs.length * L.size ≤ cap * L.size := Nat.mul_le_mul_right _ hnc
  rw [Nat.succ_mul] at h1
  have hcl : cur.toList.length = cap * L.size := by rw [Array.length_toList, hsz]
  have hs1 : L.size = 1 := by rw [← hul]; rfl
  have ho : (0 + i * L.size) + [u].length ≤ cur.toList.length := by rw [hcl]; have hul' : [u].length = L.size := hul; omega
  have hk' : own[k]? = some [(b, .cells cur.toList.toArray T)] := by simpa using hk
  have hsp := spliced_eq' ho
  have hlen : (cur.toList.take (0 + i * L.size)).length = i * L.size := by rw [List.length_take, hcl]; omega
  have hlt' : 0 + i * L.size < cur.toList.length := by have h9 : [u].length = 1 := rfl; omega
  refine OpsL.store1 st hk' hx hy (L.one hR u (by simp)) hz (by simpa using hlt') rfl rfl fun w' st' => ?_
  refine hK _ _ _ rfl ⟨_, e1.set hi hR, .inr ⟨b, cap, _, by rw [List.length_set], rfl, by rw [List.length_set]; exact hnc, hcm, ?_, ?_⟩⟩ st'
  ·simp [hsz]
  ·have hset : cur.toList.set (0 + i * L.size) u = cur.toList.take (0 + i * L.size) ++ [u] ++ cur.toList.drop (0 + i * L.size + [u].length) := by
    rw [← hsp]; rfl
   rw [List.length_set, ← htk]
   have e3 : (i + 1) * L.size = i * L.size + L.size := Nat.succ_mul _ _
   rw [List.take_take, Nat.min_eq_left (by omega), e3, List.drop_take]
   have hul' : [u].length = L.size := hul
   show (cur.toList.set (0 + i * L.size) u).take (xs.length * L.size) = _
   rw [hset, List.take_append, List.take_of_length_le (l := cur.toList.take (0 + i * L.size) ++ [u]) (by rw [List.length_append, hlen]; omega), List.length_append, hlen, hul', Nat.zero_add]
def vsub (s : Nat) : Value → Nat → Nat → Value
 | .slice p _ c, l, m => .slice (if c = l then p else p.map (·.add (l * s))) (m - l) (c - l)
 | v, _, _ => v
theorem r_slice_lh_own {p : Option Addr} {len c : Nat} {v : Value} {t e : TypeId} {x lo hi_ : Operand} {i1 i2 : Int} {l m s : Nat} (hv : v = .slice p len c) (hx : ev σ x = v) (hi : ev σ lo = .int .i64 i1) (hj : ev σ hi_ = .int .i64 i2) (hl : i1 = (l : Int)) (hm : i2 = (m : Int)) (hlm : l ≤ m) (hmc : m ≤ c) (hu : P.underlying t = some (.slice e)) (hz : ∀ w, (sizeOf e).run P w = .ok s w) :
  Run P σ w ⟨dst, .slice t x (some lo) (some hi_) none, ty, pos, aft, g⟩ (vsub s v l m) w := by
 subst hl; subst hm; subst hv
 simp [Run, execOp, hx, hi, hj, Instr.sliceAt, Instr.slice, run_underlying hu, Instr.sliceBounds, Instr.sliceBound, asIntOf, hz, hlm, hmc, vsub]
theorem r_slice_lhm_own {p : Option Addr} {len c : Nat} {v : Value} {t e : TypeId} {x lo hi_ mx : Operand} {i1 i2 i3 : Int} {l m q s : Nat} (hv : v = .slice p len c) (hx : ev σ x = v) (hi : ev σ lo = .int .i64 i1) (hj : ev σ hi_ = .int .i64 i2) (hq : ev σ mx = .int .i64 i3) (hl : i1 = (l : Int)) (hm : i2 = (m : Int)) (hq2 : i3 = (q : Int)) (hlm : l ≤ m) (hmq : m ≤ q) (hmc : q ≤ c) (hu : P.underlying t = some (.slice e)) (hz : ∀ w, (sizeOf e).run P w = .ok s w) :
  Run P σ w ⟨dst, .slice t x (some lo) (some hi_) (some mx), ty, pos, aft, g⟩ (.slice (if q = l then p else p.map (·.add (l * s))) (m - l) (q - l)) w := by
 subst hl; subst hm; subst hq2; subst hv
 simp [Run, execOp, hx, hi, hj, hq, Instr.sliceAt, Instr.slice, run_underlying hu, Instr.sliceBounds, Instr.sliceBound, asIntOf, hz, hlm, hmc, hmq]
theorem set_same {own : Own} {k : Nat} {o : List (Nat × Obj)} (hk : own[k]? = some o) : own.set k o = own := by
 apply List.ext_getElem?
 intro q
 rw [List.getElem?_set]
 split
 ·rename_i e4; subst e4
  split
  ·exact hk.symm
  ·rename_i h5; rw [List.getElem?_eq_none (by omega)]
 ·rfl
/-- a part of one's own slice is cleared -/
theorem OpsL.clearSub {α : Type} {L : Lay α} {T : TypeId} {v : Value} {xs : List α} {o : List (Nat × Obj)} {k l m : Nat} {t e : TypeId} {z : Value} {x : Operand} (st : St h0 w0 h w own) (hO : OSl L T h v xs o) (hk : own[k]? = some o) (hlm : l ≤ m) (hmc : ∀ p n c, v = .slice p n c → m ≤ c)
  (hx : ev σ x = vsub L.size v l m) (ht : P.underlying t = some (.slice e)) (hz : ∀ w, (zeroValue e).run P w = .ok z w) (hzs : z.cells.size = L.size) (hz1 : ∀ u ∈ z.cells.toList, u.oneCell' = true)
  (hK : ∀ o' w' own', own' = own.set k o' → (∀ j, j ≤ l → j ≤ xs.length → OSl L T h (vtake v j) (xs.take j) o') → St h0 w0 h w' own' → OpsL P n ops rest K σ w') : OpsL P n ops (⟨none, .call ⟨.builtin .clear, #[x], #[t]⟩, ty, pos, aft, none⟩ :: rest) K σ w := by
 have hset := set_same hk
 have run (v' : Value) (w' : World) (hv : vsub L.size v l m = v') (hr : (Builtin.clear_ #[t] ty #[v']).run P w = .ok (.tuple #[]) w') : Run P σ w ⟨none, .call ⟨.builtin .clear, #[x], #[t]⟩, ty, pos, aft, none⟩ (.tuple #[]) w' := by
  refine run_bi rfl (vs := [v']) (by simp [hx, hv]) fun cs => ?_
  simp only [builtin, Sem.run_bind, hr, Result.andThen_ok, Sem.run_pure]
 obtain ⟨cs, e1, ⟨⟨p, rfl⟩, rfl, rfl⟩ | ⟨gb, cap, cur, rfl, rfl, hnc, hcm, hsz, htk⟩⟩ := hO
 ·have hm0 : m - l = 0 := by have := hmc _ _ _ rfl; omega
  refine ze rfl rfl (run _ w rfl ?_) (hK [] w _ rfl (fun j _ hj => ?_) (by rw [hset]; exact st))
  ·simp only [vsub, hm0]
   split <;> cases p <;> simp [Builtin.clear_, run_underlying ht]
  ·have : j = 0 := by simpa using hj
   subst this
   exact ⟨[], ⟨by simp, by simp⟩, .inl ⟨⟨p, rfl⟩, by simp, rfl⟩⟩
 ·have hmc := hmc _ _ _ rfl
  have hcl : cur.toList.length = cap * L.size := by rw [Array.length_toList, hsz]
  have fin : ∀ (cur' : Array Value) w', cur'.size = cap * L.size → cur'.toList.take (l * L.size) = cur.toList.take (l * L.size) → St h0 w0 h w' (own.set k [(gb, .cells cur' T)]) → OpsL P n ops rest K σ w' := by
   intro cur' w' h1 h2 s
   refine hK _ w' _ rfl (fun j hjl hj => ⟨_, e1.take hj, .inr ⟨gb, cap, cur', ?_, rfl, ?_, hcm, h1, ?_⟩⟩) s
   ·rw [List.length_take, Nat.min_eq_left hj]; rfl
   ·rw [List.length_take, Nat.min_eq_left hj]; omega
   ·have h3 := congrArg (List.take (j * L.size)) h2
    rw [List.take_take, List.take_take, Nat.min_eq_left (Nat.mul_le_mul_right _ hjl)] at h3
    rw [List.length_take, Nat.min_eq_left hj, h3, ← htk, List.take_take, Nat.min_eq_left (Nat.mul_le_mul_right _ hj)]
  by_cases h0 : m - l = 0
  ·refine ze rfl rfl (run _ w rfl ?_) (fin cur w hsz rfl (by rw [hset]; exact st))
   simp only [vsub, h0]
   split <;> simp [Builtin.clear_, run_underlying ht]
  ·have hgw := st.get hk
   have hfit : l * L.size + (List.length (Builtin.zeroCells z.cells (m - l)).toList) ≤ cur.size := by
    rw [Array.length_toList, size_zeroCells, hzs, hsz]
    have h2 : (l + (m - l)) * L.size ≤ cap * L.size := Nat.mul_le_mul_right _ (by omega)
    rw [Nat.add_mul] at h2
    exact h2
   have hst := run_storeCells_at P gb (l * L.size) T (Builtin.zeroCells z.cells (m - l)).toList 0 cur w hgw (by simpa using hfit) ?_
   ·simp only [Nat.add_zero] at hst
    refine ze rfl rfl (run (.slice ((some (⟨gb, 0, none⟩ : Addr)).map (·.add (l * L.size))) (m - l) (cap - l)) (w.setRow gb (cur.toList.take (l * L.size) ++ (Builtin.zeroCells z.cells (m - l)).toList ++ cur.toList.drop (l * L.size + (Builtin.zeroCells z.cells (m - l)).toList.length)).toArray) (by simp only [vsub]; rw [if_neg (by omega : ¬ cap = l)]) ?_) (fin (cur.toList.take (l * L.size) ++ (Builtin.zeroCells z.cells (m - l)).toList ++ cur.toList.drop (l * L.size + (Builtin.zeroCells z.cells (m - l)).toList.length)).toArray _ ?_ ?_ ?_)
    ·obtain ⟨q, hm⟩ : ∃ q, m - l = q + 1 := ⟨m - l - 1, by omega⟩
     rw [hm] at hst
     simp [Builtin.clear_, run_underlying ht, hm, hz, addr_add, hst]
    ·rw [List.size_toArray, List.length_append, List.length_append, List.length_take, List.length_drop, hcl]
     omega
    ·rw [List.append_assoc, List.take_append, List.length_take, hcl]
     rw [List.take_take, Nat.min_self, show l * L.size - min (l * L.size) (cap * L.size) = 0 by have := Nat.mul_le_mul_right L.size (show l ≤ cap by omega); omega, List.take_zero, List.append_nil]
    ·have := st.set (.cells (cur.toList.take (l * L.size) ++ (Builtin.zeroCells z.cells (m - l)).toList ++ cur.toList.drop (l * L.size + (Builtin.zeroCells z.cells (m - l)).toList.length)).toArray T) hk
     refine this.same ?_ rfl rfl rfl (Nat.le_refl _)
     apply Array.ext_getElem?
     intro q
     have hlt := lt_of_some hgw
     by_cases ej : q = gb
     ·subst ej
      rw [setRow_heap w _ cur _ T _ hgw]; simp [hlt]
     ·rw [setRow_other w gb q _ ej]; simp [Ne.symm ej]
   ·intro u hu
    refine hz1 u ?_
    simp only [Builtin.zeroCells, Array.toList_map, List.mem_map] at hu
    obtain ⟨q, hq, rfl⟩ := hu
    have hq2 : q < (m - l) * z.cells.size := by simpa using hq
    have hpos : 0 < z.cells.size := by
     rcases Nat.eq_zero_or_pos z.cells.size with e0 | e0
     ·rw [e0] at hq2; omega
     ·exact e0
    have hm := Nat.mod_lt q hpos
    rw [getElem!_pos z.cells _ hm]
    exact Array.getElem_mem_toList hm
/-- the rest of one's own slice is cleared -/
theorem OpsL.clearTail {α : Type} {L : Lay α} {T : TypeId} {v : Value} {xs : List α} {o : List (Nat × Obj)} {k j : Nat} {t e : TypeId} {z : Value} {x : Operand} (st : St h0 w0 h w own) (hO : OSl L T h v xs o) (hk : own[k]? = some o) (hj : j ≤ xs.length)
  (hx : ev σ x = vdrop L.size v j) (ht : P.underlying t = some (.slice e)) (hz : ∀ w, (zeroValue e).run P w = .ok z w) (hzs : z.cells.size = L.size) (hz1 : ∀ u ∈ z.cells.toList, u.oneCell' = true)
  (hK : ∀ o' w' own', own' = own.set k o' → OSl L T h (vtake v j) (xs.take j) o' → St h0 w0 h w' own' → OpsL P n ops rest K σ w') : OpsL P n ops (⟨none, .call ⟨.builtin .clear, #[x], #[t]⟩, ty, pos, aft, none⟩ :: rest) K σ w := by
 obtain ⟨p, c, rfl⟩ := hO.form
 refine OpsL.clearSub (l := j) (m := xs.length) st hO hk hj (fun p n c e => ?_) hx ht hz hzs hz1 (fun o' w' own' e1 f s => hK o' w' own' e1 (f j (Nat.le_refl _) hj) s)
 have := hO.len _ _ _ e; have := hO.caps _ _ _ e; omega
/-- a slice's own rest moves to the left -/
theorem OpsL.appendSelf {α : Type} {L : Lay α} {k i j : Nat} {v : Value} {xs : List α} {o : List (Nat × Obj)} {t e : TypeId} {i0 : TypeInfo} {x y : Operand} (st : St h0 w0 h w own) (hO : OSl L e h v xs o) (hk : own[k]? = some o) (hij : i ≤ j) (hj : j ≤ xs.length)
  (hx : ev σ x = vtake v i) (hy : ev σ y = vdrop L.size v j) (hd : Nat.blt d n = true) (ht : P.underlying t = some (.slice e)) (hi : P.info? e = some i0) (hsize : i0.size = L.size) (hpos : 0 < L.size)
  (hK : ∀ o' w' own', own' = own.set k o' → OSl L e h (vtake v (i + (xs.length - j))) (xs.take i ++ xs.drop j) o' → St h0 w0 h w' own' → OpsL P n ops rest K (upd σ d (vtake v (i + (xs.length - j)))) w') :
  OpsL P n ops (⟨some d, .call ⟨.builtin .append, #[x, y], #[t, t]⟩, ty, pos, aft, none⟩ :: rest) K σ w := by
 have hset := set_same hk
 have run (v1 v2 v' : Value) (w' : World) (h1 : vtake v i = v1) (h2 : vdrop L.size v j = v2) (hr : (Builtin.append_ #[t, t] ty #[v1, v2]).run P w = .ok v' w') : Run P σ w ⟨some d, .call ⟨.builtin .append, #[x, y], #[t, t]⟩, ty, pos, aft, none⟩ v' w' := by
  refine run_bi rfl (vs := [v1, v2]) (by simp [hx, hy, h1, h2]) fun cs => ?_
  simp only [builtin, Sem.run_bind, hr, Result.andThen_ok, Sem.run_pure]
 obtain ⟨cs, e1, ⟨⟨p, rfl⟩, rfl, rfl⟩ | ⟨gb, cap, cur, rfl, rfl, hnc, hcm, hsz, htk⟩⟩ := hO
 ·have hj0 : j = 0 := by simpa using hj
  have hi0 : i = 0 := by omega
  subst hj0; subst hi0
  refine ze rfl hd (run _ _ (.slice p 0 0) w rfl rfl ?_) (hK [] w _ rfl ⟨[], ⟨by simp, by simp⟩, .inl ⟨⟨p, rfl⟩, by simp, rfl⟩⟩ (by rw [hset]; exact st))
  cases p <;> simp [Builtin.append_, run_underlying ht, sizeOf, typeInfo, hi, Builtin.lenOf, Builtin.firstCells, loadCells, loadCellsFrom, storeCells, vtake, vdrop]
 ·have hgw := st.get hk
  have hcl : cur.toList.length = cap * L.size := by rw [Array.length_toList, hsz]
  have hdl : (cs.drop (j * L.size)).length = (xs.length - j) * L.size := by rw [List.length_drop, e1.1, Nat.sub_mul]
  have hnew : (xs.take i ++ xs.drop j).length = i + (xs.length - j) := by rw [List.length_append, List.length_take, List.length_drop, Nat.min_eq_left (by omega)]
  have one := e1.one hpos
  have hfit : i * L.size + (cs.drop (j * L.size)).length ≤ cur.size := by
   rw [hdl, hsz, ← Nat.add_mul]; exact Nat.mul_le_mul_right _ (by omega)
  by_cases hc : cap = j
  ·have hn : xs.length - j = 0 := by omega
   have hds : cs.drop (j * L.size) = [] := List.eq_nil_of_length_eq_zero (by rw [hdl, hn, Nat.zero_mul])
   refine ze rfl hd (run _ _ (.slice (some ⟨gb, 0, none⟩) i cap) w rfl (by simp only [vdrop]; rw [if_pos hc, hn]) ?_) ?_
   ·have hic : i ≤ cap := by omega
    show (Builtin.append_ #[t, t] ty #[.slice (some ⟨gb, 0, none⟩) i cap, _]).run P w = _
    simp [Builtin.append_, run_underlying ht, sizeOf, typeInfo, hi, Builtin.lenOf, Builtin.firstCells, loadCells, loadCellsFrom, storeCells, hic]
   ·have := hK [(gb, .cells cur e)] w _ rfl ⟨cs.take (i * L.size), ?_, .inr ⟨gb, cap, cur, by rw [hnew]; rfl, rfl, by rw [hnew]; omega, hcm, hsz, ?_⟩⟩ (by rw [hset]; exact st)
    ·simp only [vtake, hn, Nat.add_zero] at this; exact this
    ·have : xs.drop j = [] := List.drop_eq_nil_of_le (by omega)
     rw [this, List.append_nil]; exact e1.take (by omega)
    ·rw [hnew, hn, Nat.add_zero, ← htk, List.take_take, Nat.min_eq_left (Nat.mul_le_mul_right _ (by omega))]
  ·have holds : ∀ q u, (cs.drop (j * L.size))[q]? = some u → w.cell? ((⟨gb, j * L.size, none⟩ : Addr).add q) = some u := by
    intro q u hq
    rw [addr_add]
    rw [List.getElem?_drop, ← htk, List.getElem?_take] at hq
    split at hq
    ·simp only [World.cell?, hgw, Option.isSome_none, Bool.false_eq_true, if_false]
     simpa using hq
    ·cases hq
   have hr := run_append_room (P := P) w t ty e i0 ht hi gb i cap cur hgw ⟨gb, j * L.size, none⟩ (xs.length - j) (cap - j) (cs.drop (j * L.size)) (by rw [hdl, hsize]) holds (fun u hu => one u (List.mem_of_mem_drop hu)) (by omega) (by rw [hsize]; exact hfit)
   have hlen : (cur.toList.take (i * L.size)).length = i * L.size := by rw [List.length_take, hcl]; have := Nat.mul_le_mul_right L.size (show i ≤ cap by omega); omega
   refine ze rfl hd (run _ _ _ _ rfl (by simp only [vdrop]; rw [if_neg hc]; simp [addr_add]) hr) (hK [(gb, .cells (cur.toList.take (i * i0.size) ++ cs.drop (j * L.size) ++ cur.toList.drop (i * i0.size + (cs.drop (j * L.size)).length)).toArray e)] _ _ rfl ⟨cs.take (i * L.size) ++ cs.drop (j * L.size), (e1.take (by omega)).append (e1.drop j), .inr ⟨gb, cap, _, by rw [hnew]; rfl, rfl, by rw [hnew]; omega, hcm, ?_, ?_⟩⟩ ?_)
   ·clear hr; rw [hsize, List.size_toArray, List.length_append, List.length_append, hlen, List.length_drop (l := cur.toList), hcl]; rw [hsz] at hfit; omega
   ·rw [hnew, hsize]
    have h1 : (i + (xs.length - j)) * L.size = (cur.toList.take (i * L.size) ++ cs.drop (j * L.size)).length := by rw [List.length_append, hlen, hdl, Nat.add_mul]
    rw [h1]
    show ((cur.toList.take (i * L.size) ++ cs.drop (j * L.size)) ++ _).take _ = _
    rw [List.take_left]
    congr 1
    rw [← htk, List.take_take, Nat.min_eq_left (Nat.mul_le_mul_right _ (by omega))]
   ·have := st.set (.cells (cur.toList.take (i * i0.size) ++ cs.drop (j * L.size) ++ cur.toList.drop (i * i0.size + (cs.drop (j * L.size)).length)).toArray e) hk
    refine this.same ?_ rfl rfl rfl (Nat.le_refl _)
    apply Array.ext_getElem?
    intro q
    have hlt := lt_of_some hgw
    by_cases ej : q = gb
    ·subst ej
     rw [setRow_heap w _ cur _ e _ hgw]; simp [hlt]
    ·rw [setRow_other w gb q _ ej]; simp [Ne.symm ej]
/-- a frozen array, as a slice -/
theorem Sl.ofCells {α : Type} {L : Lay α} {b off : Nat} {cs : List Value} {xs : List α} (hc : Cells h b off cs) (hE : Enc L h cs xs) (hb : xs.length ≤ big) : Sl L h (.slice (some ⟨b, off, none⟩) xs.length xs.length) xs := by
 refine ⟨_, xs.length, rfl, ⟨hb, Nat.le_refl _⟩, .inr ⟨b, off, rfl, fun i x hi => ⟨_, ?_, hE.2 i x hi⟩⟩⟩
 obtain ⟨row, T, fr, hb, hh⟩ := hc
 refine ⟨row, T, fr, hb, fun j u hj => ?_⟩
 rw [List.getElem?_take] at hj
 split at hj
 ·rw [List.getElem?_drop] at hj
  have := hh _ _ hj
  rw [Nat.add_assoc]; exact this
 ·cases hj
theorem r_slice_arr {b off len m : Nat} {t e : TypeId} {x : Operand} (hx : ev σ x = .pointer (some ⟨b, off, none⟩)) (hu : P.underlying t = some (.array len e)) (hz : ∀ w, (sizeOf e).run P w = .ok m w) :
  Run P σ w ⟨dst, .slice t x none none none, ty, pos, aft, g⟩ (.slice (some ⟨b, off, none⟩) len len) w := by
 by_cases h : len = 0 <;> simp [Run, execOp, hx, Instr.sliceAt, run_underlying hu, Instr.sliceBounds, hz, Instr.sureAddr, addr_add, h]
theorem r_fieldN {s : TypeId} {x : Operand} {k m : Nat} {fs : Array Field} {f : Field} {vs us : List Value} (hx : ev σ x = .agg vs.toArray) (hu : P.underlying s = some (.struct fs)) (hf : fs[k]? = some f) (ha : ∀ w, (isAgg f.type).run P w = .ok true w) (hz : ∀ w, (sizeOf f.type).run P w = .ok m w) (hv : (vs.drop f.offset).take m = us) (hl : us.length = m) :
  Run P σ w ⟨dst, .field s x k, ty, pos, aft, g⟩ (.agg us.toArray) w := by
 subst hv
 simp [Run, execOp, hx, Instr.field, run_underlying hu, hf, asAgg, part, ha, hz]
theorem Post.retcell2 {fn : Func} {P : Program} {R : Ending → World → Prop} {a b n u : Nat} {t : TypeId} {σ : Env} {w : World} {cs : List Value} {T : TypeId} (hr : fn.results = #[.cell a t, .tmp u]) (hp : σ a = .pointer (some ⟨b, 0, none⟩)) (ha : ∀ w, (isAgg t).run P w = .ok true w) (hz : ∀ w, (sizeOf t).run P w = .ok n w) (hn : cs.length = n)
  (hb : w.heap[b]? = some (.cells cs.toArray T)) (h : R (.returned (.tuple #[.agg cs.toArray, σ u])) w) : Post fn P R .ret σ w := by
 intro tmps ht
 refine ⟨_, ?_, h⟩
 subst hn
 have hl := run_loadCells_list (P := P) (w := w) ⟨b, 0, none⟩ cs (fun j v hj => by rw [addr_add]; simp [World.cell?, hb, hj])
 have hp' : tmps.getD a undef = .pointer (some ⟨b, 0, none⟩) := by rw [ht, hp]
 have hu := ht u
 simp only [Array.getD_eq_getD_getElem?] at hp' hu
 simp [results, hr, hp', hu, asAddr, loadVar, ha, hz, hl]
theorem Post.retcell2F {fn : Func} {P : Program} {R : Ending → World → Prop} {a b n u : Nat} {t : TypeId} {σ : Env} {w : World} {cs : List Value} {h : Heap} (hr : fn.results = #[.cell a t, .tmp u]) (hp : σ a = .pointer (some ⟨b, 0, none⟩)) (ha : ∀ w, (isAgg t).run P w = .ok true w) (hz : ∀ w, (sizeOf t).run P w = .ok n w) (hn : cs.length = n)
  (hs : Sub h w) (hb : Cells h b 0 cs) (hR : R (.returned (.tuple #[.agg cs.toArray, σ u])) w) : Post fn P R .ret σ w := by
 intro tmps ht
 refine ⟨_, ?_, hR⟩
 subst hn
 have hl := run_loadCells_list (P := P) (w := w) ⟨b, 0, none⟩ cs (fun j v hj => by rw [addr_add]; exact hb.cell hs hj)
 have hp' : tmps.getD a undef = .pointer (some ⟨b, 0, none⟩) := by rw [ht, hp]
 have hu := ht u
 simp only [Array.getD_eq_getD_getElem?] at hp' hu
 simp [results, hr, hp', hu, asAddr, loadVar, ha, hz, hl]
end
/-- for a while all memory may be taken as frozen -/
theorem OSl.whole {α : Type} {L : Lay α} {T : TypeId} {h0 h : Heap} {w0 w : World} {own : Own} {k : Nat} {v : Value} {xs : List α} {o : List (Nat × Obj)} (st : St h0 w0 h w own) (e : OSl L T h v xs o) (hk : own[k]? = some o) (hb : xs.length ≤ 281474976710656) : Le h (heapOf w) ∧ Sl L (heapOf w) v xs := by
 have hle : Le h (heapOf w) := fun b o hb => st.sub b o hb
 refine ⟨hle, ?_⟩
 obtain ⟨cs, e1, ⟨⟨p, rfl⟩, rfl, rfl⟩ | ⟨g, cap, cur, rfl, rfl, hnc, _, hsz, htk⟩⟩ := e
 ·exact ⟨p, 0, rfl, ⟨Nat.zero_le _, Nat.zero_le _⟩, .inl rfl⟩
 ·have hg := st.get hk
  refine ⟨_, cap, rfl, ⟨hb, hnc⟩, .inr ⟨g, 0, rfl, fun i x hi => ⟨_, ⟨cur, T, _, hg, fun j u hj => ?_⟩, L.up (e1.2 i x hi) hle⟩⟩⟩
  have hjl : j < L.size := by
   rw [List.getElem?_take] at hj
   split at hj
   ·assumption
   ·cases hj
  rw [List.getElem?_take, if_pos hjl, List.getElem?_drop, ← htk, List.getElem?_take] at hj
  split at hj
  ·rw [Nat.zero_add]; simpa using hj
  ·cases hj
theorem St.thaw {h h' : Heap} {w w' : World} (s : St (heapOf w) w h' w' []) (hs : Sub h w) : St h w h w' [] :=
 ⟨Le.refl h, fun _ _ => rfl, fun b o hb => s.sub b o (s.le b o (hs b o hb)), s.below, by simp, by simp⟩
/-- a part of what is frozen -/
theorem Sl.take {α : Type} {L : Lay α} {h : Heap} {v : Value} {xs : List α} (e : Sl L h v xs) {k : Nat} (hk : k ≤ xs.length) : Sl L h (vtake v k) (xs.take k) := by
 obtain ⟨p, c, rfl, ⟨hb, hc⟩, hh⟩ := e
 have hl : (xs.take k).length = k := by rw [List.length_take, Nat.min_eq_left hk]
 refine ⟨p, c, by rw [hl]; rfl, ⟨by omega, by omega⟩, ?_⟩
 rcases hh with rfl | ⟨b, off, rfl, hh⟩
 ·exact .inl (by simp)
 ·refine .inr ⟨b, off, rfl, fun i x hi => hh i x ?_⟩
  rw [List.getElem?_take] at hi
  split at hi
  ·exact hi
  ·cases hi
theorem Sl.drop {α : Type} {L : Lay α} {h : Heap} {v : Value} {xs : List α} (e : Sl L h v xs) {k : Nat} (hk : k ≤ xs.length) : Sl L h (vdrop L.size v k) (xs.drop k) := by
 obtain ⟨p, c, rfl, ⟨hb, hc⟩, hh⟩ := e
 have hl : (xs.drop k).length = xs.length - k := List.length_drop
 refine ⟨_, _, by rw [hl]; rfl, ⟨by omega, by omega⟩, ?_⟩
 rcases hh with rfl | ⟨b, off, rfl, hh⟩
 ·exact .inl (by simp)
 ·by_cases h1 : c = k
  ·exact .inl (List.drop_eq_nil_of_le (by omega))
  ·rw [if_neg h1]
   refine .inr ⟨b, off + k * L.size, by simp [addr_add], fun i x hi => ?_⟩
   rw [List.getElem?_drop] at hi
   obtain ⟨vs, h2, h3⟩ := hh _ x hi
   refine ⟨vs, ?_, h3⟩
   rw [Nat.add_assoc, ← Nat.add_mul]; exact h2
theorem Sl.caps {α : Type} {L : Lay α} {h : Heap} {v : Value} {xs : List α} (e : Sl L h v xs) : ∀ p n c, v = .slice p n c → n ≤ c := by
 rintro p n c rfl
 obtain ⟨q, c', e2, ⟨_, hc⟩, _⟩ := e
 cases e2; exact hc
end Go.Pk

namespace Go.Pk
open Go Go.RowKit
theorem sub_flat {α : Type} {a b : List (List α)} (h : a.Sublist b) : a.flatten.Sublist b.flatten := by
 induction h with
 | slnil => exact List.Sublist.refl _
 | cons c _ ih => rw [List.flatten_cons]; exact ih.trans (List.sublist_append_right _ _)
 | cons_cons c _ ih => rw [List.flatten_cons, List.flatten_cons]; exact (List.Sublist.refl _).append ih
theorem St.sublist {h0 h : Heap} {w0 w : World} {own own' : Own} (st : St h0 w0 h w own) (hs : own'.Sublist own) : St h0 w0 h w own' := by
 have hsub : own'.flatten.Sublist own.flatten := sub_flat hs
 exact ⟨st.le, st.new, st.sub, st.below, fun p hp => st.mine p (hsub.subset hp), (hsub.map _).nodup st.nodup⟩
theorem heapOf_le {h : Heap} {w : World} (hs : Sub h w) : Le h (heapOf w) := fun b o hb => hs b o hb
theorem Rets.thaw {P : Program} {f : FuncId} {args : Array Value} {h : Heap} {w : World} {v : Value} (hs : Sub h w) (hc : Calls P f args w (Rets (heapOf w) w fun _ _ r => r = v)) : Calls P f args w (Rets h w fun _ _ r => r = v) := by
 refine hc.mono ?_
 rintro e w' ⟨h', r, rfl, s, rfl⟩
 exact ⟨h, _, rfl, St.thaw s hs, rfl⟩
section
variable {α : Type} {L : Lay α} {T : TypeId} {h : Heap} {v : Value} {xs : List α} {o : List (Nat × Obj)}
theorem OSl.retake (e : OSl L T h (vtake v xs.length) (xs.take xs.length) o) (hv : ∃ p c, v = .slice p xs.length c) : OSl L T h v xs o := by
 obtain ⟨p, c, rfl⟩ := hv
 rw [List.take_length] at e
 exact e
theorem vtake_caps (e : OSl L T h v xs o) (k : Nat) : ∀ p n c, vtake v k = .slice p n c → xs.length ≤ c := by
 obtain ⟨p0, c0, rfl⟩ := e.form
 have := e.caps _ _ _ rfl
 intro p n c q
 simp only [vtake] at q
 cases q
 exact this
theorem OSl.cap {p : Option Addr} {n c : Nat} (e : OSl L T h v xs o) (hv : v = .slice p n c) : n = xs.length ∧ xs.length ≤ c := by
 have h1 := e.caps _ _ _ hv
 have h2 := e.len _ _ _ hv
 exact ⟨h2, h2 ▸ h1⟩
end
section
variable {P : Program} {n : Nat} {ops : Array Oper} {rest : List Oper} {K : Env → World → Prop} {σ : Env} {w w0 : World} {h0 h : Heap} {own : Own} {ty : TypeId} {pos : String} {aft : Array Edge}
end
theorem Box.up {α : Type} {L : Lay α} {h h' : Heap} {c : Bool} {x : α} {v : Value} (f : Box L h c x v) (hl : Le h h') : Box L h' c x v := by
 cases c with
 | false => exact f
 | true => obtain ⟨b, vs, e, hc, hr⟩ := f; exact ⟨b, vs, e, hc.up hl, L.up hr hl⟩
end Go.Pk

namespace Go.Pk
open Go Go.RowKit
section
variable {α : Type}
/-- slices.DeleteFunc, part way -/
structure DelF (q : α → Bool) (s ys : List α) (i j : Nat) : Prop where
 len : ys.length = s.length
 le : i ≤ j
 le2 : j ≤ s.length
 head : ys.take i = (s.take j).filter fun x => !q x
 tail : ys.drop j = s.drop j
theorem DelF.get {q : α → Bool} {s ys : List α} {i j : Nat} (d : DelF q s ys i j) {y : α} (h : ys[j]? = some y) : s[j]? = some y := by
 have h1 := congrArg (fun l : List α => l[0]?) d.tail
 simp only [List.getElem?_drop, Nat.add_zero] at h1
 rw [← h1]; exact h
theorem DelF.start {q : α → Bool} {s : List α} {k : Nat} (h1 : ∀ j x, j < k → s[j]? = some x → q x = false) (h2 : ∀ x, s[k]? = some x → q x = true) (hk : k < s.length) : DelF q s s k (k + 1) := by
 refine ⟨rfl, by omega, by omega, ?_, rfl⟩
 have hx : s[k]? = some s[k] := List.getElem?_eq_getElem hk
 rw [take_snoc hx, List.filter_append]
 have e1 : (s.take k).filter (fun x => !q x) = s.take k := by
  rw [List.filter_eq_self]
  intro x hx
  obtain ⟨j, hj⟩ := List.mem_iff_getElem?.1 hx
  rw [List.getElem?_take] at hj
  split at hj
  ·rename_i hjk; simp [h1 j x hjk hj]
  ·cases hj
 simp [e1, h2 _ hx]
theorem DelF.keep {q : α → Bool} {s ys : List α} {i j : Nat} (d : DelF q s ys i j) {y : α} (h : ys[j]? = some y) (hq : q y = false) : DelF q s (ys.set i y) (i + 1) (j + 1) := by
 obtain ⟨h1, _⟩ := List.getElem?_eq_some_iff.1 h
 have hl := d.len; have hle := d.le
 refine ⟨by rw [List.length_set]; exact d.len, by omega, by omega, ?_, ?_⟩
 ·rw [take_snoc (d.get h), List.filter_append, ← d.head]
  have e : (ys.set i y)[i]? = some y := by rw [List.getElem?_set]; simp; omega
  rw [take_snoc e, List.take_set_of_le (Nat.le_refl i)]
  simp [hq]
 ·rw [List.drop_set_of_lt (by omega)]
  have := congrArg (List.drop 1) d.tail
  simpa [List.drop_drop] using this
theorem DelF.skip {q : α → Bool} {s ys : List α} {i j : Nat} (d : DelF q s ys i j) {y : α} (h : ys[j]? = some y) (hq : q y = true) : DelF q s ys i (j + 1) := by
 obtain ⟨h1, _⟩ := List.getElem?_eq_some_iff.1 h
 have hl := d.len; have hle := d.le
 refine ⟨d.len, by omega, by omega, ?_, ?_⟩
 ·rw [take_snoc (d.get h), List.filter_append, ← d.head]
  simp [hq]
 ·have := congrArg (List.drop 1) d.tail
  simpa [List.drop_drop] using this
theorem DelF.fin {q : α → Bool} {s ys : List α} {i j : Nat} (d : DelF q s ys i j) (h : s.length ≤ j) : ys.take i = s.filter fun x => !q x := by
 rw [d.head, List.take_of_length_le h]
theorem filter_none {q : α → Bool} {s : List α} (h : ∀ j x, j < s.length → s[j]? = some x → q x = false) : (s.filter fun x => !q x) = s := by
 rw [List.filter_eq_self]
 intro x hx
 obtain ⟨j, hj⟩ := List.mem_iff_getElem?.1 hx
 obtain ⟨h1, _⟩ := List.getElem?_eq_some_iff.1 hj
 simp [h j x h1 hj]
variable [DecidableEq α]
/-- slices.Compact -/
def compStep (acc : List α) (x : α) : List α := if acc.getLast? = some x then acc else acc ++ [x]
def compactL (l : List α) : List α := l.foldl compStep []
theorem compactL_snoc (l : List α) (x : α) : compactL (l ++ [x]) = compStep (compactL l) x := by simp [compactL]
theorem compactL_last (l : List α) : (compactL l).getLast? = l.getLast? := by
 induction l using snoc_ind with
 | nil => rfl
 | snoc l d ih =>
  rw [compactL_snoc, compStep]
  split
  ·rename_i h; rw [h]; simp
  ·simp
theorem compactL_succ {s : List α} {k : Nat} {y z : α} (hz : s[k]? = some z) (hy : s[k + 1]? = some y) : compactL (s.take (k + 2)) = if z = y then compactL (s.take (k + 1)) else compactL (s.take (k + 1)) ++ [y] := by
 have e : (s.take (k + 1)).getLast? = some z := by rw [take_snoc hz]; simp
 rw [take_snoc hy, compactL_snoc, compStep, compactL_last, e]
 simp only [Option.some.injEq]
/-- part way: the first stretch -/
theorem comp_more {s : List α} {k : Nat} {y z : α} (hz : s[k - 1]? = some z) (hy : s[k]? = some y) (hk : 1 ≤ k) (h : compactL (s.take k) = s.take k) (hne : ¬ y = z) : compactL (s.take (k + 1)) = s.take (k + 1) := by
 obtain ⟨m, rfl⟩ : ∃ m, k = m + 1 := ⟨k - 1, by omega⟩
 rw [Nat.add_sub_cancel] at hz
 rw [show m + 1 + 1 = m + 2 from rfl, compactL_succ hz hy, if_neg (fun e => hne e.symm), h, ← take_snoc hy]
theorem comp_one {s : List α} (h : 1 ≤ s.length) : compactL (s.take 1) = s.take 1 := by
 cases s with
 | nil => simp at h
 | cons a s => simp [compactL, compStep]
theorem comp_short {s : List α} (h : s.length < 2) : compactL s = s := by
 match s, h with
 | [], _ => rfl
 | [a], _ => simp [compactL, compStep]
structure Comp (s ys : List α) (i j : Nat) : Prop where
 len : ys.length = s.length
 le : i + 1 ≤ j
 le2 : j ≤ s.length
 head : ys.take i = compactL (s.take j)
 tail : ys.drop (j - 1) = s.drop (j - 1)
theorem Comp.start {s : List α} {k : Nat} {y z : α} (hz : s[k - 1]? = some z) (hy : s[k]? = some y) (hk : 1 ≤ k) (h : compactL (s.take k) = s.take k) (he : y = z) : Comp s s k (k + 1) := by
 obtain ⟨h1, _⟩ := List.getElem?_eq_some_iff.1 hy
 refine ⟨rfl, Nat.le_refl _, by omega, ?_, rfl⟩
 obtain ⟨m, rfl⟩ : ∃ m, k = m + 1 := ⟨k - 1, by omega⟩
 rw [Nat.add_sub_cancel] at hz
 rw [show m + 1 + 1 = m + 2 from rfl, compactL_succ hz hy, if_pos he.symm, h]
theorem Comp.get {s ys : List α} {i j : Nat} (d : Comp s ys i j) {y : α} {n : Nat} (hn : j - 1 ≤ n) (h : ys[n]? = some y) : s[n]? = some y := by
 have h1 := congrArg (fun l : List α => l[n - (j - 1)]?) d.tail
 simp only [List.getElem?_drop] at h1
 rw [show j - 1 + (n - (j - 1)) = n by omega] at h1
 rw [← h1]; exact h
theorem Comp.keep {s ys : List α} {i j : Nat} (d : Comp s ys i j) {y z : α} (h : ys[j]? = some y) (hz : ys[j - 1]? = some z) (hne : ¬ y = z) : Comp s (ys.set i y) (i + 1) (j + 1) := by
 obtain ⟨h1, _⟩ := List.getElem?_eq_some_iff.1 h
 have hl := d.len; have hle := d.le; have hle2 := d.le2
 have g1 := d.get (by omega) h
 have g2 := d.get (Nat.le_refl _) hz
 refine ⟨by rw [List.length_set]; exact d.len, by omega, by omega, ?_, ?_⟩
 ·obtain ⟨m, rfl⟩ : ∃ m, j = m + 1 := ⟨j - 1, by omega⟩
  rw [Nat.add_sub_cancel] at g2
  rw [show m + 1 + 1 = m + 2 from rfl, compactL_succ g2 g1, if_neg (fun e => hne e.symm), ← d.head]
  have e : (ys.set i y)[i]? = some y := by rw [List.getElem?_set]; simp; omega
  rw [take_snoc e, List.take_set_of_le (Nat.le_refl i)]
 ·rw [Nat.add_sub_cancel, List.drop_set_of_lt (by omega)]
  have := congrArg (List.drop 1) d.tail
  rw [List.drop_drop, List.drop_drop, show j - 1 + 1 = j by omega] at this
  exact this
theorem Comp.skip {s ys : List α} {i j : Nat} (d : Comp s ys i j) {y z : α} (h : ys[j]? = some y) (hz : ys[j - 1]? = some z) (he : y = z) : Comp s ys i (j + 1) := by
 obtain ⟨h1, _⟩ := List.getElem?_eq_some_iff.1 h
 have hl := d.len; have hle := d.le; have hle2 := d.le2
 have g1 := d.get (by omega) h
 have g2 := d.get (Nat.le_refl _) hz
 refine ⟨d.len, by omega, by omega, ?_, ?_⟩
 ·obtain ⟨m, rfl⟩ : ∃ m, j = m + 1 := ⟨j - 1, by omega⟩
  rw [Nat.add_sub_cancel] at g2
  rw [show m + 1 + 1 = m + 2 from rfl, compactL_succ g2 g1, if_pos he.symm, ← d.head]
 ·have := congrArg (List.drop 1) d.tail
  rw [List.drop_drop, List.drop_drop, show j - 1 + 1 = j by omega] at this
  rw [Nat.add_sub_cancel]; exact this
theorem Comp.fin {s ys : List α} {i j : Nat} (d : Comp s ys i j) (h : s.length ≤ j) : ys.take i = compactL s := by
 rw [d.head, List.take_of_length_le h]
end
end Go.Pk

namespace Go.Pk
open Go Go.RowKit
section
variable {α : Type} [DecidableEq α]
structure TLt (lt : α → α → Bool) : Prop where
 irrefl : ∀ a, lt a a = false
 trans : ∀ a b c, lt a b = true → lt b c = true → lt a c = true
 total : ∀ a b, a ≠ b → lt a b = true ∨ lt b a = true
def insBy (lt : α → α → Bool) (l : List α) (x : α) : List α := if (l.dropWhile fun a => lt a x).head? = some x then l else (l.takeWhile fun a => lt a x) ++ [x] ++ (l.dropWhile fun a => lt a x)
/-- in order, each once -/
def setL (lt : α → α → Bool) (l : List α) : List α := l.foldl (insBy lt) []
variable {lt : α → α → Bool}
theorem setL_snoc (l : List α) (x : α) : setL lt (l ++ [x]) = insBy lt (setL lt l) x := by simp [setL]
omit [DecidableEq α] in
theorem TLt.asymm (T : TLt lt) {a b : α} (h : lt a b = true) : lt b a = false := by
 cases e : lt b a with
 | false => rfl
 | true => have := T.trans _ _ _ h e; rw [T.irrefl] at this; cases this
theorem insBy_mem {l : List α} {x y : α} : y ∈ insBy lt l x ↔ y ∈ l ∨ y = x := by
 unfold insBy
 split
 ·rename_i h
  have : x ∈ l.dropWhile fun a => lt a x := List.mem_of_mem_head? h
  have hx : x ∈ l := (List.dropWhile_sublist _).subset this
  constructor
  ·exact .inl
  ·rintro (h | rfl)
   ·exact h
   ·exact hx
 ·have e : l = (l.takeWhile fun a => lt a x) ++ (l.dropWhile fun a => lt a x) := (List.takeWhile_append_dropWhile).symm
  have : y ∈ l ↔ y ∈ (l.takeWhile fun a => lt a x) ∨ y ∈ (l.dropWhile fun a => lt a x) := by
   rw [← List.mem_append, ← e]
  rw [this]
  simp only [List.mem_append, List.mem_singleton]
  constructor
  ·rintro ((h | h) | h)
   ·exact .inl (.inl h)
   ·exact .inr h
   ·exact .inl (.inr h)
  ·rintro ((h | h) | h)
   ·exact .inl (.inl h)
   ·exact .inr h
   ·exact .inl (.inr h)
theorem insBy_sorted (T : TLt lt) {l : List α} {x : α} (hs : l.Pairwise fun a b => lt a b = true) : (insBy lt l x).Pairwise fun a b => lt a b = true := by
 unfold insBy
 split
 ·exact hs
 ·rename_i hne
  have e : l = (l.takeWhile fun a => lt a x) ++ (l.dropWhile fun a => lt a x) := (List.takeWhile_append_dropWhile).symm
  have hs' := hs
  rw [e] at hs'
  obtain ⟨s1, s2, s3⟩ := List.pairwise_append.1 hs'
  have ht : ∀ a ∈ l.takeWhile (fun a => lt a x), lt a x = true := by
   intro a ha
   have := List.all_takeWhile (l := l) (p := fun a => lt a x)
   exact List.all_eq_true.1 this a ha
  have hd : ∀ b ∈ l.dropWhile (fun a => lt a x), lt x b = true := by
   cases hD : l.dropWhile (fun a => lt a x) with
   | nil => simp
   | cons c D =>
    have hc : ¬ lt c x = true := by
     have := List.head?_dropWhile_not (fun a => lt a x) l
     rw [hD] at this; simpa using this
    have hcx : c ≠ x := by
     intro q; rw [hD, q] at hne; exact hne rfl
    have h1 : lt x c = true := (T.total x c (Ne.symm hcx)).resolve_right hc
    intro b hb
    rcases List.mem_cons.1 hb with rfl | hb
    ·exact h1
    ·rw [hD] at s2
     exact T.trans _ _ _ h1 ((List.pairwise_cons.1 s2).1 b hb)
  rw [List.append_assoc]
  refine List.pairwise_append.2 ⟨s1, List.pairwise_append.2 ⟨by simp, s2, ?_⟩, ?_⟩
  ·intro a ha b hb
   simp at ha; subst ha
   exact hd b hb
  ·intro a ha b hb
   rcases List.mem_append.1 hb with hb | hb
   ·simp at hb; subst hb; exact ht a ha
   ·exact s3 a ha b hb
theorem setL_sorted (T : TLt lt) (l : List α) : (setL lt l).Pairwise fun a b => lt a b = true := by
 induction l using snoc_ind with
 | nil => exact List.Pairwise.nil
 | snoc l d ih => rw [setL_snoc]; exact insBy_sorted T ih
theorem setL_mem {l : List α} {y : α} : y ∈ setL lt l ↔ y ∈ l := by
 induction l using snoc_ind with
 | nil => simp [setL]
 | snoc l d ih => rw [setL_snoc, insBy_mem, ih]; simp
omit [DecidableEq α] in
theorem strict_eq (T : TLt lt) {a b : List α} (ha : a.Pairwise fun x y => lt x y = true) (hb : b.Pairwise fun x y => lt x y = true) (h : ∀ x, x ∈ a ↔ x ∈ b) : a = b := by
 have na : a.Nodup := ha.imp (fun h e => by subst e; rw [T.irrefl] at h; cases h)
 have nb : b.Nodup := hb.imp (fun h e => by subst e; rw [T.irrefl] at h; cases h)
 refine List.Perm.eq_of_pairwise (le := fun x y => lt x y = true) (fun x y _ _ h1 h2 => by have := T.asymm h1; rw [h2] at this; cases this) ha hb ((List.perm_ext_iff_of_nodup na nb).2 h)
theorem setL_len (T : TLt lt) (l : List α) : (setL lt l).length ≤ l.length := by
 induction l using snoc_ind with
 | nil => simp [setL]
 | snoc l d ih =>
  rw [setL_snoc, insBy]
  split
  ·simp; omega
  ·have e := congrArg List.length (List.takeWhile_append_dropWhile (p := fun a => lt a d) (l := setL lt l))
   simp only [List.length_append] at e ⊢
   simp only [List.length_cons, List.length_nil]; omega
theorem compactL_mem {l : List α} : ∀ {y : α}, y ∈ compactL l ↔ y ∈ l := by
 induction l using snoc_ind with
 | nil => simp [compactL]
 | snoc l d ih =>
  intro y
  rw [compactL_snoc, compStep]
  split
  ·rename_i h
   rw [ih]
   have : d ∈ compactL l := List.mem_of_getLast? h
   rw [ih] at this
   constructor
   ·intro h; simp [h]
   ·intro h
    rcases List.mem_append.1 h with h | h
    ·exact h
    ·simp at h; subst h; exact this
  ·simp [ih]
theorem compactL_sorted (T : TLt lt) {l : List α} (hs : l.Pairwise fun a b => lt b a = false) : (compactL l).Pairwise fun a b => lt a b = true := by
 induction l using snoc_ind with
 | nil => exact List.Pairwise.nil
 | snoc l d ih =>
  obtain ⟨s1, _, s3⟩ := List.pairwise_append.1 hs
  rw [compactL_snoc, compStep]
  split
  ·exact ih s1
  ·rename_i hne
   refine List.pairwise_append.2 ⟨ih s1, by simp, fun a ha b hb => ?_⟩
   simp at hb; subst hb
   have hal : a ∈ l := compactL_mem.1 ha
   have h1 := s3 a hal b (by simp)
   by_cases e : a = b
   ·exfalso
    subst e
    rw [compactL_last] at hne
    cases hL : l.getLast? with
    | none => rw [List.getLast?_eq_none_iff] at hL; subst hL; cases hal
    | some z =>
     rw [hL] at hne
     have hz : z ∈ l := List.mem_of_getLast? hL
     have h2 := s3 z hz a (by simp)
     -- a comes ahead of z, or is it
     have h3 : lt z a = false := by
      obtain ⟨i, hi⟩ := List.mem_iff_getElem?.1 hal
      rw [List.getLast?_eq_getElem?] at hL
      obtain ⟨i1, i2⟩ := List.getElem?_eq_some_iff.1 hi
      obtain ⟨z1, z2⟩ := List.getElem?_eq_some_iff.1 hL
      rcases Nat.lt_or_ge i (l.length - 1) with h | h
      ·have := List.pairwise_iff_getElem.1 s1 i (l.length - 1) i1 z1 h
       rw [i2, z2] at this; exact this
      ·have : i = l.length - 1 := by omega
       subst this
       rw [i2] at z2; subst z2; exact T.irrefl _
     by_cases e2 : z = a
     ·exact hne (by rw [e2])
     ·rcases T.total z a e2 with q | q
      ·rw [q] at h3; cases h3
      ·rw [q] at h2; cases h2
   ·rcases T.total a b e with q | q
    ·exact q
    ·rw [q] at h1; cases h1
theorem setOf_compact (T : TLt lt) {xs ys : List α} (hp : ys.Perm xs) (hs : ys.Pairwise fun a b => lt b a = false) : compactL ys = setL lt xs :=
 strict_eq T (compactL_sorted T hs) (setL_sorted T xs) (fun x => by rw [compactL_mem, setL_mem]; exact hp.mem_iff)
end
theorem sLt_eq (a b : Str) : sLt a b = decide (a < b) := Go.Proofs.bytesLess_eq a b
theorem cmpS_lt : ∀ (a b : Str), decide (cmpS a b < 0) = sLt a b
 | [], [] => rfl
 | [], _ :: _ => rfl
 | _ :: _, [] => rfl
 | x :: a, y :: b => by
  have ih := cmpS_lt a b
  simp only [cmpS, sLt, Lib.compareBytes, Op.bytesLess] at ih ⊢
  by_cases h1 : x < y
  ·simp [h1]
  ·by_cases h2 : y < x
   ·have : ¬ x = y := by rintro rfl; exact h1 h2
    simp [h1, h2, this]
   ·have : x = y := by
     apply UInt8.le_antisymm
     ·exact UInt8.not_lt.1 h2
     ·exact UInt8.not_lt.1 h1
    subst this
    have h1' : ¬ x < x := h1
    simp only [h1', if_false, beq_self_eq_true, Bool.true_and, decide_false, Bool.false_or]; exact ih
theorem cmpS_eq : ∀ (a b : Str), cmpS a b = 0 ↔ a = b
 | [], [] => by simp [cmpS, Lib.compareBytes]
 | [], _ :: _ => by simp [cmpS, Lib.compareBytes]
 | _ :: _, [] => by simp [cmpS, Lib.compareBytes]
 | x :: a, y :: b => by
  have ih := cmpS_eq a b
  simp only [cmpS, Lib.compareBytes] at ih ⊢
  by_cases h1 : x < y
  ·have : ¬ x = y := by rintro rfl; exact absurd h1 (UInt8.lt_irrefl _)
   simp [h1, this]
  ·by_cases h2 : y < x
   ·have : ¬ x = y := by rintro rfl; exact h1 h2
    simp [h1, h2, this]
   ·have : x = y := by
     apply UInt8.le_antisymm
     ·exact UInt8.not_lt.1 h2
     ·exact UInt8.not_lt.1 h1
    subst this
    simp [h1, ih]
theorem cmpS_bound : ∀ (a b : Str), -1 ≤ cmpS a b ∧ cmpS a b ≤ 1
 | [], [] => by simp [cmpS, Lib.compareBytes]
 | [], _ :: _ => by simp [cmpS, Lib.compareBytes]
 | _ :: _, [] => by simp [cmpS, Lib.compareBytes]
 | x :: a, y :: b => by
  have ih := cmpS_bound a b
  simp only [cmpS, Lib.compareBytes] at ih ⊢
  repeat' split
  all_goals omega
theorem sLt_T : TLt sLt := by
 refine ⟨fun a => ?_, fun a b c => ?_, fun a b h => ?_⟩
 ·rw [sLt_eq]; simp [List.lt_irrefl]
 ·rw [sLt_eq, sLt_eq, sLt_eq]; simp only [decide_eq_true_eq]; exact fun h1 h2 => List.lt_trans h1 h2
 ·rw [sLt_eq, sLt_eq]; simp only [decide_eq_true_eq]
  by_cases h1 : a < b
  ·exact .inl h1
  ·by_cases h2 : b < a
   ·exact .inr h2
   ·exact absurd (List.le_antisymm (List.not_lt.1 h2) (List.not_lt.1 h1)) h
theorem headLt_T : TLt headLt := by
 refine ⟨fun a => ?_, fun a b c h1 h2 => ?_, fun a b h => ?_⟩
 ·simp [headLt, sLt_T.irrefl]
 ·simp only [headLt, Bool.or_eq_true, Bool.and_eq_true, decide_eq_true_eq] at *
  rcases h1 with h1 | ⟨e1, h1⟩
  ·rcases h2 with h2 | ⟨e2, h2⟩
   ·exact .inl (sLt_T.trans _ _ _ h1 h2)
   ·exact .inl (e2 ▸ h1)
  ·rcases h2 with h2 | ⟨e2, h2⟩
   ·exact .inl (by rw [e1]; exact h2)
   ·exact .inr ⟨e1.trans e2, by omega⟩
 ·simp only [headLt, Bool.or_eq_true, Bool.and_eq_true, decide_eq_true_eq]
  rcases a with ⟨s, m⟩; rcases b with ⟨s', m'⟩
  by_cases e : s = s'
  ·subst e
   have hm : m ≠ m' := fun q => h (by rw [q])
   rcases Int.lt_or_gt_of_ne hm with q | q
   ·exact .inl (.inr ⟨rfl, q⟩)
   ·exact .inr (.inr ⟨rfl, q⟩)
  ·rcases sLt_T.total s s' e with q | q
   ·exact .inl (.inl q)
   ·exact .inr (.inl q)
theorem cmpHead_lt (a b : Head) : decide (cmpHead a b < 0) = headLt a b := by
 unfold cmpHead headLt
 rw [← cmpS_lt]
 by_cases h : cmpS a.stem b.stem = 0
 ·have e := (cmpS_eq _ _).1 h
  have h' : ¬ cmpS a.stem b.stem ≠ 0 := by simp [h]
  simp only [if_neg h', h, e]
  have e2 : cmpS b.stem b.stem = 0 := (cmpS_eq _ _).2 rfl
  have e3 : sLt b.stem b.stem = false := sLt_T.irrefl _
  rw [← cmpS_lt] at e3
  rw [e3]; simp only [decide_true, Bool.true_and, Bool.false_or, decide_eq_decide]; omega
 ·have e : ¬ a.stem = b.stem := fun q => h ((cmpS_eq _ _).2 q)
  simp only [if_pos h, e]; simp
theorem swo_head : Go.Sort.SWO (Go.Proofs.ltOf cmpHead) := by
 have e : Go.Proofs.ltOf cmpHead = headLt := by funext a b; exact cmpHead_lt a b
 rw [e]
 refine ⟨headLt_T.irrefl, headLt_T.trans, fun a b c h1 h2 => ?_⟩
 cases h : headLt a c with
 | false => rfl
 | true =>
  by_cases e1 : a = b
  ·subst e1; rw [h] at h2; cases h2
  ·rcases headLt_T.total a b e1 with q | q
   ·rw [q] at h1; cases h1
   ·have := headLt_T.trans _ _ _ q h; rw [this] at h2; cases h2
/-- the lists of the document -/
def headsN (t : Text) (x : Lexicon) : List Head := if checkN t x = 0 then setL headLt (headsL t x) else []
def underP (t : Text) (x : Lexicon) (hd : Head) : List Place := (placesT t).filter fun p => decide (headAt t x p = hd)
def underE (t : Text) (x : Lexicon) (hd : Head) : Int := if checkN t x = 0 then (if headB hd = true then (if underP t x hd = [] then 6 else 0) else 2) else checkN t x
def underR (t : Text) (x : Lexicon) (hd : Head) : List Place := if underE t x hd = 0 then underP t x hd else []
def underN (t : Text) (x : Lexicon) (hd : Head) : List Entry := if underE t x hd = 0 then (entriesL t x).filter fun y => !decide (y.head ≠ hd) else []
def formsR (t : Text) (x : Lexicon) (hd : Head) : List Str := if underE t x hd = 0 then setL sLt ((underP t x hd).map (wordD t)) else []
theorem under_filter (t : Text) (x : Lexicon) (hd : Head) : ((entriesL t x).filter fun y => !decide (y.head ≠ hd)) = (underP t x hd).map (entryAt t x) := by
 rw [entriesL, underP, List.filter_map]
 congr 1
 apply List.filter_congr
 intro p _
 simp only [entryAt, Function.comp]
 by_cases e : headAt t x p = hd <;> simp [e]
theorem entries_len {t : Text} (ht : textB t = true) (x : Lexicon) : (entriesL t x).length ≤ 600 := by rw [entriesL, List.length_map]; exact places_len ht
theorem under_check {t : Text} {x : Lexicon} {hd : Head} (h : underE t x hd = 0) : checkN t x = 0 := by
 unfold underE at h
 split at h
 ·assumption
 ·rename_i q; exact absurd h q
theorem setOf_sort (l : List Str) : compactL (l.mergeSort fun a b => decide (a ≤ b)) = setL sLt l := by
 refine setOf_compact sLt_T (List.mergeSort_perm _ _) ?_
 have h := List.pairwise_mergeSort (le := fun a b : Str => decide (a ≤ b)) (by intro a b c h1 h2; simp only [decide_eq_true_eq] at *; exact List.le_trans h1 h2) (by intro a b; simp only [Bool.or_eq_true, decide_eq_true_eq]; exact List.le_total a b) l
 refine h.imp fun h => ?_
 rw [sLt_eq]; simp only [decide_eq_true_eq] at h; simpa using h
end Go.Pk

namespace Go.Pk
open Go Go.RowKit
/-- the head that a word had first -/
def hdFirst (es : List Entry) (w : Str) : Option Head := (es.find? fun y => decide (y.word = w)).map (·.head)
def homAt (es : List Entry) (y : Entry) : List Str := match hdFirst es y.word with
 | some h => if h ≠ y.head then [y.word] else []
 | none => []
def homsN (es : List Entry) : Nat → List Str
 | 0 => []
 | n + 1 => homsN es n ++ (match es[n]? with
  | some y => homAt (es.take n) y
  | none => [])
theorem homsN_succ {es : List Entry} {n : Nat} {y : Entry} (h : es[n]? = some y) : homsN es (n + 1) = homsN es n ++ homAt (es.take n) y := by simp only [homsN, h]
theorem homsN_len (es : List Entry) : ∀ n, (homsN es n).length ≤ n
 | 0 => by simp [homsN]
 | n + 1 => by
  have ih := homsN_len es n
  simp only [homsN, List.length_append]
  split
  ·unfold homAt
   split
   ·split <;> simp <;> omega
   ·simp; omega
  ·simp; omega
theorem hdFirst_snoc (es : List Entry) (y : Entry) (w : Str) : hdFirst (es ++ [y]) w = match hdFirst es w with
  | some h => some h
  | none => if y.word = w then some y.head else none := by
 unfold hdFirst
 rw [List.find?_append]
 cases h : es.find? fun y => decide (y.word = w) with
 | some z => simp
 | none =>
  by_cases e : y.word = w <;> simp [e]
theorem hdFirst_put {es : List Entry} {n : Nat} {y : Entry} (h : es[n]? = some y) {m : List (Str × Head)} (hm : ∀ w, look m w = hdFirst (es.take n) w) (hc : ∀ z, hdFirst (es.take n) y.word = some z → z = y.head) : ∀ w, look (putM m y.word y.head) w = hdFirst (es.take (n + 1)) w := by
 intro w
 rw [look_putM, take_snoc h, hdFirst_snoc, hm]
 by_cases e : w = y.word
 ·subst e
  simp only [if_true]
  cases q : hdFirst (es.take n) y.word with
  | some z => rw [hc z q]
  | none => rfl
 ·rw [if_neg e]
  cases q : hdFirst (es.take n) w with
  | some z => rfl
  | none => simp only []; rw [if_neg (fun q => e q.symm)]
theorem hdFirst_keep {es : List Entry} {n : Nat} {y : Entry} (h : es[n]? = some y) {m : List (Str × Head)} (hm : ∀ w, look m w = hdFirst (es.take n) w) {z : Head} (hc : hdFirst (es.take n) y.word = some z) : ∀ w, look m w = hdFirst (es.take (n + 1)) w := by
 intro w
 rw [take_snoc h, hdFirst_snoc, hm]
 cases q : hdFirst (es.take n) w with
 | some z => rfl
 | none =>
  simp only []
  by_cases e : y.word = w
  ·subst e; rw [hc] at q; cases q
  ·rw [if_neg e]
/-- two places of a word whose heads differ -/
def pairAt (es : List Entry) (i j : Nat) : List Str := match es[i]?, es[j]? with
 | some a, some b => if a.word = b.word ∧ a.head ≠ b.head then [a.word] else []
 | _, _ => []
def pairRow (es : List Entry) (i : Nat) : List Str := (List.range i).flatMap (pairAt es i)
def pairsN (es : List Entry) (n : Nat) : List Str := (List.range n).flatMap (pairRow es)
def homR (t : Text) (x : Lexicon) : List Str := if checkN t x = 0 then setL sLt (homsN (entriesL t x) (entriesL t x).length) else []
/-- a lexicon without the decision with a Number -/
def lessX (x : Lexicon) (n : Int) : Lexicon := { x with decisions := x.decisions.filter fun d => decide (d.number ≠ n) }
theorem lexiconB_of {t : Text} {x y : Lexicon} (h : checkN t x = 0) (hr : y.rules = x.rules) (hd : ∀ d ∈ y.decisions, decisionB t d = true) (hl : y.decisions.length ≤ 20) (hn : (y.decisions.map (·.number)).Nodup) : checkN t y = 0 := by
 obtain ⟨h1, h2⟩ := lexicon_of h
 have h3 : lexiconB t y = true := by
  simp only [lexiconB, Bool.and_eq_true, decide_eq_true_eq, List.all_eq_true] at h2 ⊢
  exact ⟨⟨⟨⟨by rw [hr]; exact h2.1.1.1.1, hl⟩, by rw [hr]; exact h2.1.1.2⟩, hd⟩, hn⟩
 simp [checkN, h1, h3]
theorem lessX_check {t : Text} {x : Lexicon} (h : checkN t x = 0) (n : Int) : checkN t (lessX x n) = 0 := by
 refine lexiconB_of h rfl (fun d hd => lexicon_dec h d (List.mem_filter.1 hd).1) ?_ ?_
 ·exact Nat.le_trans (List.length_filter_le _ _) (lexicon_20 h)
 ·exact (List.filter_sublist.map _).nodup (okD_of h).1
theorem lexicon_12 {t : Text} {x : Lexicon} (h : checkN t x = 0) : x.rules.length ≤ 12 := by
 have h1 := (lexicon_of h).2
 simp only [lexiconB, Bool.and_eq_true, decide_eq_true_eq] at h1
 exact h1.1.1.1.1
def idleB (t : Text) (x : Lexicon) (n : Int) : Bool := decide ((lessX x n).decisions.length < x.decisions.length) && decide (headsL t (lessX x n) = headsL t x)
def natI (k : Nat) : Int := (k : Int) + 1
def idleK (t : Text) (x : Lexicon) (k : Nat) : List Int := ((List.range k).map natI).filter (idleB t x)
def idleR (t : Text) (x : Lexicon) : List Int := idleK t x 999
def idleN (t : Text) (x : Lexicon) : List Int := if checkN t x = 0 then idleR t x else []
theorem idleK_len (t : Text) (x : Lexicon) (k : Nat) : (idleK t x k).length ≤ k := by
 have := List.length_filter_le (idleB t x) ((List.range k).map natI)
 simpa [idleK] using this
theorem entries_heads {t : Text} {x y : Lexicon} : entriesL t y = entriesL t x ↔ headsL t y = headsL t x := by
 constructor
 ·intro h
  have := congrArg (fun l : List Entry => l.map (·.head)) h
  simpa [entriesL, headsL, List.map_map, Function.comp_def, entryAt] using this
 ·intro h
  simp only [headsL, entriesL] at h ⊢
  rw [List.map_inj_left] at h ⊢
  intro p hp
  rw [entryAt, entryAt, h p hp]
theorem without_at {ds : List Decision} {i : Nat} {d : Decision} (hn : (ds.map (·.number)).Nodup) (hd : ds[i]? = some d) : ds.take i ++ ds.drop (i + 1) = ds.filter fun e => decide (e.number ≠ d.number) := by
 have h1 : ds = ds.take i ++ d :: ds.drop (i + 1) := by rw [← drop_cons hd, List.take_append_drop]
 have hn' := hn
 rw [h1, List.map_append, List.map_cons, List.nodup_append] at hn'
 obtain ⟨_, n2, n3⟩ := hn'
 rw [List.nodup_cons] at n2
 have e1 : (ds.take i).filter (fun e => decide (e.number ≠ d.number)) = ds.take i := by
  rw [List.filter_eq_self]
  intro e he
  simpa using n3 _ (List.mem_map_of_mem he) _ (List.mem_cons_self ..)
 have e2 : (ds.drop (i + 1)).filter (fun e => decide (e.number ≠ d.number)) = ds.drop (i + 1) := by
  rw [List.filter_eq_self]
  intro e he
  have : ¬ e.number = d.number := fun q => n2.1 (q ▸ List.mem_map_of_mem he)
  simpa using this
 conv => rhs; rw [h1]
 rw [List.filter_append, List.filter_cons, if_neg (by simp), e1, e2]
/-- the decisions, from the first on, without which all heads are the same -/
def idleP (t : Text) (x : Lexicon) (d : Decision) : Bool := decide (entriesL t (lessX x d.number) = entriesL t x)
theorem idle_eq {t : Text} {x : Lexicon} (h : checkN t x = 0) : ((x.decisions.filter (idleP t x)).map (·.number)).mergeSort (fun a b => decide (a ≤ b)) = idleR t x := by
 have hx := okD_of h
 have hs : (idleR t x).Pairwise fun a b => a < b := by
  refine List.Pairwise.filter _ ?_
  rw [List.pairwise_map]
  refine List.pairwise_lt_range.imp fun h => ?_
  simp only [natI]; omega
 have hnd : (idleR t x).Nodup := hs.imp fun h => by omega
 have hn1 : ((x.decisions.filter (idleP t x)).map (·.number)).Nodup := (List.filter_sublist.map _).nodup hx.1
 have hperm : ((x.decisions.filter (idleP t x)).map (·.number)).Perm (idleR t x) := by
  rw [List.perm_ext_iff_of_nodup hn1 hnd]
  intro n
  simp only [idleR, idleK, List.mem_filter, List.mem_map, List.mem_range, idleB, Bool.and_eq_true, decide_eq_true_eq, idleP]
  constructor
  ·rintro ⟨d, ⟨h1, h2⟩, rfl⟩
   obtain ⟨h3, h4, _⟩ := hx.2 d h1
   refine ⟨⟨(d.number - 1).toNat, by omega, by simp only [natI]; omega⟩, ?_, entries_heads.1 h2⟩
   have h5 : (lessX x d.number).decisions.Sublist x.decisions := List.filter_sublist
   refine Nat.lt_of_le_of_ne h5.length_le fun e => ?_
   have h6 := h5.eq_of_length e
   have h7 : d ∈ (lessX x d.number).decisions := by rw [h6]; exact h1
   simpa using (List.mem_filter.1 h7).2
  ·rintro ⟨_, h1, h2⟩
   rcases Classical.em (∃ d ∈ x.decisions, d.number = n) with ⟨d, hd, e⟩ | hno
   ·exact ⟨d, ⟨hd, by rw [e]; exact entries_heads.2 h2⟩, e⟩
   ·exfalso
    have : (lessX x n).decisions = x.decisions := by
     simp only [lessX]
     rw [List.filter_eq_self]
     intro d hd
     have : ¬ d.number = n := fun e => hno ⟨d, hd, e⟩
     simpa using this
    rw [this] at h1; omega
 refine List.Perm.eq_of_pairwise (le := fun a b : Int => a ≤ b) (fun a b _ _ h1 h2 => by omega) ?_ (hs.imp (fun h => by omega)) ((List.mergeSort_perm _ _).trans hperm)
 have h := List.pairwise_mergeSort (le := fun a b : Int => decide (a ≤ b)) (by intro a b c h1 h2; simp at *; omega) (by intro a b; simp; omega) ((x.decisions.filter (idleP t x)).map (·.number))
 exact h.imp (fun h => by simpa using h)
/-- a decision more -/
def moreX (x : Lexicon) (d : Decision) : Lexicon := { x with decisions := x.decisions ++ [d] }
def ascD (l : List Decision) : List Decision := l.mergeSort fun a b => decide (a.number ≤ b.number)
def addX (x : Lexicon) (d : Decision) : Lexicon := { x with decisions := ascD (x.decisions ++ [d]) }
def addE (t : Text) (x : Lexicon) (d : Decision) : Int := if checkN t x ≠ 0 then checkN t x else if x.decisions.length = 20 then 9 else if checkN t (moreX x d) ≠ 0 then 41 else 0
def zLexicon : Lexicon := ⟨[], []⟩
def addN (t : Text) (x : Lexicon) (d : Decision) : Lexicon := if addE t x d = 0 then addX x d else zLexicon
theorem ascD_perm (l : List Decision) : (ascD l).Perm l := List.mergeSort_perm _ _
theorem ascD_sorted (l : List Decision) : (ascD l).Pairwise fun a b => a.number ≤ b.number := by
 have h := List.pairwise_mergeSort (le := fun a b : Decision => decide (a.number ≤ b.number)) (by intro a b c h1 h2; simp at *; omega) (by intro a b; simp; omega) l
 exact h.imp (fun h => by simpa using h)
theorem ascD_eq {l ys : List Decision} (hp : ys.Perm l) (hs : ys.Pairwise fun a b => a.number ≤ b.number) (hn : (l.map (·.number)).Nodup) : ys = ascD l := by
 refine List.Perm.eq_of_pairwise (le := fun a b : Decision => a.number ≤ b.number) ?_ hs (ascD_sorted l) (hp.trans (ascD_perm l).symm)
 intro a b ha hb h1 h2
 exact nodup_key hn (hp.mem_iff.1 ha) ((ascD_perm l).mem_iff.1 hb) (by omega)
theorem addE_zero {t : Text} {x : Lexicon} {d : Decision} (h : addE t x d = 0) : checkN t x = 0 ∧ ¬ x.decisions.length = 20 ∧ checkN t (moreX x d) = 0 := by
 unfold addE at h
 split at h
 ·rename_i q; exact absurd h q
 ·rename_i q
  split at h
  ·cases h
  ·rename_i q2
   split at h
   ·cases h
   ·rename_i q3
    exact ⟨by simpa using q, q2, by simpa using q3⟩
theorem addX_check {t : Text} {x : Lexicon} {d : Decision} (h : checkN t (moreX x d) = 0) : checkN t (addX x d) = 0 := by
 have hp := ascD_perm (x.decisions ++ [d])
 refine lexiconB_of h rfl (fun e he => lexicon_dec h e (hp.mem_iff.1 he)) ?_ ?_
 ·have := lexicon_20 h
  rw [show (addX x d).decisions.length = (moreX x d).decisions.length from hp.length_eq]; exact this
 ·exact (hp.map _).nodup_iff.2 (okD_of h).1
def changesP (t : Text) (x : Lexicon) (d : Decision) : List Place := (placesT t).filter fun p => decide (headAt t (addX x d) p ≠ headAt t x p)
def changesR (t : Text) (x : Lexicon) (d : Decision) : List Place := if addE t x d = 0 then changesP t x d else []
theorem hom_keep {es : List Entry} {n : Nat} {y : Entry} (h : es[n]? = some y) {m : List (Str × Head)} (hm : ∀ w, look m w = hdFirst (es.take n) w) (h1 : (look m y.word).isSome = true) : ∀ w, look m w = hdFirst (es.take (n + 1)) w := by
 obtain ⟨z, hz⟩ := Option.isSome_iff_exists.1 h1
 exact hdFirst_keep h hm ((hm _).symm.trans hz)
theorem hom_put {es : List Entry} {n : Nat} {y : Entry} (h : es[n]? = some y) {m : List (Str × Head)} (hm : ∀ w, look m w = hdFirst (es.take n) w) (h1 : (look m y.word).isSome = true → (look m y.word).getD zHead = y.head) : ∀ w, look (putM m y.word y.head) w = hdFirst (es.take (n + 1)) w := by
 refine hdFirst_put h hm fun z hz => ?_
 rw [← hm] at hz
 rw [hz] at h1
 exact h1 rfl
theorem homAt_yes {es : List Entry} {y : Entry} {m : List (Str × Head)} (hm : ∀ w, look m w = hdFirst es w) (h1 : (look m y.word).isSome = true) (h2 : (look m y.word).getD zHead ≠ y.head) : homAt es y = [y.word] := by
 obtain ⟨z, hz⟩ := Option.isSome_iff_exists.1 h1
 rw [hz] at h2
 rw [hm] at hz
 simp only [homAt, hz]
 exact if_pos h2
theorem homAt_no {es : List Entry} {y : Entry} {m : List (Str × Head)} (hm : ∀ w, look m w = hdFirst es w) (h1 : (look m y.word).isSome = true → (look m y.word).getD zHead = y.head) : homAt es y = [] := by
 unfold homAt
 rw [← hm]
 cases hz : look m y.word with
 | none => rfl
 | some z =>
  rw [hz] at h1
  simp only []
  exact if_neg (fun q => q (h1 rfl))
theorem entry_at {t : Text} {x : Lexicon} {i : Nat} {y : Entry} (h : (entriesL t x)[i]? = some y) : ∃ p, (placesT t)[i]? = some p ∧ y = entryAt t x p := by
 rw [entriesL, List.getElem?_map] at h
 obtain ⟨p, hp, rfl⟩ := Option.map_eq_some_iff.1 h
 exact ⟨p, hp, rfl⟩
theorem change_at {t : Text} {x x' : Lexicon} {i : Nat} {y z : Entry} (hy : (entriesL t x')[i]? = some y) (hz : (entriesL t x)[i]? = some z) : ∃ p, (placesT t)[i]? = some p ∧ y.at_ = p ∧ (y = z ↔ headAt t x' p = headAt t x p) := by
 obtain ⟨p, hp, rfl⟩ := entry_at hy
 obtain ⟨q, hq, rfl⟩ := entry_at hz
 rw [hp] at hq; cases hq
 exact ⟨p, hp, rfl, by simp [entryAt]⟩
theorem entries_length (t : Text) (x : Lexicon) : (entriesL t x).length = (placesT t).length := by rw [entriesL, List.length_map]
theorem heads_length (t : Text) (x : Lexicon) : (headsL t x).length = (placesT t).length := by rw [headsL, List.length_map]
theorem addE_bad {t : Text} {x : Lexicon} {d : Decision} (h : ¬ checkN t x = 0) : addE t x d = checkN t x ∧ addN t x d = zLexicon := by
 have e : addE t x d = checkN t x := if_pos h
 exact ⟨e, by rw [addN, e]; exact if_neg h⟩
theorem addE_full {t : Text} {x : Lexicon} {d : Decision} (h : checkN t x = 0) (h2 : x.decisions.length = 20) : addE t x d = 9 ∧ addN t x d = zLexicon := by
 have e : addE t x d = 9 := by rw [addE, if_neg (fun q => q h), if_pos h2]
 exact ⟨e, by rw [addN, e]; rfl⟩
theorem addE_err {t : Text} {x : Lexicon} {d : Decision} (h : checkN t x = 0) (h2 : ¬ x.decisions.length = 20) (h3 : ¬ checkN t (moreX x d) = 0) : addE t x d = 41 ∧ addN t x d = zLexicon := by
 have e : addE t x d = 41 := by rw [addE, if_neg (fun q => q h), if_neg h2, if_pos h3]
 exact ⟨e, by rw [addN, e]; rfl⟩
theorem addE_ok {t : Text} {x : Lexicon} {d : Decision} (h : checkN t x = 0) (h2 : ¬ x.decisions.length = 20) (h3 : checkN t (moreX x d) = 0) : addE t x d = 0 ∧ addN t x d = addX x d := by
 have e : addE t x d = 0 := by rw [addE, if_neg (fun q => q h), if_neg h2, if_neg (fun q => q h3)]
 exact ⟨e, by rw [addN, e]; rfl⟩
end Go.Pk

namespace Go.Pk
open Go Go.RowKit
/-- the i-th decision on its way to the left, now at k -/
def insK (ds : List Decision) (i k : Nat) (y : Decision) : List Decision := ds.take k ++ y :: ((ds.take i).drop k ++ ds.drop (i + 1))
/-- part way: the first i in order -/
def sortedTo (ds : List Decision) (i : Nat) : Prop := (ds.take i).Pairwise fun a b => a.number ≤ b.number
end Go.Pk

namespace Go.Pk
open Go Go.RowKit
/-- a place's decision, without a sort -/
def winV (x : Lexicon) (p : Place) (wd : Str) : Decision :=
 if (bestOf ((x.decisions.filter (standsB x)).filter fun d => concB d p wd)).number = 0 then { zDecision with to := ⟨((stepsN x.rules 4 wd).getLast?).getD [], 0⟩ } else bestOf ((x.decisions.filter (standsB x)).filter fun d => concB d p wd)
theorem standM_perm (x : Lexicon) : ((standM x).map (·.2)).Perm (x.decisions.filter (standsB x)) := by
 have : (standM x).map (·.2) = (downD x).filter (standsB x) := by simp [standM, pairD, List.map_map, Function.comp_def]
 rw [this]
 exact (downD_perm x).filter _
theorem winV_eq {x : Lexicon} (h : OkD x) : winD x = winV x := by
 funext p wd
 have hp : (conD x p wd).Perm ((x.decisions.filter (standsB x)).filter fun d => concB d p wd) := (standM_perm x).filter _
 have e : bestOf (conD x p wd) = bestOf ((x.decisions.filter (standsB x)).filter fun d => concB d p wd) := by
  refine bestOf_perm hp ?_ ?_
  ·intro y hy
   exact (h.2 _ (List.mem_filter.1 (List.mem_filter.1 hy).1).1).1
  ·exact ((List.filter_sublist.trans List.filter_sublist).map _).nodup h.1
 rw [winD, winV, e]
def headV (t : Text) (x : Lexicon) (p : Place) : Head := (winV x p (wordD t p)).to
theorem headV_eq {t : Text} {x : Lexicon} (h : OkD x) : headAt t x = headV t x := by
 funext p
 rw [headAt, headV, winV_eq h]
def entryV (t : Text) (x : Lexicon) (p : Place) : Entry := ⟨p, wordD t p, headV t x p⟩
def headsV (t : Text) (x : Lexicon) : List Head := (placesT t).map (headV t x)
def entriesV (t : Text) (x : Lexicon) : List Entry := (placesT t).map (entryV t x)
theorem headsV_eq {t : Text} {x : Lexicon} (h : OkD x) : headsL t x = headsV t x := by rw [headsL, headsV, headV_eq h]
theorem entriesV_eq {t : Text} {x : Lexicon} (h : OkD x) : entriesL t x = entriesV t x := by
 rw [entriesL, entriesV]
 refine List.map_congr_left fun p _ => ?_
 rw [entryAt, entryV, headV_eq h]
def underV (t : Text) (x : Lexicon) (hd : Head) : List Place := (placesT t).filter fun p => decide (headV t x p = hd)
theorem underV_eq {t : Text} {x : Lexicon} {hd : Head} (h : OkD x) : underP t x hd = underV t x hd := by rw [underP, underV, headV_eq h]
def homV (t : Text) (x : Lexicon) : List Str := setL sLt (homsN (entriesV t x) (placesT t).length)
theorem homV_eq {t : Text} {x : Lexicon} (h : checkN t x = 0) : homR t x = homV t x := by
 rw [homR, if_pos h, homV, entries_length, entriesV_eq (okD_of h)]
def idleV (t : Text) (x : Lexicon) (n : Int) : Bool := decide ((lessX x n).decisions.length < x.decisions.length) && decide (headsV t (lessX x n) = headsV t x)
theorem idleV_eq {t : Text} {x : Lexicon} (h : checkN t x = 0) : idleN t x = ((List.range 999).map natI).filter (idleV t x) := by
 rw [idleN, if_pos h, idleR, idleK]
 refine List.filter_congr fun n _ => ?_
 rw [idleB, idleV, headsV_eq (okD_of h), headsV_eq (okD_of (lessX_check h n))]
def changesV (t : Text) (x y : Lexicon) : List Place := (placesT t).filter fun p => decide (headV t y p ≠ headV t x p)
theorem changesV_eq {t : Text} {x y : Lexicon} {d : Decision} (h : addE t x d = 0) (hy : addX x d = y) : changesR t x d = changesV t x y := by
 obtain ⟨h1, _, h3⟩ := addE_zero h
 have h4 := addX_check h3
 rw [changesR, if_pos h, changesP, headV_eq (okD_of h1), headV_eq (okD_of h4), hy]; rfl
theorem addX_eq {x : Lexicon} {d : Decision} {ys : List Decision} (hp : ys.Perm (x.decisions ++ [d])) (hs : ys.Pairwise fun a b => a.number ≤ b.number) (hn : ((x.decisions ++ [d]).map (·.number)).Nodup) : addX x d = ⟨x.rules, ys⟩ := by
 rw [addX, ← ascD_eq hp hs hn]
/-- the chapter's text and lexicon -/
def wThe : Str := [116, 104, 101]
def wSea : Str := [115, 101, 97]
def wSee : Str := [115, 101, 101]
def wIs : Str := [105, 115]
def wOld : Str := [111, 108, 100]
def wOlde : Str := [111, 108, 100, 101]
def wAnd : Str := [97, 110, 100]
def wAge : Str := [97, 103, 101]
def textE : Text := ⟨[⟨7, [[wThe, wSea, wIs, wOld], [wOld, wThe, wSea]]⟩, ⟨3, [[wSea, wAnd, wSea]]⟩]⟩
def rulesE : List Rule := [⟨[115], [], 2⟩, ⟨[108, 100], [108, 100, 101], 1⟩]
def d1E : Decision := ⟨1, 1, wSea, zPlace, ⟨wSea, 1⟩, 0⟩
def d2E : Decision := ⟨2, 2, wOld, ⟨0, 1, 0⟩, ⟨wAge, 3⟩, 0⟩
def d3E : Decision := ⟨3, 3, [], ⟨1, 0, 2⟩, ⟨wSee, 2⟩, 0⟩
def d4E : Decision := ⟨4, 1, wSea, zPlace, ⟨wSee, 2⟩, 0⟩
def d5E : Decision := ⟨5, 4, [], zPlace, zHead, 3⟩
def lexE (more : List Decision) : Lexicon := ⟨rulesE, [d1E, d2E, d3E] ++ more⟩
theorem checkE : checkN textE (lexE []) = 0 := by decide +kernel
theorem checkE4 : checkN textE (lexE [d4E]) = 0 := by decide +kernel
theorem checkE5 : checkN textE (lexE [d5E]) = 0 := by decide +kernel
theorem stepsE_old : stepsR textE (lexE []) wOld = [wOld, wOlde] ∧ stepsE textE (lexE []) wOld = 0 := by decide +kernel
theorem under_ok {t : Text} {x : Lexicon} {hd : Head} {l : List Place} (hx : checkN t x = 0) (hh : headB hd = true) (h : underV t x hd = l) (hl : l ≠ []) : underE t x hd = 0 ∧ underR t x hd = l := by
 have e : underP t x hd = l := by rw [underV_eq (okD_of hx)]; exact h
 have e1 : underE t x hd = 0 := by rw [underE, if_pos hx, if_pos hh, e, if_neg hl]
 exact ⟨e1, by rw [underR, if_pos e1, e]⟩
theorem underE_sea : underE textE (lexE []) ⟨wSea, 1⟩ = 0 ∧ underR textE (lexE []) ⟨wSea, 1⟩ = [⟨0, 0, 1⟩, ⟨0, 1, 2⟩, ⟨1, 0, 0⟩] := under_ok checkE (by decide +kernel) (by decide +kernel) (by simp)
theorem homE : homR textE (lexE []) = [wOld, wSea] := by rw [homV_eq checkE]; decide +kernel
theorem addE4 : addE textE (lexE []) d4E = 0 := by decide +kernel
theorem addE54 : addE textE (lexE [d5E]) d4E = 0 := by decide +kernel
theorem addX4 : addX (lexE []) d4E = lexE [d4E] := addX_eq (ys := [d1E, d2E, d3E, d4E]) (List.Perm.refl _) (by decide +kernel) (by decide +kernel)
theorem addX54 : addX (lexE [d5E]) d4E = lexE [d4E, d5E] := addX_eq (ys := [d1E, d2E, d3E, d4E, d5E]) (by decide +kernel) (by decide +kernel) (by decide +kernel)
theorem changesE4 : changesR textE (lexE []) d4E = [⟨0, 0, 1⟩, ⟨0, 1, 2⟩, ⟨1, 0, 0⟩] := by rw [changesV_eq addE4 addX4]; decide +kernel
theorem idleE4 : idleN textE (lexE [d4E]) = [1, 3] := by rw [idleV_eq checkE4]; decide +kernel
theorem standingE5 : standingN textE (lexE [d5E]) = [1, 2, 5] := by decide +kernel
theorem askR_eq {t : Text} {x : Lexicon} {p : Place} (hx : checkN t x = 0) (hp : placeB t p = true) : askR t x p = winV x p (wordD t p) := by rw [askR, if_pos ⟨hx, hp⟩, winV_eq (okD_of hx)]
theorem askE_eq {t : Text} {x : Lexicon} {p : Place} (hx : checkN t x = 0) (hp : placeB t p = true) : askE t x p = 0 := by rw [askE, if_pos hx, if_pos hp]
theorem ask1 : askR textE (lexE []) ⟨0, 0, 3⟩ = { zDecision with to := ⟨wOlde, 0⟩ } ∧ askE textE (lexE []) ⟨0, 0, 3⟩ = 0 := ⟨by rw [askR_eq checkE (by decide +kernel)]; decide +kernel, askE_eq checkE (by decide +kernel)⟩
theorem ask2 : askR textE (lexE []) ⟨0, 1, 0⟩ = d2E ∧ askE textE (lexE []) ⟨0, 1, 0⟩ = 0 := ⟨by rw [askR_eq checkE (by decide +kernel)]; decide +kernel, askE_eq checkE (by decide +kernel)⟩
theorem ask3 : askR textE (lexE []) ⟨1, 0, 2⟩ = d3E ∧ askE textE (lexE []) ⟨1, 0, 2⟩ = 0 := ⟨by rw [askR_eq checkE (by decide +kernel)]; decide +kernel, askE_eq checkE (by decide +kernel)⟩
end Go.Pk

namespace Go.Pk
open Go Go.RowKit
theorem made_word {r : Rule} {w s : Str} (hr : ruleB r = true) (hw : wordB w = true) (h : made r w = some s) : wordB s = true := by
 unfold made at h
 split at h
 ·rename_i h1
  cases h
  simp only [ruleB, Bool.and_eq_true, lettersB, inB, decide_eq_true_eq] at hr
  simp only [wordB, lettersB, inB, Bool.and_eq_true, decide_eq_true_eq, List.all_eq_true] at hw ⊢
  refine ⟨?_, ?_⟩
  ·intro c hc
   rcases List.mem_append.1 hc with hc | hc
   ·exact hw.1 c (List.mem_of_mem_take hc)
   ·exact List.all_eq_true.1 hr.1.1.2.1 c hc
  ·rw [List.length_append, List.length_take]
   have := hr.2
   omega
 ·cases h
theorem stepsN_word {rs : List Rule} (hr : ∀ r ∈ rs, ruleB r = true) : ∀ (n : Nat) (w : Str), wordB w = true → ∀ s ∈ stepsN rs n w, wordB s = true
 | 0, w, hw, s, hs => by simp [stepsN] at hs; subst hs; exact hw
 | n + 1, w, hw, s, hs => by
  simp only [stepsN] at hs
  split at hs
  ·simp at hs; subst hs; exact hw
  ·rename_i u hu
   rcases List.mem_cons.1 hs with rfl | hs
   ·exact hw
   ·obtain ⟨r, hr1, hr2⟩ := List.exists_of_findSome?_eq_some hu
    exact stepsN_word hr n u (made_word (hr r hr1) hw hr2) s hs
theorem lexicon_rs {t : Text} {x : Lexicon} (h : checkN t x = 0) : ∀ r ∈ x.rules, ruleB r = true := by
 have h1 := (lexicon_of h).2
 simp only [lexiconB, Bool.and_eq_true, List.all_eq_true] at h1
 exact h1.1.1.2
/-- which decisions count at a place -/
def countV (x : Lexicon) (p : Place) (wd : Str) : List Decision := (x.decisions.filter (standsB x)).filter fun d => concB d p wd
end Go.Pk

namespace Go.Pk
open Go Go.RowKit
/-- the numbers of the decisions that stand -/
def standS (x : Lexicon) : List Int := (standingR x).map (·.number)
/-- places are all different -/
theorem flat_nodup {α : Type} {f : Nat → List α} (g : α → Nat) (h1 : ∀ k, (f k).Nodup) (h2 : ∀ k, ∀ a ∈ f k, g a = k) : ∀ n, ((List.range n).flatMap f).Nodup
 | 0 => by simp
 | n + 1 => by
  rw [range_flat_succ, List.nodup_append]
  refine ⟨flat_nodup g h1 h2 n, h1 n, ?_⟩
  intro a ha b hb e
  subst e
  obtain ⟨k, hk, hk2⟩ := List.mem_flatMap.1 ha
  have e1 := h2 k a hk2
  have e2 := h2 n a hb
  have := List.mem_range.1 hk
  omega
theorem lineP_nodup (t : Text) (k n : Nat) : (lineP t k n).Nodup := by
 unfold lineP
 rw [List.Nodup, List.pairwise_map]
 refine List.nodup_range.imp fun h e => h ?_
 simp only [mkP, Place.mk.injEq] at e
 omega
theorem chapP_nodup (t : Text) (k : Nat) : (chapP t k).Nodup := by
 refine flat_nodup (fun p => p.line.toNat) (lineP_nodup t k) (fun n p hp => ?_) _
 obtain ⟨w, _, rfl⟩ := List.mem_map.1 hp
 simp [mkP]
theorem places_nodup (t : Text) : (placesT t).Nodup := by
 refine flat_nodup (fun p => p.chapter.toNat) (chapP_nodup t) (fun k p hp => ?_) _
 obtain ⟨n, _, hp⟩ := List.mem_flatMap.1 hp
 obtain ⟨w, _, rfl⟩ := List.mem_map.1 hp
 simp [mkP]
/-- what is taken out of a list, in step with it -/
def cntQ {α : Type} (q : α → Bool) (l : List α) (i : Nat) : Nat := ((l.take i).filter q).length
theorem countV_mem {x : Lexicon} {p : Place} {wd : Str} {e : Decision} : e ∈ countV x p wd ↔ e ∈ x.decisions ∧ standsB x e = true ∧ concB e p wd = true := by
 simp only [countV, List.mem_filter]
 constructor
 ·rintro ⟨⟨a, b⟩, c⟩; exact ⟨a, b, c⟩
 ·rintro ⟨a, b, c⟩; exact ⟨⟨a, b⟩, c⟩
end Go.Pk

namespace Go.Pk
open Go Go.RowKit
theorem winV_none {x : Lexicon} {p : Place} {wd : Str} (h : countV x p wd = []) : winV x p wd = { zDecision with to := ⟨((stepsN x.rules 4 wd).getLast?).getD [], 0⟩ } := by
 simp only [countV] at h
 rw [winV, h, if_pos (show (bestOf []).number = 0 from rfl)]
theorem winV_some {x : Lexicon} (hx : OkD x) {p : Place} {wd : Str} (h : countV x p wd ≠ []) : winV x p wd = bestOf (countV x p wd) ∧ bestOf (countV x p wd) ∈ countV x p wd ∧ ∀ y ∈ countV x p wd, y ≠ bestOf (countV x p wd) → lexD y (bestOf (countV x p wd)) := by
 have hp : ∀ z ∈ countV x p wd, 1 ≤ z.number := fun z hz => (hx.2 _ (countV_mem.1 hz).1).1
 have hn : ((countV x p wd).map (·.number)).Nodup := ((List.filter_sublist.trans List.filter_sublist).map _).nodup hx.1
 have hb := bestOf_pos hp h
 refine ⟨?_, hb.2, bestOf_best hp hn⟩
 have h1 := hb.1
 simp only [countV] at h1 ⊢
 rw [winV, if_neg (by omega)]
theorem conc_void {d : Decision} (h : d.kind = 4) (p : Place) (wd : Str) : concB d p wd = false := by simp [concB, h]
def voidD (n o : Int) : Decision := ⟨n, 4, [], zPlace, zHead, o⟩
section
variable {t : Text} {x : Lexicon} {d : Decision} {most : Int}
end
end Go.Pk

namespace Go.Pk
open Go Go.RowKit
def zRule : Rule := ⟨[], [], 0⟩
/-- the i-th of a list that goes round -/
def chooseN (l : List Int) (i : Nat) : Int := (l[i % l.length]?).getD 0
theorem askR_win {t : Text} {x : Lexicon} {p : Place} (hx : checkN t x = 0) (hp : placeB t p = true) : askR t x p = winD x p (wordD t p) := by
 rw [askR, if_pos ⟨hx, hp⟩]
theorem addN54 : addN textE (lexE [d5E]) d4E = lexE [d4E, d5E] := by rw [addN, if_pos addE54, addX54]
end Go.Pk

namespace Go.Pk
open Go Go.RowKit
theorem at_word {t : Text} {p : Place} (ht : textB t = true) : (if textB t = true then (wordAt t p).getD [] else []) = wordD t p := by rw [if_pos ht]; rfl
theorem at_err {t : Text} {p : Place} (ht : textB t = true) (hp : placeB t p = true) : (if (textB t && placeB t p) = true then (0 : Int) else if textB t = true then 12 else 10) = 0 := by rw [if_pos (by rw [ht, hp]; rfl)]
theorem placesT_in {t : Text} {k n w : Nat} {c : Chapter} {ln : List Str} (hc : t.chapters[k]? = some c) (hl : c.lines[n]? = some ln) (hw : w < ln.length) : mkP k n w ∈ placesT t := by
 refine List.mem_flatMap.2 ⟨k, List.mem_range.2 (List.getElem?_eq_some_iff.1 hc).1, List.mem_flatMap.2 ⟨n, List.mem_range.2 ?_, List.mem_map.2 ⟨w, List.mem_range.2 ?_, rfl⟩⟩⟩
 ·rw [linesAt_some hc]; exact (List.getElem?_eq_some_iff.1 hl).1
 ·rw [wordsAt_some hc hl]; exact hw
theorem places_pos {t : Text} (ht : textB t = true) : 0 < (placesT t).length := by
 have ht' := ht
 simp only [textB, Bool.and_eq_true, List.all_eq_true, inB, decide_eq_true_eq] at ht
 obtain ⟨⟨h1, h2⟩, _⟩ := ht
 have hc : t.chapters[0]? = some t.chapters[0] := List.getElem?_eq_getElem (by omega)
 have h3 := h2 _ (List.mem_of_getElem? hc)
 simp only [chapterB, Bool.and_eq_true, List.all_eq_true, inB, decide_eq_true_eq] at h3
 have hl : t.chapters[0].lines[0]? = some t.chapters[0].lines[0] := List.getElem?_eq_getElem (by omega)
 have h4 := h3.2 _ (List.mem_of_getElem? hl)
 simp only [lineB, Bool.and_eq_true, List.all_eq_true, inB, decide_eq_true_eq] at h4
 exact List.length_pos_of_mem (placesT_in hc hl (w := 0) (by omega))
theorem wordD_word {t : Text} {p : Place} (ht : textB t = true) (hp : placeB t p = true) : wordB (wordD t p) = true := by
 obtain ⟨c, ln, wd, _, hc, _, hl, _, hw, e⟩ := place_at hp
 rw [e]
 simp only [textB, Bool.and_eq_true, List.all_eq_true] at ht
 have h1 := ht.1.2 _ (List.mem_of_getElem? hc)
 simp only [chapterB, Bool.and_eq_true, List.all_eq_true] at h1
 have h2 := h1.2 _ (List.mem_of_getElem? hl)
 simp only [lineB, Bool.and_eq_true, List.all_eq_true] at h2
 exact h2.2 _ (List.mem_of_getElem? hw)
/-- a map that says true of each number of a list -/
def trM (l : List Int) : List (Int × Bool) := l.map fun n => (n, true)
theorem look_tr {l : List Int} {n : Int} : look (trM l) n = if n ∈ l then some true else none := by
 induction l with
 | nil => rfl
 | cons a l ih =>
  simp only [trM, look, List.map_cons, List.find?_cons, List.mem_cons] at ih ⊢
  by_cases h : a = n
  ·subst h; simp
  ·simp only [h, decide_false, Ne.symm h, false_or]; exact ih
theorem tr_look {l : List Int} {n : Int} : (look (trM l) n).getD false = decide (n ∈ l) := by
 rw [look_tr]; split <;> simp_all
/-- the last one with a number -/
def wonF (l : List Decision) (n : Int) : Decision := l.foldl (fun a d => if d.number = n then d else a) zDecision
/-- some decision that stands concerns a place -/
def someS (x : Lexicon) (p : Place) (wd : Str) (d : Decision) : Bool := decide (d.number ∈ standS x) && concB d p wd
/-- the greatest number -/
def mostN (l : List Decision) : Int := l.foldl (fun a d => max a d.number) 0
/-- what a decision changes, place by place -/
def chQ (t : Text) (x : Lexicon) (d : Decision) (p : Place) : Bool := decide (headAt t (addX x d) p ≠ headAt t x p)
section
variable {t : Text} {x : Lexicon} {d : Decision}
def cdQ (x y : Lexicon) (p : Place) (wd : Str) (o : Decision) : Bool := (decide (o.number ∈ standS x) != decide (o.number ∈ standS y)) && concB o p wd
end
end Go.Pk

namespace Go.Pk
open Go Go.RowKit
def zText : Text := ⟨[]⟩
end Go.Pk

namespace Go.Pk
open Go Go.RowKit
/-- the number of a place -/
def numI (t : Text) (p : Place) : Int := (((placesT t).idxOf p : Nat) : Int)
theorem num_at {t : Text} {i : Nat} {p : Place} (h : (placesT t)[i]? = some p) : numI t p = (i : Int) := by
 have hp : p ∈ placesT t := List.mem_of_getElem? h
 have h1 := List.idxOf_lt_length_of_mem hp
 have h2 : (placesT t)[(placesT t).idxOf p] = p := List.getElem_idxOf h1
 obtain ⟨h3, h4⟩ := List.getElem?_eq_some_iff.1 h
 have hn := List.pairwise_iff_getElem.1 (places_nodup t)
 rw [numI]
 congr 1
 rcases Nat.lt_trichotomy ((placesT t).idxOf p) i with q | q | q
 ·exact absurd (h2.trans h4.symm) (hn _ _ h1 h3 q)
 ·exact q
 ·exact absurd (h4.trans h2.symm) (hn _ _ h3 h1 q)
theorem num_sorted (t : Text) : (placesT t).Pairwise fun a b => numI t a < numI t b := by
 refine List.pairwise_iff_getElem.2 fun i j hi hj hij => ?_
 rw [num_at (List.getElem?_eq_getElem hi), num_at (List.getElem?_eq_getElem hj)]
 omega
theorem num_inj {t : Text} {a b : Place} (ha : a ∈ placesT t) (hb : b ∈ placesT t) (h : numI t a = numI t b) : a = b := by
 obtain ⟨i, hi⟩ := List.mem_iff_getElem?.1 ha
 obtain ⟨j, hj⟩ := List.mem_iff_getElem?.1 hb
 rw [num_at hi, num_at hj] at h
 have : i = j := by omega
 subst this
 rw [hi] at hj; exact Option.some.inj hj
theorem under_mem {t : Text} {x : Lexicon} {h : Head} {p : Place} : p ∈ underP t x h ↔ p ∈ placesT t ∧ headAt t x p = h := by rw [underP, List.mem_filter, decide_eq_true_eq]
theorem under_sorted (t : Text) (x : Lexicon) (h : Head) : (underP t x h).Pairwise fun a b => numI t a < numI t b := (num_sorted t).filter _
/-- all places under some heads -/
def underA (t : Text) (x : Lexicon) (hs : List Head) : List Place := hs.flatMap (underP t x)
theorem underA_mem {t : Text} {x : Lexicon} {hs : List Head} {p : Place} : p ∈ underA t x hs ↔ p ∈ placesT t ∧ headAt t x p ∈ hs := by
 rw [underA, List.mem_flatMap]
 constructor
 ·rintro ⟨h, hh, hp⟩
  obtain ⟨a, b⟩ := under_mem.1 hp
  exact ⟨a, b ▸ hh⟩
 ·rintro ⟨a, b⟩
  exact ⟨_, b, under_mem.2 ⟨a, rfl⟩⟩
theorem underA_nodup {t : Text} {x : Lexicon} : ∀ {hs : List Head}, hs.Nodup → (underA t x hs).Nodup
 | [], _ => List.nodup_nil
 | h :: hs, hn => by
  obtain ⟨h1, h2⟩ := List.nodup_cons.1 hn
  rw [underA, List.flatMap_cons]
  refine List.nodup_append.2 ⟨(places_nodup t).filter _, underA_nodup h2, ?_⟩
  rintro a ha b hb rfl
  exact h1 ((under_mem.1 ha).2 ▸ (underA_mem.1 hb).2)
theorem underA_snoc {t : Text} {x : Lexicon} {hs : List Head} {i : Nat} {h : Head} (hh : hs[i]? = some h) : underA t x (hs.take (i + 1)) = underA t x (hs.take i) ++ underP t x h := by
 rw [underA, take_snoc hh, List.flatMap_append]; simp [underA]
theorem heads_nodup {t : Text} {x : Lexicon} : (setL headLt (headsL t x)).Nodup := (setL_sorted headLt_T _).imp fun h q => by subst q; rw [headLt_T.irrefl] at h; cases h
theorem underA_all {t : Text} {x : Lexicon} : (underA t x (setL headLt (headsL t x))).length = (placesT t).length := by
 refine List.Perm.length_eq ((List.perm_ext_iff_of_nodup (underA_nodup heads_nodup) (places_nodup t)).2 fun p => ?_)
 rw [underA_mem]
 refine ⟨fun q => q.1, fun q => ⟨q, setL_mem.2 (List.mem_map.2 ⟨p, q, rfl⟩)⟩⟩
/-- what has been seen, when the k-th place of the i-th head comes -/
def seenL (t : Text) (x : Lexicon) (hs : List Head) (u : List Place) : List Int := (underA t x hs ++ u).map (numI t)
theorem seen_new {t : Text} {x : Lexicon} {hs : List Head} {i k : Nat} {h : Head} {p : Place} (hn : hs.Nodup) (hh : hs[i]? = some h) (hp : (underP t x h)[k]? = some p) : numI t p ∉ seenL t x (hs.take i) ((underP t x h).take k) := by
 intro q
 obtain ⟨a, ha, e⟩ := List.mem_map.1 q
 have hpu := List.mem_of_getElem? hp
 obtain ⟨hp1, hp2⟩ := under_mem.1 hpu
 rcases List.mem_append.1 ha with ha | ha
 ·obtain ⟨b1, b2⟩ := underA_mem.1 ha
  have := num_inj b1 hp1 e
  subst this
  rw [hp2] at b2
  have e2 : hs = hs.take i ++ hs.drop i := (List.take_append_drop i hs).symm
  rw [e2] at hn
  refine (List.nodup_append.1 hn).2.2 h b2 h ?_ rfl
  rw [drop_cons hh]; exact List.mem_cons_self
 ·obtain ⟨b1, _⟩ := under_mem.1 (List.mem_of_mem_take ha)
  have := num_inj b1 hp1 e
  subst this
  have hs2 := under_sorted t x h
  have e2 : underP t x h = (underP t x h).take k ++ (underP t x h).drop k := (List.take_append_drop k _).symm
  rw [e2] at hs2
  have := (List.pairwise_append.1 hs2).2.2 a ha a (by rw [drop_cons hp]; exact List.mem_cons_self)
  omega
theorem seen_snoc {t : Text} {x : Lexicon} {hs : List Head} {u : List Place} {k : Nat} {p : Place} (hp : u[k]? = some p) : seenL t x hs (u.take (k + 1)) = seenL t x hs (u.take k) ++ [numI t p] := by
 rw [seenL, take_snoc hp, ← List.append_assoc, List.map_append]; rfl
theorem seen_next {t : Text} {x : Lexicon} {hs : List Head} {i : Nat} {h : Head} (hh : hs[i]? = some h) : seenL t x (hs.take i) (underP t x h) = seenL t x (hs.take (i + 1)) [] := by
 rw [seenL, seenL, underA_snoc hh, List.append_nil]
theorem tr_put {l : List Int} {n : Int} (h : n ∉ l) : putM (trM l) n true = trM (l ++ [n]) := by
 rw [putM, look_tr, if_neg h]; simp [trM]
theorem num_last {t : Text} {x : Lexicon} {h : Head} {k : Nat} {p : Place} {la : Int} (hp : (underP t x h)[k]? = some p) (hl : la < 0 ∨ ∃ q ∈ (underP t x h).take k, la = numI t q) : ¬ numI t p ≤ la := by
 rcases hl with hl | ⟨q, hq, rfl⟩
 ·have : 0 ≤ numI t p := by rw [numI]; omega
  omega
 ·have hs2 := under_sorted t x h
  have e2 : underP t x h = (underP t x h).take k ++ (underP t x h).drop k := (List.take_append_drop k _).symm
  rw [e2] at hs2
  have := (List.pairwise_append.1 hs2).2.2 q hq p (by rw [drop_cons hp]; exact List.mem_cons_self)
  omega
/-- a set of words, as a map -/
def putAll (ws : List Str) : List (Str × Bool) := ws.foldl (fun m w => putM m w true) []
theorem putAll_snoc (ws : List Str) (w : Str) : putAll (ws ++ [w]) = putM (putAll ws) w true := by rw [putAll, List.foldl_append]; rfl
theorem look_putAll (w : Str) : ∀ {ws : List Str}, look (putAll ws) w = if w ∈ ws then some true else none := by
 intro ws
 have key : ∀ (l : List Str) (m : List (Str × Bool)), look (l.foldl (fun m w => putM m w true) m) w = if w ∈ l then some true else look m w := by
  intro l
  induction l with
  | nil => intro m; simp
  | cons a l ih =>
   intro m
   rw [List.foldl_cons, ih, look_putM]
   by_cases h1 : w ∈ l
   ·simp [h1]
   ·by_cases h2 : w = a <;> simp [h1, h2]
 rw [putAll, key]; rfl
theorem look_some_mem {κ υ : Type} [DecidableEq κ] {m : List (κ × υ)} {k : κ} : (look m k).isSome = true ↔ k ∈ m.map (·.1) := by
 rw [look, Option.isSome_map, List.find?_isSome]
 constructor
 ·rintro ⟨p, hp, e⟩; exact List.mem_map.2 ⟨p, hp, of_decide_eq_true e⟩
 ·intro h
  obtain ⟨p, hp, e⟩ := List.mem_map.1 h
  exact ⟨p, hp, decide_eq_true e⟩
theorem putAll_len {ws : List Str} (hn : ((putAll ws).map (·.1)).Nodup) : (putAll ws).length = (setL sLt ws).length := by
 have h2 : (setL sLt ws).Nodup := (setL_sorted sLt_T _).imp fun h q => by subst q; rw [sLt_T.irrefl] at h; cases h
 have h3 := ((List.perm_ext_iff_of_nodup hn h2).2 fun w => by
  rw [setL_mem, ← look_some_mem, look_putAll]
  by_cases h : w ∈ ws <;> simp [h]).length_eq
 rwa [List.length_map] at h3
theorem headAt_ok {t : Text} {x : Lexicon} {p : Place} (h : checkN t x = 0) (hp : placeB t p = true) : headB (headAt t x p) = true := by
 have hx := okD_of h
 have ht := check_text h
 rw [headAt]
 by_cases hc : countV x p (wordD t p) = []
 ·rw [winV_eq hx, winV_none hc]
  have hw := stepsN_word (lexicon_rs h) 4 (wordD t p) (wordD_word ht hp) (((stepsN x.rules 4 (wordD t p)).getLast?).getD []) (by
   cases e : (stepsN x.rules 4 (wordD t p)).getLast? with
   | none => exact absurd (List.getLast?_eq_none_iff.1 e) (stepsN_ne x.rules 4 (wordD t p))
   | some s => exact List.mem_of_getLast? e)
  simp [headB, hw, inB]
 ·have hb := (winV_some hx hc)
  rw [winV_eq hx, hb.1]
  obtain ⟨h1, _, h3⟩ := countV_mem.1 hb.2.1
  have q := lexicon_dec h _ h1
  simp only [decisionB, Bool.and_eq_true] at q
  have q2 := q.2
  split at q2
  ·simp only [Bool.and_eq_true] at q2; exact q2.1.2
  ·split at q2
   ·simp only [Bool.and_eq_true] at q2; exact q2.1.2
   ·split at q2
    ·simp only [Bool.and_eq_true] at q2; exact q2.1.2
    ·split at q2
     ·rename_i hk
      rw [conc_void hk] at h3; cases h3
     ·cases q2
theorem under_of {t : Text} {x : Lexicon} {h : Head} (hx : checkN t x = 0) (hh : h ∈ setL headLt (headsL t x)) : underE t x h = 0 ∧ underP t x h ≠ [] := by
 obtain ⟨p, hp, rfl⟩ := List.mem_map.1 (setL_mem.1 hh)
 have hne : underP t x (headAt t x p) ≠ [] := List.ne_nil_of_mem (under_mem.2 ⟨hp, rfl⟩)
 exact ⟨by rw [underE, if_pos hx, if_pos (headAt_ok hx (placesT_mem hp)), if_neg hne], hne⟩
theorem flat_split {α : Type} (f : Nat → List α) {i : Nat} : ∀ {N : Nat}, i < N → ∃ R, (List.range N).flatMap f = (List.range i).flatMap f ++ (f i ++ R)
 | N + 1, h => by
  rw [range_flat_succ]
  by_cases e : i = N
  ·subst e; exact ⟨[], by simp⟩
  ·obtain ⟨R, hR⟩ := flat_split f (show i < N by omega)
   exact ⟨R ++ f N, by rw [hR]; simp⟩
theorem map_split {α : Type} (g : Nat → α) {m : Nat} : ∀ {N : Nat}, m < N → ∃ R, (List.range N).map g = (List.range m).map g ++ g m :: R
 | N + 1, h => by
  rw [List.range_succ, List.map_append]
  by_cases e : m = N
  ·subst e; exact ⟨[], rfl⟩
  ·obtain ⟨R, hR⟩ := map_split g (show m < N by omega)
   exact ⟨R ++ [g N], by rw [hR]; simp⟩
/-- a place's number, chapter by chapter -/
theorem place_pos {t : Text} {i n m : Nat} {c : Chapter} {ln : List Str} (hc : t.chapters[i]? = some c) (hl : c.lines[n]? = some ln) (hm : m < ln.length) :
  (placesT t)[((List.range i).flatMap (chapP t) ++ (List.range n).flatMap (lineP t i) ++ (List.range m).map (mkP i n)).length]? = some (mkP i n m) := by
 obtain ⟨R1, e1⟩ := flat_split (chapP t) (List.getElem?_eq_some_iff.1 hc).1
 obtain ⟨R2, e2⟩ := flat_split (lineP t i) (show n < (linesAt t i).length by rw [linesAt_some hc]; exact (List.getElem?_eq_some_iff.1 hl).1)
 obtain ⟨R3, e3⟩ := map_split (mkP i n) (show m < (wordsAt t i n).length by rw [wordsAt_some hc hl]; exact hm)
 have e : placesT t = ((List.range i).flatMap (chapP t) ++ (List.range n).flatMap (lineP t i) ++ (List.range m).map (mkP i n)) ++ (mkP i n m :: (R3 ++ (R2 ++ R1))) := by
  rw [placesT, e1, show chapP t i = (List.range n).flatMap (lineP t i) ++ (lineP t i n ++ R2) from e2, show lineP t i n = (List.range m).map (mkP i n) ++ mkP i n m :: R3 from e3]
  simp [List.append_assoc]
 rw [e, List.getElem?_append_right (Nat.le_refl _), Nat.sub_self]; rfl
theorem place_in {t : Text} {p : Place} (hp : placeB t p = true) : p ∈ placesT t := by
 obtain ⟨c, ln, wd, h1, hc, h2, hl, h3, hw, _⟩ := place_at hp
 have e : p = mkP p.chapter.toNat p.line.toNat p.word.toNat := by
  rcases p with ⟨a, b, c⟩
  simp only [mkP, Place.mk.injEq] at *
  omega
 rw [e]
 exact placesT_in hc hl (List.getElem?_eq_some_iff.1 hw).1
theorem pre_snoc {α : Type} {l pre : List α} {x : α} (h : pre = l.take pre.length) (hx : l[pre.length]? = some x) : pre ++ [x] = l.take (pre ++ [x]).length := by
 rw [List.length_append, List.length_cons, List.length_nil, Nat.zero_add, take_snoc hx, ← h]
theorem num_ok {t : Text} {p : Place} (ht : textB t = true) (hp : placeB t p = true) : (if (textB t && placeB t p) = true then numI t p else 0) = numI t p := by rw [if_pos (by rw [ht, hp]; rfl)]
theorem seen_len {t : Text} {x : Lexicon} {hs : List Head} : (trM (seenL t x hs [])).length = (underA t x hs).length := by simp [trM, seenL]
theorem sorted_pred {α : Type} {lt : α → α → Bool} {l : List α} (hs : l.Pairwise fun a b => lt a b = true) {k : Nat} {m n : α} (hk : 0 < k) (h1 : l[k - 1]? = some m) (h2 : l[k]? = some n) : lt m n = true := by
 obtain ⟨a, b⟩ := List.getElem?_eq_some_iff.1 h1
 obtain ⟨c, d⟩ := List.getElem?_eq_some_iff.1 h2
 have := List.pairwise_iff_getElem.1 hs (k - 1) k a c (by omega)
 rw [b, d] at this; exact this
end Go.Pk

namespace Go.Pk
open Go Go.RowKit
theorem X {α : Sort _} {a : α} : a = a := rfl
theorem t_kr {p : Prop} (h : p := by kernel_rfl) : p := h
theorem zO {p : Prop} (h : p := by first | assumption | (simp [big]; done) | (simp [big]; omega) | omega) : p := h
theorem t_u8 {p : Prop} (h : p := by first | assumption | decide | omega | (dsimp only; omega) | (simp; omega)) : p := h
theorem t_om {p : Prop} (h : p := by first | omega | (simp; omega)) : p := h
theorem zR {p : Prop} (h : p := by repeat (first | exact Agree.mix _ _ _ | exact Agree.refl _ _ | refine Agree.updO rfl ?_ | refine Agree.upd rfl ?_ | refine Agree.known rfl ?_ | refine Agree.sub rfl ?_)) : p := h
theorem zV {p : Prop} (h : p := by first | omega | simp | trivial) : p := h
section
variable {P : Program} {n : Nat} {ops : Array Oper} {rest : List Oper} {K : Env → World → Prop} {C : World → Prop} {σ : Env} {w : World} {ty : TypeId} {pos : String} {aft : Array Edge} {d : Nat}
theorem M {dst : Option Tmp} {op : Op} {g : Nat} {b c : Bool} (hg : (ops[g]?).bind (·.dst) = some d) (hd : Nat.blt d n = true) (hv : σ d = .bool c) (hc : (c == b) = false) (hdst : dstOk n dst = true) (h : OpsL P n ops rest K (updO σ dst undef) w) : OpsL P n ops (⟨dst, op, ty, pos, aft, some (g, b)⟩ :: rest) K σ w := OpsL.skipped hg hd hv hc hdst h
theorem W.sr {Q : Exit → Env → World → Prop} {id : Nat} {l : List Oper} {y : Code} (h : OpsL P n l.toArray l (fun σ w => Then (W P n y Q) Q .normal σ w) σ w) : W P n (.seq (.region id l.toArray false) y) Q σ w := zg (zm h)
theorem Y {Q : Exit → Env → World → Prop} {K' : Env → World → Prop} (h : K' σ w) : OpsL P n ops [] (fun σ w => Then K' Q .normal σ w) σ w := zj (U h)
end
section
variable {P : Program} {nT : Nat} {opT : Array Oper} {rsT : List Oper} {KT : Env → World → Prop} {CT : World → Prop} {σ : Env} {w : World} {ty : TypeId} {pos : String} {aft : Array Edge} {dT : Nat}

theorem v_add {t t' : TypeId} {x y : Operand} {a b : Int} (hx : ev σ x = .int .i64 a) (hy : ev σ y = .int .i64 b) (hb : -9223372036854775808 ≤ a + b ∧ a + b ≤ 9223372036854775807) (hdT : Nat.blt dT nT = true) (hKT : OpsL P nT opT rsT KT (upd σ dT (.int .i64 (a + b))) w) : OpsL P nT opT (⟨some dT, .binOp .add t x y t', ty, pos, aft, none⟩ :: rsT) KT σ w := ze rfl hdT (r_add hx hy hb) hKT
theorem v_asB {x : Operand} {a : Bool} (hv : ev σ x = .bool a) (hdT : Nat.blt dT nT = true) (hKT : OpsL P nT opT rsT KT (upd σ dT (.bool a)) w) : OpsL P nT opT (⟨some dT, .assign x, ty, pos, aft, none⟩ :: rsT) KT σ w := ze rfl hdT (r_asB hv) hKT
theorem u_asB {KT : Env → Prop} {x : Operand} {a : Bool} (hv : ev σ x = .bool a) (hdT : Nat.blt dT nT = true) (hKT : OpsQ P nT opT CT rsT KT (upd σ dT (.bool a))) : OpsQ P nT opT CT (⟨some dT, .assign x, ty, pos, aft, none⟩ :: rsT) KT σ := zt rfl hdT (fun _ _ => r_asB hv) hKT
theorem v_asI {x : Operand} {k : IntKind} {a : Int} (hv : ev σ x = .int k a) (hdT : Nat.blt dT nT = true) (hKT : OpsL P nT opT rsT KT (upd σ dT (.int k a)) w) : OpsL P nT opT (⟨some dT, .assign x, ty, pos, aft, none⟩ :: rsT) KT σ w := ze rfl hdT (r_asI hv) hKT
theorem u_asI {KT : Env → Prop} {x : Operand} {k : IntKind} {a : Int} (hv : ev σ x = .int k a) (hdT : Nat.blt dT nT = true) (hKT : OpsQ P nT opT CT rsT KT (upd σ dT (.int k a))) : OpsQ P nT opT CT (⟨some dT, .assign x, ty, pos, aft, none⟩ :: rsT) KT σ := zt rfl hdT (fun _ _ => r_asI hv) hKT
theorem v_asL {x : Operand} {a : Option Addr} {m c : Nat} (hv : ev σ x = .slice a m c) (hdT : Nat.blt dT nT = true) (hKT : OpsL P nT opT rsT KT (upd σ dT (.slice a m c)) w) : OpsL P nT opT (⟨some dT, .assign x, ty, pos, aft, none⟩ :: rsT) KT σ w := ze rfl hdT (r_asL hv) hKT
theorem v_asP {x : Operand} {a : Option Addr} (hv : ev σ x = .pointer a) (hdT : Nat.blt dT nT = true) (hKT : OpsL P nT opT rsT KT (upd σ dT (.pointer a)) w) : OpsL P nT opT (⟨some dT, .assign x, ty, pos, aft, none⟩ :: rsT) KT σ w := ze rfl hdT (r_asP hv) hKT
theorem v_asS {x : Operand} {a : Str} (hv : ev σ x = strV a) (hdT : Nat.blt dT nT = true) (hKT : OpsL P nT opT rsT KT (upd σ dT (strV a)) w) : OpsL P nT opT (⟨some dT, .assign x, ty, pos, aft, none⟩ :: rsT) KT σ w := ze rfl hdT (r_asS hv) hKT
theorem u_asS {KT : Env → Prop} {x : Operand} {a : Str} (hv : ev σ x = strV a) (hdT : Nat.blt dT nT = true) (hKT : OpsQ P nT opT CT rsT KT (upd σ dT (strV a))) : OpsQ P nT opT CT (⟨some dT, .assign x, ty, pos, aft, none⟩ :: rsT) KT σ := zt rfl hdT (fun _ _ => r_asS hv) hKT
theorem v_assign {x : Operand} {v : Value} (hv : ev σ x = v) (hdT : Nat.blt dT nT = true) (hKT : OpsL P nT opT rsT KT (upd σ dT v) w) : OpsL P nT opT (⟨some dT, .assign x, ty, pos, aft, none⟩ :: rsT) KT σ w := ze rfl hdT (r_assign hv) hKT
theorem u_assign {KT : Env → Prop} {x : Operand} {v : Value} (hv : ev σ x = v) (hdT : Nat.blt dT nT = true) (hKT : OpsQ P nT opT CT rsT KT (upd σ dT v)) : OpsQ P nT opT CT (⟨some dT, .assign x, ty, pos, aft, none⟩ :: rsT) KT σ := zt rfl hdT (fun _ _ => r_assign hv) hKT
theorem v_eql {t t' : TypeId} {x y : Operand} {k : IntKind} {a b : Int} (hx : ev σ x = .int k a) (hy : ev σ y = .int k b) (hdT : Nat.blt dT nT = true) (hKT : OpsL P nT opT rsT KT (upd σ dT (.bool (decide (a = b)))) w) : OpsL P nT opT (⟨some dT, .binOp .eql t x y t', ty, pos, aft, none⟩ :: rsT) KT σ w := ze rfl hdT (r_eql hx hy) hKT
theorem u_eql {KT : Env → Prop} {t t' : TypeId} {x y : Operand} {k : IntKind} {a b : Int} (hx : ev σ x = .int k a) (hy : ev σ y = .int k b) (hdT : Nat.blt dT nT = true) (hKT : OpsQ P nT opT CT rsT KT (upd σ dT (.bool (decide (a = b))))) : OpsQ P nT opT CT (⟨some dT, .binOp .eql t x y t', ty, pos, aft, none⟩ :: rsT) KT σ := zt rfl hdT (fun _ _ => r_eql hx hy) hKT
theorem v_extract {x : Operand} {k : Nat} {vs : List Value} {v : Value} (hx : ev σ x = .tuple vs.toArray) (hv : vs[k]? = some v) (hdT : Nat.blt dT nT = true) (hKT : OpsL P nT opT rsT KT (upd σ dT v) w) : OpsL P nT opT (⟨some dT, .extract x k, ty, pos, aft, none⟩ :: rsT) KT σ w := ze rfl hdT (r_extract hx hv) hKT
theorem v_field_addr {s : TypeId} {x : Operand} {k b off m : Nat} {fs : Array Field} {f : Field} (hx : ev σ x = .pointer (some ⟨b, off, none⟩)) (hu : P.underlying s = some (.struct fs)) (hf : fs[k]? = some f) (hz : ∀ w, (sizeOf f.type).run P w = .ok (m + 1) w) {off' : Nat} (ho : off + f.offset = off') (hdT : Nat.blt dT nT = true) (hKT : OpsL P nT opT rsT KT (upd σ dT (.pointer (some ⟨b, off', none⟩))) w) : OpsL P nT opT (⟨some dT, .fieldAddr s x k, ty, pos, aft, none⟩ :: rsT) KT σ w := ze rfl hdT (zA hx hu hf hz ho) hKT
theorem u_field_addr {KT : Env → Prop} {s : TypeId} {x : Operand} {k b off m : Nat} {fs : Array Field} {f : Field} (hx : ev σ x = .pointer (some ⟨b, off, none⟩)) (hu : P.underlying s = some (.struct fs)) (hf : fs[k]? = some f) (hz : ∀ w, (sizeOf f.type).run P w = .ok (m + 1) w) {off' : Nat} (ho : off + f.offset = off') (hdT : Nat.blt dT nT = true) (hKT : OpsQ P nT opT CT rsT KT (upd σ dT (.pointer (some ⟨b, off', none⟩)))) : OpsQ P nT opT CT (⟨some dT, .fieldAddr s x k, ty, pos, aft, none⟩ :: rsT) KT σ := zt rfl hdT (fun _ _ => zA hx hu hf hz ho) hKT
theorem v_geq {t t' : TypeId} {x y : Operand} {k : IntKind} {a b : Int} (hx : ev σ x = .int k a) (hy : ev σ y = .int k b) (hdT : Nat.blt dT nT = true) (hKT : OpsL P nT opT rsT KT (upd σ dT (.bool (decide (b ≤ a)))) w) : OpsL P nT opT (⟨some dT, .binOp .geq t x y t', ty, pos, aft, none⟩ :: rsT) KT σ w := ze rfl hdT (r_geq hx hy) hKT
theorem v_gtr {t t' : TypeId} {x y : Operand} {k : IntKind} {a b : Int} (hx : ev σ x = .int k a) (hy : ev σ y = .int k b) (hdT : Nat.blt dT nT = true) (hKT : OpsL P nT opT rsT KT (upd σ dT (.bool (decide (b < a)))) w) : OpsL P nT opT (⟨some dT, .binOp .gtr t x y t', ty, pos, aft, none⟩ :: rsT) KT σ w := ze rfl hdT (r_gtr hx hy) hKT
theorem u_gtr {KT : Env → Prop} {t t' : TypeId} {x y : Operand} {k : IntKind} {a b : Int} (hx : ev σ x = .int k a) (hy : ev σ y = .int k b) (hdT : Nat.blt dT nT = true) (hKT : OpsQ P nT opT CT rsT KT (upd σ dT (.bool (decide (b < a))))) : OpsQ P nT opT CT (⟨some dT, .binOp .gtr t x y t', ty, pos, aft, none⟩ :: rsT) KT σ := zt rfl hdT (fun _ _ => r_gtr hx hy) hKT
theorem v_index_el {v : Value} {t e : TypeId} {x ix : Operand} {i : Int} {k s b o : Nat} (he : Elem v k s b o) (hx : ev σ x = v) (hi : ev σ ix = .int .i64 i) (hk : i = (k : Int)) (hu : P.underlying t = some (.slice e)) (hz : ∀ w, (sizeOf e).run P w = .ok s w) (hdT : Nat.blt dT nT = true) (hKT : OpsL P nT opT rsT KT (upd σ dT (.pointer (some ⟨b, o, none⟩))) w) : OpsL P nT opT (⟨some dT, .indexAddr t x ix, ty, pos, aft, none⟩ :: rsT) KT σ w := ze rfl hdT (zQ he hx hi hk hu hz) hKT
theorem u_index_el {KT : Env → Prop} {v : Value} {t e : TypeId} {x ix : Operand} {i : Int} {k s b o : Nat} (he : Elem v k s b o) (hx : ev σ x = v) (hi : ev σ ix = .int .i64 i) (hk : i = (k : Int)) (hu : P.underlying t = some (.slice e)) (hz : ∀ w, (sizeOf e).run P w = .ok s w) (hdT : Nat.blt dT nT = true) (hKT : OpsQ P nT opT CT rsT KT (upd σ dT (.pointer (some ⟨b, o, none⟩)))) : OpsQ P nT opT CT (⟨some dT, .indexAddr t x ix, ty, pos, aft, none⟩ :: rsT) KT σ := zt rfl hdT (fun _ _ => zQ he hx hi hk hu hz) hKT
theorem v_len {α : Type} {L : Lay α} {h : Heap} {xs : List α} {v : Value} {t e : TypeId} {x : Operand} (hs : Sl L h v xs) (hx : ev σ x = v) (hu : P.underlying t = some (.slice e)) (hdT : Nat.blt dT nT = true) (hKT : OpsL P nT opT rsT KT (upd σ dT (.int .i64 xs.length)) w) : OpsL P nT opT (⟨some dT, .call ⟨.builtin .len, #[x], #[t]⟩, ty, pos, aft, none⟩ :: rsT) KT σ w := ze rfl hdT (r_len hs hx hu) hKT
theorem u_len {KT : Env → Prop} {α : Type} {L : Lay α} {h : Heap} {xs : List α} {v : Value} {t e : TypeId} {x : Operand} (hs : Sl L h v xs) (hx : ev σ x = v) (hu : P.underlying t = some (.slice e)) (hdT : Nat.blt dT nT = true) (hKT : OpsQ P nT opT CT rsT KT (upd σ dT (.int .i64 xs.length))) : OpsQ P nT opT CT (⟨some dT, .call ⟨.builtin .len, #[x], #[t]⟩, ty, pos, aft, none⟩ :: rsT) KT σ := zt rfl hdT (fun _ _ => r_len hs hx hu) hKT
theorem v_len_own {h : Heap} {α : Type} {L : Lay α} {T : TypeId} {xs : List α} {v : Value} {o : List (Nat × Obj)} {t e : TypeId} {x : Operand} (hs : OSl L T h v xs o) (hx : ev σ x = v) (hu : P.underlying t = some (.slice e)) (hdT : Nat.blt dT nT = true) (hKT : OpsL P nT opT rsT KT (upd σ dT (.int .i64 xs.length)) w) : OpsL P nT opT (⟨some dT, .call ⟨.builtin .len, #[x], #[t]⟩, ty, pos, aft, none⟩ :: rsT) KT σ w := ze rfl hdT (r_len_own hs hx hu) hKT
theorem v_len_str {t : TypeId} {x : Operand} {s : Str} (hx : ev σ x = strV s) (hu : P.underlying t = some .string) (hdT : Nat.blt dT nT = true) (hKT : OpsL P nT opT rsT KT (upd σ dT (.int .i64 s.length)) w) : OpsL P nT opT (⟨some dT, .call ⟨.builtin .len, #[x], #[t]⟩, ty, pos, aft, none⟩ :: rsT) KT σ w := ze rfl hdT (r_len_str hx hu) hKT
theorem v_load_b1 {b off : Nat} {cs : List Value} {T : TypeId} {fr : Nat × Nat} {v : Value} {t : TypeId} {x : Operand} (hb : w.heap[b]? = some (.cells cs.toArray T fr)) (hx : ev σ x = .pointer (some ⟨b, off, none⟩)) (hv : cs[off]? = some v) (ha : ∀ w, (isAgg t).run P w = .ok false w) (hdT : Nat.blt dT nT = true) (hKT : OpsL P nT opT rsT KT (upd σ dT v) w) : OpsL P nT opT (⟨some dT, .load t x, ty, pos, aft, none⟩ :: rsT) KT σ w := ze rfl hdT (r_load_b1 hb hx hv ha) hKT
theorem v_load_ball {b m : Nat} {cs : List Value} {T : TypeId} {fr : Nat × Nat} {t : TypeId} {x : Operand} (hb : w.heap[b]? = some (.cells cs.toArray T fr)) (hx : ev σ x = .pointer (some ⟨b, 0, none⟩)) (ha : ∀ w, (isAgg t).run P w = .ok true w) (hz : ∀ w, (sizeOf t).run P w = .ok m w) (hn : cs.length = m) (hdT : Nat.blt dT nT = true) (hKT : OpsL P nT opT rsT KT (upd σ dT (.agg cs.toArray)) w) : OpsL P nT opT (⟨some dT, .load t x, ty, pos, aft, none⟩ :: rsT) KT σ w := ze rfl hdT (r_load_ball hb hx ha hz hn) hKT
theorem v_load_call {h : Heap} (hs : Sub h w) {t : TypeId} {x : Operand} {b o m : Nat} {vs : List Value} (hc : Cells h b o vs) (hx : ev σ x = .pointer (some ⟨b, o, none⟩)) (ha : ∀ w, (isAgg t).run P w = .ok true w) (hz : ∀ w, (sizeOf t).run P w = .ok m w) (hn : vs.length = m) (hdT : Nat.blt dT nT = true) (hKT : OpsL P nT opT rsT KT (upd σ dT (.agg vs.toArray)) w) : OpsL P nT opT (⟨some dT, .load t x, ty, pos, aft, none⟩ :: rsT) KT σ w := ze rfl hdT (zB hs hc hx ha hz hn) hKT
theorem v_load_cells1 {h : Heap} (hs : Sub h w) {t : TypeId} {x : Operand} {b off j : Nat} {vs : List Value} {v : Value} (hc : Cells h b off vs) {off' : Nat} (hx : ev σ x = .pointer (some ⟨b, off', none⟩)) (ho : off' = off + j) (hv : vs[j]? = some v) (ha : ∀ w, (isAgg t).run P w = .ok false w) (hdT : Nat.blt dT nT = true) (hKT : OpsL P nT opT rsT KT (upd σ dT v) w) : OpsL P nT opT (⟨some dT, .load t x, ty, pos, aft, none⟩ :: rsT) KT σ w := ze rfl hdT (zf hs hc hx ho hv ha) hKT
theorem v_load_cellsN {h : Heap} (hs : Sub h w) {t : TypeId} {x : Operand} {b off j n : Nat} {vs us : List Value} (hc : Cells h b off vs) {off' : Nat} (hx : ev σ x = .pointer (some ⟨b, off', none⟩)) (ho : off' = off + j) (ha : ∀ w, (isAgg t).run P w = .ok true w) (hz : ∀ w, (sizeOf t).run P w = .ok n w) (hu : (vs.drop j).take n = us) (hn : us.length = n) (hdT : Nat.blt dT nT = true) (hKT : OpsL P nT opT rsT KT (upd σ dT (.agg us.toArray)) w) : OpsL P nT opT (⟨some dT, .load t x, ty, pos, aft, none⟩ :: rsT) KT σ w := ze rfl hdT (r_load_cellsN hs hc hx ho ha hz hu hn) hKT
theorem v_lss {t t' : TypeId} {x y : Operand} {k : IntKind} {a b : Int} (hx : ev σ x = .int k a) (hy : ev σ y = .int k b) (hdT : Nat.blt dT nT = true) (hKT : OpsL P nT opT rsT KT (upd σ dT (.bool (decide (a < b)))) w) : OpsL P nT opT (⟨some dT, .binOp .lss t x y t', ty, pos, aft, none⟩ :: rsT) KT σ w := ze rfl hdT (r_lss hx hy) hKT
theorem v_make_func {fn : Fn} {first captured : Array Operand} {fs cs : List Value} (hf : first.toList.map (ev σ) = fs) (hc : captured.toList.map (ev σ) = cs) (hdT : Nat.blt dT nT = true) (hKT : OpsL P nT opT rsT KT (upd σ dT (.func fn fs.toArray cs.toArray)) w) : OpsL P nT opT (⟨some dT, .makeFunc fn first captured, ty, pos, aft, none⟩ :: rsT) KT σ w := ze rfl hdT (r_make_func hf hc) hKT
theorem v_move {x : Operand} {v : Value} (hv : ev σ x = v) (hdT : Nat.blt dT nT = true) (hKT : OpsL P nT opT rsT KT (upd σ dT v) w) : OpsL P nT opT (⟨some dT, .move x, ty, pos, aft, none⟩ :: rsT) KT σ w := ze rfl hdT (r_move hv) hKT
theorem u_move {KT : Env → Prop} {x : Operand} {v : Value} (hv : ev σ x = v) (hdT : Nat.blt dT nT = true) (hKT : OpsQ P nT opT CT rsT KT (upd σ dT v)) : OpsQ P nT opT CT (⟨some dT, .move x, ty, pos, aft, none⟩ :: rsT) KT σ := zt rfl hdT (fun _ _ => r_move hv) hKT
theorem v_mvB {x : Operand} {a : Bool} (hv : ev σ x = .bool a) (hdT : Nat.blt dT nT = true) (hKT : OpsL P nT opT rsT KT (upd σ dT (.bool a)) w) : OpsL P nT opT (⟨some dT, .move x, ty, pos, aft, none⟩ :: rsT) KT σ w := ze rfl hdT (r_mvB hv) hKT
theorem u_mvB {KT : Env → Prop} {x : Operand} {a : Bool} (hv : ev σ x = .bool a) (hdT : Nat.blt dT nT = true) (hKT : OpsQ P nT opT CT rsT KT (upd σ dT (.bool a))) : OpsQ P nT opT CT (⟨some dT, .move x, ty, pos, aft, none⟩ :: rsT) KT σ := zt rfl hdT (fun _ _ => r_mvB hv) hKT
theorem v_mvF {x : Operand} {f : Fn} {a c : Array Value} (hv : ev σ x = .func f a c) (hdT : Nat.blt dT nT = true) (hKT : OpsL P nT opT rsT KT (upd σ dT (.func f a c)) w) : OpsL P nT opT (⟨some dT, .move x, ty, pos, aft, none⟩ :: rsT) KT σ w := ze rfl hdT (r_mvF hv) hKT
theorem v_mvI {x : Operand} {k : IntKind} {a : Int} (hv : ev σ x = .int k a) (hdT : Nat.blt dT nT = true) (hKT : OpsL P nT opT rsT KT (upd σ dT (.int k a)) w) : OpsL P nT opT (⟨some dT, .move x, ty, pos, aft, none⟩ :: rsT) KT σ w := ze rfl hdT (r_mvI hv) hKT
theorem u_mvI {KT : Env → Prop} {x : Operand} {k : IntKind} {a : Int} (hv : ev σ x = .int k a) (hdT : Nat.blt dT nT = true) (hKT : OpsQ P nT opT CT rsT KT (upd σ dT (.int k a))) : OpsQ P nT opT CT (⟨some dT, .move x, ty, pos, aft, none⟩ :: rsT) KT σ := zt rfl hdT (fun _ _ => r_mvI hv) hKT
theorem v_mvP {x : Operand} {a : Option Addr} (hv : ev σ x = .pointer a) (hdT : Nat.blt dT nT = true) (hKT : OpsL P nT opT rsT KT (upd σ dT (.pointer a)) w) : OpsL P nT opT (⟨some dT, .move x, ty, pos, aft, none⟩ :: rsT) KT σ w := ze rfl hdT (r_mvP hv) hKT
theorem u_mvP {KT : Env → Prop} {x : Operand} {a : Option Addr} (hv : ev σ x = .pointer a) (hdT : Nat.blt dT nT = true) (hKT : OpsQ P nT opT CT rsT KT (upd σ dT (.pointer a))) : OpsQ P nT opT CT (⟨some dT, .move x, ty, pos, aft, none⟩ :: rsT) KT σ := zt rfl hdT (fun _ _ => r_mvP hv) hKT
theorem v_mvS {x : Operand} {a : Str} (hv : ev σ x = strV a) (hdT : Nat.blt dT nT = true) (hKT : OpsL P nT opT rsT KT (upd σ dT (strV a)) w) : OpsL P nT opT (⟨some dT, .move x, ty, pos, aft, none⟩ :: rsT) KT σ w := ze rfl hdT (r_mvS hv) hKT
theorem v_mvT {x : Operand} {a : List Value} (hv : ev σ x = .tuple a.toArray) (hdT : Nat.blt dT nT = true) (hKT : OpsL P nT opT rsT KT (upd σ dT (.tuple a.toArray)) w) : OpsL P nT opT (⟨some dT, .move x, ty, pos, aft, none⟩ :: rsT) KT σ w := ze rfl hdT (r_mvT hv) hKT
theorem v_neq {t t' : TypeId} {x y : Operand} {k : IntKind} {a b : Int} (hx : ev σ x = .int k a) (hy : ev σ y = .int k b) (hdT : Nat.blt dT nT = true) (hKT : OpsL P nT opT rsT KT (upd σ dT (.bool (decide (a ≠ b)))) w) : OpsL P nT opT (⟨some dT, .binOp .neq t x y t', ty, pos, aft, none⟩ :: rsT) KT σ w := ze rfl hdT (r_neq hx hy) hKT
theorem u_neq {KT : Env → Prop} {t t' : TypeId} {x y : Operand} {k : IntKind} {a b : Int} (hx : ev σ x = .int k a) (hy : ev σ y = .int k b) (hdT : Nat.blt dT nT = true) (hKT : OpsQ P nT opT CT rsT KT (upd σ dT (.bool (decide (a ≠ b))))) : OpsQ P nT opT CT (⟨some dT, .binOp .neq t x y t', ty, pos, aft, none⟩ :: rsT) KT σ := zt rfl hdT (fun _ _ => r_neq hx hy) hKT
theorem v_not {t : TypeId} {x : Operand} {b : Bool} (hx : ev σ x = .bool b) (hdT : Nat.blt dT nT = true) (hKT : OpsL P nT opT rsT KT (upd σ dT (.bool (!b))) w) : OpsL P nT opT (⟨some dT, .unOp .not t x, ty, pos, aft, none⟩ :: rsT) KT σ w := ze rfl hdT (r_not hx) hKT
theorem u_not {KT : Env → Prop} {t : TypeId} {x : Operand} {b : Bool} (hx : ev σ x = .bool b) (hdT : Nat.blt dT nT = true) (hKT : OpsQ P nT opT CT rsT KT (upd σ dT (.bool (!b)))) : OpsQ P nT opT CT (⟨some dT, .unOp .not t x, ty, pos, aft, none⟩ :: rsT) KT σ := zt rfl hdT (fun _ _ => r_not hx) hKT
theorem v_pickF {c a b : Operand} {v : Value} (hc : ev σ c = .bool false) (hv : ev σ b = v) (hdT : Nat.blt dT nT = true) (hKT : OpsL P nT opT rsT KT (upd σ dT v) w) : OpsL P nT opT (⟨some dT, .pick c a b, ty, pos, aft, none⟩ :: rsT) KT σ w := ze rfl hdT (r_pickF hc hv) hKT
theorem u_pickF {KT : Env → Prop} {c a b : Operand} {v : Value} (hc : ev σ c = .bool false) (hv : ev σ b = v) (hdT : Nat.blt dT nT = true) (hKT : OpsQ P nT opT CT rsT KT (upd σ dT v)) : OpsQ P nT opT CT (⟨some dT, .pick c a b, ty, pos, aft, none⟩ :: rsT) KT σ := zt rfl hdT (fun _ _ => r_pickF hc hv) hKT
theorem v_pickT {c a b : Operand} {v : Value} (hc : ev σ c = .bool true) (hv : ev σ a = v) (hdT : Nat.blt dT nT = true) (hKT : OpsL P nT opT rsT KT (upd σ dT v) w) : OpsL P nT opT (⟨some dT, .pick c a b, ty, pos, aft, none⟩ :: rsT) KT σ w := ze rfl hdT (r_pickT hc hv) hKT
theorem u_pickT {KT : Env → Prop} {c a b : Operand} {v : Value} (hc : ev σ c = .bool true) (hv : ev σ a = v) (hdT : Nat.blt dT nT = true) (hKT : OpsQ P nT opT CT rsT KT (upd σ dT v)) : OpsQ P nT opT CT (⟨some dT, .pick c a b, ty, pos, aft, none⟩ :: rsT) KT σ := zt rfl hdT (fun _ _ => r_pickT hc hv) hKT
theorem v_seql {t t' : TypeId} {x y : Operand} {a b : Str} (hx : ev σ x = strV a) (hy : ev σ y = strV b) (hdT : Nat.blt dT nT = true) (hKT : OpsL P nT opT rsT KT (upd σ dT (.bool (decide (a = b)))) w) : OpsL P nT opT (⟨some dT, .binOp .eql t x y t', ty, pos, aft, none⟩ :: rsT) KT σ w := ze rfl hdT (r_seql hx hy) hKT
theorem u_seql {KT : Env → Prop} {t t' : TypeId} {x y : Operand} {a b : Str} (hx : ev σ x = strV a) (hy : ev σ y = strV b) (hdT : Nat.blt dT nT = true) (hKT : OpsQ P nT opT CT rsT KT (upd σ dT (.bool (decide (a = b))))) : OpsQ P nT opT CT (⟨some dT, .binOp .eql t x y t', ty, pos, aft, none⟩ :: rsT) KT σ := zt rfl hdT (fun _ _ => r_seql hx hy) hKT
theorem v_sub {t t' : TypeId} {x y : Operand} {a b : Int} (hx : ev σ x = .int .i64 a) (hy : ev σ y = .int .i64 b) (hb : -9223372036854775808 ≤ a - b ∧ a - b ≤ 9223372036854775807) (hdT : Nat.blt dT nT = true) (hKT : OpsL P nT opT rsT KT (upd σ dT (.int .i64 (a - b))) w) : OpsL P nT opT (⟨some dT, .binOp .sub t x y t', ty, pos, aft, none⟩ :: rsT) KT σ w := ze rfl hdT (r_sub hx hy hb) hKT
theorem u_sub {KT : Env → Prop} {t t' : TypeId} {x y : Operand} {a b : Int} (hx : ev σ x = .int .i64 a) (hy : ev σ y = .int .i64 b) (hb : -9223372036854775808 ≤ a - b ∧ a - b ≤ 9223372036854775807) (hdT : Nat.blt dT nT = true) (hKT : OpsQ P nT opT CT rsT KT (upd σ dT (.int .i64 (a - b)))) : OpsQ P nT opT CT (⟨some dT, .binOp .sub t x y t', ty, pos, aft, none⟩ :: rsT) KT σ := zt rfl hdT (fun _ _ => r_sub hx hy hb) hKT
end
end Go.Pk
