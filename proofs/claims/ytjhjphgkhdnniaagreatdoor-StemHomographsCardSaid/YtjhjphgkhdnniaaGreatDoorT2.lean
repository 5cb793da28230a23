/- A PART OF THE PROOF: contracts of functions, each walked once (much of it printed by a program of the author's own). -/
import Derived.Test.YtjhjphgkhdnniaaGreatDoorT1
import Derived.Laws.CopyRow
import Derived.WideKeyEntry
import Derived.Lib.Bytealg
set_option linter.unusedSimpArgs false
set_option linter.unusedVariables false
set_option maxRecDepth 4000
namespace Go.Pk
open Go Go.RowKit
section
variable {α : Type} {L : Lay α} {T : TypeId} {h : Heap}
def zfs : Value → Nat → Value
 | .slice p _ c, k => .slice p k c
 | v, _ => v
def zgN (s : Nat) : Value → Nat → Value
 | .slice p n c, k => .slice (if c = k then p else p.map (·.add (k * s))) (n - k) (c - k)
 | v, _ => v
theorem Enc.take {cs : List Value} {xs : List α} (e : Enc L h cs xs) {k : Nat} (hk : k ≤ xs.length) : Enc L h (cs.take (k * L.size)) (xs.take k) := by
 have hle : k * L.size ≤ cs.length := by rw [e.1]; exact Nat.mul_le_mul_right _ hk
 refine ⟨by rw [List.length_take, List.length_take, Nat.min_eq_left hle, Nat.min_eq_left hk], fun i x hi => ?_⟩;have hik : i < k := by
  rw [List.getElem?_take] at hi;split at hi
  ·assumption
  ·cases hi
 rw [List.getElem?_take, if_pos hik] at hi;have hr := e.2 i x hi;have h1 : i * L.size + L.size ≤ k * L.size := by rw [← Nat.succ_mul]; exact Nat.mul_le_mul_right _ hik
 rw [List.drop_take, List.take_take, Nat.min_eq_left zD];exact hr
theorem Enc.drop {cs : List Value} {xs : List α} (e : Enc L h cs xs) (k : Nat) : Enc L h (cs.drop (k * L.size)) (xs.drop k) := by
 refine ⟨by rw [List.length_drop, List.length_drop, e.1, Nat.sub_mul], fun i x hi => ?_⟩;rw [List.getElem?_drop] at hi;have hr := e.2 _ x hi;rw [List.drop_drop, ← Nat.add_mul];exact hr
theorem Enc.set {cs vs : List Value} {xs : List α} {i : Nat} {y : α} (e : Enc L h cs xs) (hi : i < xs.length) (hr : L.R h vs y) : Enc L h (cs.take (i * L.size) ++ vs ++ cs.drop ((i + 1) * L.size)) (xs.set i y) := by
 rw [List.set_eq_take_append_cons_drop, if_pos hi];have h1 := ((e.take (Nat.le_of_lt hi)).append (Enc.one1 hr)).append (e.drop (i + 1));rw [List.append_assoc (xs.take i)] at h1;exact h1
theorem OSl.take {v : Value} {xs : List α} {o : List (Nat × Obj)} (e : OSl L T h v xs o) {k : Nat} (hk : k ≤ xs.length) : OSl L T h (zfs v k) (xs.take k) o := by
 obtain ⟨cs, e1, ⟨⟨p, rfl⟩, rfl, rfl⟩ | ⟨g, cap, cur, rfl, rfl, hnc, hcm, hsz, htk⟩⟩ := e
 ·have : k = 0 := by simpa using hk
  subst this;exact ⟨[], ⟨by simp, by simp⟩, .inl ⟨⟨p, rfl⟩, by simp, rfl⟩⟩
 have hl : (xs.take k).length = k := by rw [List.length_take, Nat.min_eq_left hk]
 refine ⟨_, e1.take hk, .inr ⟨g, cap, cur, by rw [hl]; rfl, rfl, by omega, hcm, hsz, ?_⟩⟩;rw [hl, ← htk, List.take_take, Nat.min_eq_left (Nat.mul_le_mul_right _ hk)]
theorem Elem.drop {v : Value} {k j s b o : Nat} (e : Elem v (k + j) s b o) (hc : ∀ p n c, v = .slice p n c → n ≤ c) : Elem (zgN s v k) j s b o := by
 obtain ⟨off, n, c, rfl, hlt, rfl⟩ := e;have := hc _ _ _ rfl;refine ⟨off + k * s, n - k, c - k, ?_, by omega, by rw [Nat.add_mul]; omega⟩;simp only [zgN];rw [if_neg zD];simp [zdu]
theorem Elem.drop' {v : Value} {k j m s b o : Nat} (e : Elem v m s b o) (hm : m = k + j) (hc : ∀ p n c, v = .slice p n c → n ≤ c) : Elem (zgN s v k) j s b o := by
 subst hm; exact e.drop hc
theorem OSl.caps {v : Value} {xs : List α} {o : List (Nat × Obj)} (e : OSl L T h v xs o) : ∀ p n c, v = .slice p n c → n ≤ c := by
 rintro p n c rfl;obtain ⟨cs, e1, ⟨⟨q, e2⟩, rfl, rfl⟩ | ⟨g, cap, cur, e2, rfl, hnc, hcm, hsz, htk⟩⟩ := e
 ·cases e2; exact Nat.le_refl _
 cases e2; exact hnc
theorem OSl.len {v : Value} {xs : List α} {o : List (Nat × Obj)} (e : OSl L T h v xs o) : ∀ p n c, v = .slice p n c → n = xs.length := by
 rintro p n c rfl;obtain ⟨q, c', e2⟩ := e.form;cases e2; rfl
end
section
variable {P : Program} {n : Nat} {ops : Array Oper} {rest : List Oper} {K : Env → World → Prop} {σ : Env} {w w0 : World} {h0 h : Heap} {own : Own} {ty : TypeId} {pos : String} {aft : Array Edge} {d : Nat} {dst : Option Tmp} {g : Option (Nat × Bool)}
theorem zeg {α : Type} {L : Lay α} {T : TypeId} {xs : List α} {v : Value} {o : List (Nat × Obj)} {t e : TypeId} {x hi_ : Operand} {i : Int} {k m : Nat} (hO : OSl L T h v xs o) (hx : ev σ x = v) (hi : ev σ hi_ = .int .i64 i) (hk : i = (k : Int)) (hle : k ≤ xs.length) (hu : P.underlying t = some (.slice e)) (hz : ∀ w, (sizeOf e).run P w = .ok m w) :
  Run P σ w ⟨dst, .slice t x none (some hi_) none, ty, pos, aft, g⟩ (zfs v k) w := by
 subst hk;obtain ⟨p, c, rfl⟩ := hO.form;have hc := hO.caps _ _ _ rfl;have h1 : k ≤ c := by omega
 cases p <;> simp [Run, execOp, hx, hi, Instr.sliceAt, Instr.slice, run_underlying hu, Instr.sliceBounds, Instr.sliceBound, asIntOf, hz, h1, zfs];rename_i a;intro _;cases a;rfl
theorem zeB {α : Type} {L : Lay α} {T : TypeId} {xs : List α} {v : Value} {o : List (Nat × Obj)} {t e : TypeId} {x lo : Operand} {i : Int} {k m : Nat} (hO : OSl L T h v xs o) (hx : ev σ x = v) (hi : ev σ lo = .int .i64 i) (hk : i = (k : Int)) (hle : k ≤ xs.length) (hu : P.underlying t = some (.slice e)) (hz : ∀ w, (sizeOf e).run P w = .ok m w) :
  Run P σ w ⟨dst, .slice t x (some lo) none none, ty, pos, aft, g⟩ (zgN m v k) w := by
 subst hk;obtain ⟨p, c, rfl⟩ := hO.form;have h1 : k ≤ xs.length := hle;simp [Run, execOp, hx, hi, Instr.sliceAt, Instr.slice, run_underlying hu, Instr.sliceBounds, Instr.sliceBound, asIntOf, hz, h1, zgN]
theorem r_len_vdrop {v : Value} {t e : TypeId} {x : Operand} {s k len : Nat} (hx : ev σ x = zgN s v k) (hl : ∃ p c, v = .slice p len c) (hu : P.underlying t = some (.slice e)) :
  Run P σ w ⟨dst, .call ⟨.builtin .len, #[x], #[t]⟩, ty, pos, aft, g⟩ (.int .i64 ((len - k : Nat) : Int)) w := by
 obtain ⟨p, c, rfl⟩ := hl;exact r_len_sl hx hu
theorem spliced_split : ∀ (us pre : List Value) (cs : List Value), us.length ≤ cs.length → zfY (pre ++ cs) pre.length us = pre ++ us ++ cs.drop us.length
 | [], pre, cs, _ => by simp [zfY]
 | u :: us, pre, [], h => by simp at h
 | u :: us, pre, c :: cs, h => by
  have ih := spliced_split us (pre ++ [u]) cs (by simpa using h);simp only [List.length_append, List.length_cons, List.length_nil, Nat.zero_add] at ih;rw [zfY, List.set_append_right _ _ (Nat.le_refl _), Nat.sub_self, List.set_cons_zero];rw [show pre ++ u :: cs = pre ++ [u] ++ cs by simp, ih];simp
theorem spliced_eq' {cs us : List Value} {off : Nat} (h : off + us.length ≤ cs.length) : zfY cs off us = cs.take off ++ us ++ cs.drop (off + us.length) := by
 have h1 := spliced_split us (cs.take off) (cs.drop off) (by rw [List.length_drop]; omega);rw [List.take_append_drop, List.length_take, Nat.min_eq_left zD, List.drop_drop] at h1;exact h1
theorem OpsL.storeEl {α : Type} {L : Lay α} {T : TypeId} {v : Value} {xs : List α} {o : List (Nat × Obj)} {k i b off : Nat} {y0 : α} {us : List Value} {t : TypeId} {x y : Operand} (st : St h0 w0 h w own) (hO : OSl L T h v xs o) (hk : own[k]? = some o) (hi : i < xs.length) (he : Elem v i L.size b off)
  (hx : ev σ x = .pointer (some ⟨b, off, none⟩)) (hy : ev σ y = .agg us.toArray) (hR : L.R h us y0) (hz : ∀ w, (sizeOf t).run P w = .ok us.length w)
  (hK : ∀ o' w' own', own' = own.set k o' → OSl L T h v (xs.set i y0) o' → St h0 w0 h w' own' → OpsL P n ops rest K σ w') : OpsL P n ops (⟨none, .store t x y, ty, pos, aft, none⟩ :: rest) K σ w := by
 obtain ⟨cs, e1, ⟨⟨p, rfl⟩, rfl, rfl⟩ | ⟨gb, cap, cur, rfl, rfl, hnc, hcm, hsz, htk⟩⟩ := hO
 ·simp at hi
 ·obtain ⟨off0, n', c', e2, hlt, rfl⟩ := he;cases e2;have hul := L.len hR;have h1 : (i + 1) * L.size ≤ xs.length * L.size := Nat.mul_le_mul_right _ hi;have h2 : xs.length * L.size ≤ cap * L.size := Nat.mul_le_mul_right _ hnc;rw [Nat.succ_mul] at h1;have hcl : cur.toList.length = cap * L.size := by rw [Array.length_toList, hsz]
  have ho : (0 + i * L.size) + us.length ≤ cur.toList.length := by rw [hcl]; have hul' : us.length = L.size := hul; omega
  have hk' : own[k]? = some [(b, .cells cur.toList.toArray T)] := by simpa using hk
  have hsp := spliced_eq' ho;refine zF st hk' hx hy (by rw [List.all_eq_true]; exact fun u hu => L.one hR u hu) hz (by simpa using ho) hsp rfl fun w' st' => ?_;have hlen : (cur.toList.take (0 + i * L.size)).length = i * L.size := by rw [List.length_take, hcl]; omega
  refine hK _ _ _ rfl ⟨_, e1.set hi hR, .inr ⟨b, cap, _, by rw [List.length_set], rfl, by rw [List.length_set]; exact hnc, hcm, ?_, ?_⟩⟩ st'
  ·simp only [List.size_toArray, List.length_append, hlen, List.length_drop, hcl];omega
  ·rw [List.length_set, ← htk];have e3 : (i + 1) * L.size = i * L.size + L.size := Nat.succ_mul _ _;have hul' : us.length = L.size := hul;rw [List.take_take, Nat.min_eq_left zD, e3, List.drop_take];rw [List.take_append, List.take_of_length_le (l := cur.toList.take (0 + i * L.size) ++ us) (by rw [List.length_append, hlen]; omega), List.length_append, hlen, hul', Nat.zero_add]
theorem OpsL.storeEl1 {α : Type} {L : Lay α} {T : TypeId} {v : Value} {xs : List α} {o : List (Nat × Obj)} {k i b off : Nat} {y0 : α} {u : Value} {t : TypeId} {x y : Operand} (st : St h0 w0 h w own) (hO : OSl L T h v xs o) (hk : own[k]? = some o) (hi : i < xs.length) (he : Elem v i L.size b off)
  (hx : ev σ x = .pointer (some ⟨b, off, none⟩)) (hy : ev σ y = u) (hR : L.R h [u] y0) (hz : ∀ w, (sizeOf t).run P w = .ok 1 w)
  (hK : ∀ o' w' own', own' = own.set k o' → OSl L T h v (xs.set i y0) o' → St h0 w0 h w' own' → OpsL P n ops rest K σ w') : OpsL P n ops (⟨none, .store t x y, ty, pos, aft, none⟩ :: rest) K σ w := by
 obtain ⟨cs, e1, ⟨⟨p, rfl⟩, rfl, rfl⟩ | ⟨gb, cap, cur, rfl, rfl, hnc, hcm, hsz, htk⟩⟩ := hO
 ·simp at hi
 ·obtain ⟨off0, n', c', e2, hlt, rfl⟩ := he;cases e2;have hul := L.len hR;have h1 : (i + 1) * L.size ≤ xs.length * L.size := Nat.mul_le_mul_right _ hi;have h2 : xs.length * L.size ≤ cap * L.size := Nat.mul_le_mul_right _ hnc;rw [Nat.succ_mul] at h1;have hcl : cur.toList.length = cap * L.size := by rw [Array.length_toList, hsz]
  have hs1 : L.size = 1 := by rw [← hul]; rfl
  have ho : (0 + i * L.size) + [u].length ≤ cur.toList.length := by rw [hcl]; have hul' : [u].length = L.size := hul; omega
  have hk' : own[k]? = some [(b, .cells cur.toList.toArray T)] := by simpa using hk
  have hsp := spliced_eq' ho;have hlen : (cur.toList.take (0 + i * L.size)).length = i * L.size := by rw [List.length_take, hcl]; omega
  have hlt' : 0 + i * L.size < cur.toList.length := by have h9 : [u].length = 1 := rfl; omega
  refine zcb st hk' hx hy (L.one hR u (by simp)) hz (by simpa using hlt') rfl rfl fun w' st' => ?_;refine hK _ _ _ rfl ⟨_, e1.set hi hR, .inr ⟨b, cap, _, by rw [List.length_set], rfl, by rw [List.length_set]; exact hnc, hcm, ?_, ?_⟩⟩ st'
  ·simp [hsz]
  ·have hset : cur.toList.set (0 + i * L.size) u = cur.toList.take (0 + i * L.size) ++ [u] ++ cur.toList.drop (0 + i * L.size + [u].length) := by
    rw [← hsp]; rfl
   rw [List.length_set, ← htk];have e3 : (i + 1) * L.size = i * L.size + L.size := Nat.succ_mul _ _;rw [List.take_take, Nat.min_eq_left zD, e3, List.drop_take];have hul' : [u].length = L.size := hul;show (cur.toList.set (0 + i * L.size) u).take (xs.length * L.size) = _;rw [hset, List.take_append, List.take_of_length_le (l := cur.toList.take (0 + i * L.size) ++ [u]) (by rw [List.length_append, hlen]; omega), List.length_append, hlen, hul', Nat.zero_add]
def vsub (s : Nat) : Value → Nat → Nat → Value
 | .slice p _ c, l, m => .slice (if c = l then p else p.map (·.add (l * s))) (m - l) (c - l)
 | v, _, _ => v
theorem r_slice_lh_own {p : Option Addr} {len c : Nat} {v : Value} {t e : TypeId} {x lo hi_ : Operand} {i1 i2 : Int} {l m s : Nat} (hv : v = .slice p len c) (hx : ev σ x = v) (hi : ev σ lo = .int .i64 i1) (hj : ev σ hi_ = .int .i64 i2) (hl : i1 = (l : Int)) (hm : i2 = (m : Int)) (hlm : l ≤ m) (hmc : m ≤ c) (hu : P.underlying t = some (.slice e)) (hz : ∀ w, (sizeOf e).run P w = .ok s w) :
  Run P σ w ⟨dst, .slice t x (some lo) (some hi_) none, ty, pos, aft, g⟩ (vsub s v l m) w := by
 subst hl; subst hm; subst hv;simp [Run, execOp, hx, hi, hj, Instr.sliceAt, Instr.slice, run_underlying hu, Instr.sliceBounds, Instr.sliceBound, asIntOf, hz, hlm, hmc, vsub]
theorem r_slice_lhm_own {p : Option Addr} {len c : Nat} {v : Value} {t e : TypeId} {x lo hi_ mx : Operand} {i1 i2 i3 : Int} {l m q s : Nat} (hv : v = .slice p len c) (hx : ev σ x = v) (hi : ev σ lo = .int .i64 i1) (hj : ev σ hi_ = .int .i64 i2) (hq : ev σ mx = .int .i64 i3) (hl : i1 = (l : Int)) (hm : i2 = (m : Int)) (hq2 : i3 = (q : Int)) (hlm : l ≤ m) (hmq : m ≤ q) (hmc : q ≤ c) (hu : P.underlying t = some (.slice e)) (hz : ∀ w, (sizeOf e).run P w = .ok s w) :
  Run P σ w ⟨dst, .slice t x (some lo) (some hi_) (some mx), ty, pos, aft, g⟩ (.slice (if q = l then p else p.map (·.add (l * s))) (m - l) (q - l)) w := by
 subst hl; subst hm; subst hq2; subst hv;simp [Run, execOp, hx, hi, hj, hq, Instr.sliceAt, Instr.slice, run_underlying hu, Instr.sliceBounds, Instr.sliceBound, asIntOf, hz, hlm, hmc, hmq]
theorem set_same {own : Own} {k : Nat} {o : List (Nat × Obj)} (hk : own[k]? = some o) : own.set k o = own := by
 apply List.ext_getElem?;intro q;rw [List.getElem?_set];split
 ·rename_i e4; subst e4;split
  ·exact hk.symm
  ·rename_i h5; rw [List.getElem?_eq_none zD]
 rfl
theorem OpsL.clearSub {α : Type} {L : Lay α} {T : TypeId} {v : Value} {xs : List α} {o : List (Nat × Obj)} {k l m : Nat} {t e : TypeId} {z : Value} {x : Operand} (st : St h0 w0 h w own) (hO : OSl L T h v xs o) (hk : own[k]? = some o) (hlm : l ≤ m) (hmc : ∀ p n c, v = .slice p n c → m ≤ c)
  (hx : ev σ x = vsub L.size v l m) (ht : P.underlying t = some (.slice e)) (hz : ∀ w, (zeroValue e).run P w = .ok z w) (hzs : z.cells.size = L.size) (hz1 : ∀ u ∈ z.cells.toList, u.oneCell' = true)
  (hK : ∀ o' w' own', own' = own.set k o' → (∀ j, j ≤ l → j ≤ xs.length → OSl L T h (zfs v j) (xs.take j) o') → St h0 w0 h w' own' → OpsL P n ops rest K σ w') : OpsL P n ops (⟨none, .call ⟨.builtin .clear, #[x], #[t]⟩, ty, pos, aft, none⟩ :: rest) K σ w := by
 have hset := set_same hk;have run (v' : Value) (w' : World) (hv : vsub L.size v l m = v') (hr : (Builtin.clear_ #[t] ty #[v']).run P w = .ok (.tuple #[]) w') : Run P σ w ⟨none, .call ⟨.builtin .clear, #[x], #[t]⟩, ty, pos, aft, none⟩ (.tuple #[]) w' := by
  refine run_bi rfl (vs := [v']) (by simp [hx, hv]) fun cs => ?_;simp only [builtin, Sem.run_bind, hr, Result.andThen_ok, Sem.run_pure]
 obtain ⟨cs, e1, ⟨⟨p, rfl⟩, rfl, rfl⟩ | ⟨gb, cap, cur, rfl, rfl, hnc, hcm, hsz, htk⟩⟩ := hO
 ·have hm0 : m - l = 0 := by have := hmc _ _ _ rfl; omega
  refine Z rfl rfl (run _ w rfl ?_) (hK [] w _ rfl (fun j _ hj => ?_) (by rw [hset]; exact st))
  ·simp only [vsub, hm0];split <;> cases p <;> simp [Builtin.clear_, run_underlying ht]
  ·have : j = 0 := by simpa using hj
   subst this;exact ⟨[], ⟨by simp, by simp⟩, .inl ⟨⟨p, rfl⟩, by simp, rfl⟩⟩
 ·have hmc := hmc _ _ _ rfl;have hcl : cur.toList.length = cap * L.size := by rw [Array.length_toList, hsz]
  have fin : ∀ (cur' : Array Value) w', cur'.size = cap * L.size → cur'.toList.take (l * L.size) = cur.toList.take (l * L.size) → St h0 w0 h w' (own.set k [(gb, .cells cur' T)]) → OpsL P n ops rest K σ w' := by
   intro cur' w' h1 h2 s;refine hK _ w' _ rfl (fun j hjl hj => ⟨_, e1.take hj, .inr ⟨gb, cap, cur', ?_, rfl, ?_, hcm, h1, ?_⟩⟩) s
   ·rw [List.length_take, Nat.min_eq_left hj]; rfl
   ·rw [List.length_take, Nat.min_eq_left hj]; omega
   ·have h3 := congrArg (List.take (j * L.size)) h2;rw [List.take_take, List.take_take, Nat.min_eq_left (Nat.mul_le_mul_right _ hjl)] at h3;rw [List.length_take, Nat.min_eq_left hj, h3, ← htk, List.take_take, Nat.min_eq_left (Nat.mul_le_mul_right _ hj)]
  by_cases h0 : m - l = 0
  ·refine Z rfl rfl (run _ w rfl ?_) (fin cur w hsz rfl (by rw [hset]; exact st));simp only [vsub, h0];split <;> simp [Builtin.clear_, run_underlying ht]
  ·have hgw := st.get hk;have hfit : l * L.size + (List.length (Builtin.zeroCells z.cells (m - l)).toList) ≤ cur.size := by
    rw [Array.length_toList, size_zeroCells, hzs, hsz];have h2 : (l + (m - l)) * L.size ≤ cap * L.size := Nat.mul_le_mul_right _ zD;rw [Nat.add_mul] at h2;exact h2
   have hst := run_storeCells_at P gb (l * L.size) T (Builtin.zeroCells z.cells (m - l)).toList 0 cur w hgw (by simpa using hfit) ?_
   ·simp only [Nat.add_zero] at hst;refine Z rfl rfl (run (.slice ((some (⟨gb, 0, none⟩ : Addr)).map (·.add (l * L.size))) (m - l) (cap - l)) (w.setRow gb (cur.toList.take (l * L.size) ++ (Builtin.zeroCells z.cells (m - l)).toList ++ cur.toList.drop (l * L.size + (Builtin.zeroCells z.cells (m - l)).toList.length)).toArray) (by simp only [vsub]; rw [if_neg (by omega : ¬ cap = l)]) ?_) (fin (cur.toList.take (l * L.size) ++ (Builtin.zeroCells z.cells (m - l)).toList ++ cur.toList.drop (l * L.size + (Builtin.zeroCells z.cells (m - l)).toList.length)).toArray _ ?_ ?_ ?_)
    ·obtain ⟨q, hm⟩ : ∃ q, m - l = q + 1 := ⟨m - l - 1, by omega⟩;rw [hm] at hst;simp [Builtin.clear_, run_underlying ht, hm, hz, zdu, hst]
    ·rw [List.size_toArray, List.length_append, List.length_append, List.length_take, List.length_drop, hcl];omega
    ·rw [List.append_assoc, List.take_append, List.length_take, hcl];rw [List.take_take, Nat.min_self, show l * L.size - min (l * L.size) (cap * L.size) = 0 by have := Nat.mul_le_mul_right L.size (show l ≤ cap by omega); omega, List.take_zero, List.append_nil]
    ·have := st.set (.cells (cur.toList.take (l * L.size) ++ (Builtin.zeroCells z.cells (m - l)).toList ++ cur.toList.drop (l * L.size + (Builtin.zeroCells z.cells (m - l)).toList.length)).toArray T) hk;refine this.same ?_ rfl rfl rfl (Nat.le_refl _);apply Array.ext_getElem?;intro q;have hlt := zcn hgw
     by_cases ej : q = gb
     ·subst ej;rw [setRow_heap w _ cur _ T _ hgw]; simp [hlt]
     ·rw [setRow_other w gb q _ ej]; simp [Ne.symm ej]
   ·intro u hu;refine hz1 u ?_;simp only [Builtin.zeroCells, Array.toList_map, List.mem_map] at hu;obtain ⟨q, hq, rfl⟩ := hu;have hq2 : q < (m - l) * z.cells.size := by simpa using hq
    have hpos : 0 < z.cells.size := by
     rcases Nat.eq_zero_or_pos z.cells.size with e0 | e0
     ·rw [e0] at hq2; omega
     ·exact e0
    have hm := Nat.mod_lt q hpos;rw [getElem!_pos z.cells _ hm];exact Array.getElem_mem_toList hm
theorem zik {α : Type} {L : Lay α} {T : TypeId} {v : Value} {xs : List α} {o : List (Nat × Obj)} {k j : Nat} {t e : TypeId} {z : Value} {x : Operand} (st : St h0 w0 h w own) (hO : OSl L T h v xs o) (hk : own[k]? = some o) (hj : j ≤ xs.length)
  (hx : ev σ x = zgN L.size v j) (ht : P.underlying t = some (.slice e)) (hz : ∀ w, (zeroValue e).run P w = .ok z w) (hzs : z.cells.size = L.size) (hz1 : ∀ u ∈ z.cells.toList, u.oneCell' = true)
  (hK : ∀ o' w' own', own' = own.set k o' → OSl L T h (zfs v j) (xs.take j) o' → St h0 w0 h w' own' → OpsL P n ops rest K σ w') : OpsL P n ops (⟨none, .call ⟨.builtin .clear, #[x], #[t]⟩, ty, pos, aft, none⟩ :: rest) K σ w := by
 obtain ⟨p, c, rfl⟩ := hO.form;refine OpsL.clearSub (l := j) (m := xs.length) st hO hk hj (fun p n c e => ?_) hx ht hz hzs hz1 (fun o' w' own' e1 f s => hK o' w' own' e1 (f j (Nat.le_refl _) hj) s);have := hO.len _ _ _ e; have := hO.caps _ _ _ e; omega
theorem OpsL.appendSelf {α : Type} {L : Lay α} {k i j : Nat} {v : Value} {xs : List α} {o : List (Nat × Obj)} {t e : TypeId} {i0 : TypeInfo} {x y : Operand} (st : St h0 w0 h w own) (hO : OSl L e h v xs o) (hk : own[k]? = some o) (hij : i ≤ j) (hj : j ≤ xs.length)
  (hx : ev σ x = zfs v i) (hy : ev σ y = zgN L.size v j) (hd : Nat.blt d n = true) (ht : P.underlying t = some (.slice e)) (hi : P.info? e = some i0) (hsize : i0.size = L.size) (hpos : 0 < L.size)
  (hK : ∀ o' w' own', own' = own.set k o' → OSl L e h (zfs v (i + (xs.length - j))) (xs.take i ++ xs.drop j) o' → St h0 w0 h w' own' → OpsL P n ops rest K (upd σ d (zfs v (i + (xs.length - j)))) w') :
  OpsL P n ops (⟨some d, .call ⟨.builtin .append, #[x, y], #[t, t]⟩, ty, pos, aft, none⟩ :: rest) K σ w := by
 have hset := set_same hk;have run (v1 v2 v' : Value) (w' : World) (h1 : zfs v i = v1) (h2 : zgN L.size v j = v2) (hr : (Builtin.append_ #[t, t] ty #[v1, v2]).run P w = .ok v' w') : Run P σ w ⟨some d, .call ⟨.builtin .append, #[x, y], #[t, t]⟩, ty, pos, aft, none⟩ v' w' := by
  refine run_bi rfl (vs := [v1, v2]) (by simp [hx, hy, h1, h2]) fun cs => ?_;simp only [builtin, Sem.run_bind, hr, Result.andThen_ok, Sem.run_pure]
 obtain ⟨cs, e1, ⟨⟨p, rfl⟩, rfl, rfl⟩ | ⟨gb, cap, cur, rfl, rfl, hnc, hcm, hsz, htk⟩⟩ := hO
 ·have hj0 : j = 0 := by simpa using hj
  have hi0 : i = 0 := by omega
  subst hj0; subst hi0;refine Z rfl hd (run _ _ (.slice p 0 0) w rfl rfl ?_) (hK [] w _ rfl ⟨[], ⟨by simp, by simp⟩, .inl ⟨⟨p, rfl⟩, by simp, rfl⟩⟩ (by rw [hset]; exact st));cases p <;> simp [Builtin.append_, run_underlying ht, sizeOf, typeInfo, hi, Builtin.lenOf, Builtin.firstCells, loadCells, loadCellsFrom, storeCells, zfs, zgN]
 ·have hgw := st.get hk;have hcl : cur.toList.length = cap * L.size := by rw [Array.length_toList, hsz]
  have hdl : (cs.drop (j * L.size)).length = (xs.length - j) * L.size := by rw [List.length_drop, e1.1, Nat.sub_mul]
  have hnew : (xs.take i ++ xs.drop j).length = i + (xs.length - j) := by rw [List.length_append, List.length_take, List.length_drop, Nat.min_eq_left zD]
  have one := e1.one hpos;have hfit : i * L.size + (cs.drop (j * L.size)).length ≤ cur.size := by
   rw [hdl, hsz, ← Nat.add_mul]; exact Nat.mul_le_mul_right _ zD
  by_cases hc : cap = j
  ·have hn : xs.length - j = 0 := by omega
   have hds : cs.drop (j * L.size) = [] := List.eq_nil_of_length_eq_zero (by rw [hdl, hn, Nat.zero_mul]);refine Z rfl hd (run _ _ (.slice (some ⟨gb, 0, none⟩) i cap) w rfl (by simp only [zgN]; rw [if_pos hc, hn]) ?_) ?_
   ·have hic : i ≤ cap := by omega
    show (Builtin.append_ #[t, t] ty #[.slice (some ⟨gb, 0, none⟩) i cap, _]).run P w = _;simp [Builtin.append_, run_underlying ht, sizeOf, typeInfo, hi, Builtin.lenOf, Builtin.firstCells, loadCells, loadCellsFrom, storeCells, hic]
   ·have := hK [(gb, .cells cur e)] w _ rfl ⟨cs.take (i * L.size), ?_, .inr ⟨gb, cap, cur, by rw [hnew]; rfl, rfl, by rw [hnew]; omega, hcm, hsz, ?_⟩⟩ (by rw [hset]; exact st)
    ·simp only [zfs, hn, Nat.add_zero] at this; exact this
    ·have : xs.drop j = [] := List.drop_eq_nil_of_le zD;rw [this, List.append_nil]; exact e1.take zD
    ·rw [hnew, hn, Nat.add_zero, ← htk, List.take_take, Nat.min_eq_left (Nat.mul_le_mul_right _ zD)]
  ·have holds : ∀ q u, (cs.drop (j * L.size))[q]? = some u → w.cell? ((⟨gb, j * L.size, none⟩ : Addr).add q) = some u := by
    intro q u hq;rw [zdu];rw [List.getElem?_drop, ← htk, List.getElem?_take] at hq;split at hq
    ·simp only [World.cell?, hgw, Option.isSome_none, Bool.false_eq_true, if_false];simpa using hq
    ·cases hq
   have hr := run_append_room (P := P) w t ty e i0 ht hi gb i cap cur hgw ⟨gb, j * L.size, none⟩ (xs.length - j) (cap - j) (cs.drop (j * L.size)) (by rw [hdl, hsize]) holds (fun u hu => one u (List.mem_of_mem_drop hu)) zD (by rw [hsize]; exact hfit);have hlen : (cur.toList.take (i * L.size)).length = i * L.size := by rw [List.length_take, hcl]; have := Nat.mul_le_mul_right L.size (show i ≤ cap by omega); omega
   refine Z rfl hd (run _ _ _ _ rfl (by simp only [zgN]; rw [if_neg hc]; simp [zdu]) hr) (hK [(gb, .cells (cur.toList.take (i * i0.size) ++ cs.drop (j * L.size) ++ cur.toList.drop (i * i0.size + (cs.drop (j * L.size)).length)).toArray e)] _ _ rfl ⟨cs.take (i * L.size) ++ cs.drop (j * L.size), (e1.take zD).append (e1.drop j), .inr ⟨gb, cap, _, by rw [hnew]; rfl, rfl, by rw [hnew]; omega, hcm, ?_, ?_⟩⟩ ?_)
   ·clear hr; rw [hsize, List.size_toArray, List.length_append, List.length_append, hlen, List.length_drop (l := cur.toList), hcl]; rw [hsz] at hfit; omega
   ·rw [hnew, hsize];have h1 : (i + (xs.length - j)) * L.size = (cur.toList.take (i * L.size) ++ cs.drop (j * L.size)).length := by rw [List.length_append, hlen, hdl, Nat.add_mul]
    rw [h1];show ((cur.toList.take (i * L.size) ++ cs.drop (j * L.size)) ++ _).take _ = _;rw [List.take_left];congr 1;rw [← htk, List.take_take, Nat.min_eq_left (Nat.mul_le_mul_right _ zD)]
   ·have := st.set (.cells (cur.toList.take (i * i0.size) ++ cs.drop (j * L.size) ++ cur.toList.drop (i * i0.size + (cs.drop (j * L.size)).length)).toArray e) hk;refine this.same ?_ rfl rfl rfl (Nat.le_refl _);apply Array.ext_getElem?;intro q;have hlt := zcn hgw
    by_cases ej : q = gb
    ·subst ej;rw [setRow_heap w _ cur _ e _ hgw]; simp [hlt]
    ·rw [setRow_other w gb q _ ej]; simp [Ne.symm ej]
theorem Sl.ofCells {α : Type} {L : Lay α} {b off : Nat} {cs : List Value} {xs : List α} (hc : Cells h b off cs) (hE : Enc L h cs xs) (hb : xs.length ≤ big) : Sl L h (.slice (some ⟨b, off, none⟩) xs.length xs.length) xs := by
 refine ⟨_, xs.length, rfl, ⟨hb, Nat.le_refl _⟩, .inr ⟨b, off, rfl, fun i x hi => ⟨_, ?_, hE.2 i x hi⟩⟩⟩;obtain ⟨row, T, fr, hb, hh⟩ := hc;refine ⟨row, T, fr, hb, fun j u hj => ?_⟩;rw [List.getElem?_take] at hj;split at hj
 ·rw [List.getElem?_drop] at hj;have := hh _ _ hj;rw [Nat.add_assoc]; exact this
 cases hj
theorem r_slice_arr {b off len m : Nat} {t e : TypeId} {x : Operand} (hx : ev σ x = .pointer (some ⟨b, off, none⟩)) (hu : P.underlying t = some (.array len e)) (hz : ∀ w, (sizeOf e).run P w = .ok m w) :
  Run P σ w ⟨dst, .slice t x none none none, ty, pos, aft, g⟩ (.slice (some ⟨b, off, none⟩) len len) w := by
 by_cases h : len = 0 <;> simp [Run, execOp, hx, Instr.sliceAt, run_underlying hu, Instr.sliceBounds, hz, Instr.sureAddr, zdu, h]
theorem r_fieldN {s : TypeId} {x : Operand} {k m : Nat} {fs : Array Field} {f : Field} {vs us : List Value} (hx : ev σ x = .agg vs.toArray) (hu : P.underlying s = some (.struct fs)) (hf : fs[k]? = some f) (ha : ∀ w, (isAgg f.type).run P w = .ok true w) (hz : ∀ w, (sizeOf f.type).run P w = .ok m w) (hv : (vs.drop f.offset).take m = us) (hl : us.length = m) :
  Run P σ w ⟨dst, .field s x k, ty, pos, aft, g⟩ (.agg us.toArray) w := by
 subst hv;simp [Run, execOp, hx, Instr.field, run_underlying hu, hf, asAgg, part, ha, hz]
theorem zdw {fn : Func} {P : Program} {R : Ending → World → Prop} {a b n u : Nat} {t : TypeId} {σ : Env} {w : World} {cs : List Value} {T : TypeId} (hr : fn.results = #[.cell a t, .tmp u]) (hp : σ a = .pointer (some ⟨b, 0, none⟩)) (ha : ∀ w, (isAgg t).run P w = .ok true w) (hz : ∀ w, (sizeOf t).run P w = .ok n w) (hn : cs.length = n)
  (hb : w.heap[b]? = some (.cells cs.toArray T)) (h : R (.returned (.tuple #[.agg cs.toArray, σ u])) w) : Post fn P R .ret σ w := by
 intro tmps ht;refine ⟨_, ?_, h⟩;subst hn;have hl := run_loadCells_list (P := P) (w := w) ⟨b, 0, none⟩ cs (fun j v hj => by rw [zdu]; simp [World.cell?, hb, hj]);have hp' : tmps.getD a undef = .pointer (some ⟨b, 0, none⟩) := by rw [ht, hp]
 have hu := ht u;simp only [Array.getD_eq_getD_getElem?] at hp' hu;simp [results, hr, hp', hu, asAddr, loadVar, ha, hz, hl]
theorem Post.retcell2F {fn : Func} {P : Program} {R : Ending → World → Prop} {a b n u : Nat} {t : TypeId} {σ : Env} {w : World} {cs : List Value} {h : Heap} (hr : fn.results = #[.cell a t, .tmp u]) (hp : σ a = .pointer (some ⟨b, 0, none⟩)) (ha : ∀ w, (isAgg t).run P w = .ok true w) (hz : ∀ w, (sizeOf t).run P w = .ok n w) (hn : cs.length = n)
  (hs : Sub h w) (hb : Cells h b 0 cs) (hR : R (.returned (.tuple #[.agg cs.toArray, σ u])) w) : Post fn P R .ret σ w := by
 intro tmps ht;refine ⟨_, ?_, hR⟩;subst hn;have hl := run_loadCells_list (P := P) (w := w) ⟨b, 0, none⟩ cs (fun j v hj => by rw [zdu]; exact hb.cell hs hj);have hp' : tmps.getD a undef = .pointer (some ⟨b, 0, none⟩) := by rw [ht, hp]
 have hu := ht u;simp only [Array.getD_eq_getD_getElem?] at hp' hu;simp [results, hr, hp', hu, asAddr, loadVar, ha, hz, hl]
end
theorem OpsQ.skippedU {P : Program} {n : Nat} {ops : Array Oper} {C : World → Prop} {rest : List Oper} {K : Env → Prop} {σ : Env} {dst : Option Tmp} {op : Op} {type : TypeId} {pos : String} {after : Array Edge} {g d : Nat} {b : Bool}
  (hg : (ops[g]?).bind (·.dst) = some d) (hd : Nat.blt d n = true) (hv : σ d = undef) (hdst : zfO n dst = true)
  (h : OpsQ P n ops C rest K (updO σ dst undef)) : OpsQ P n ops C (⟨dst, op, type, pos, after, some (g, b)⟩ :: rest) K σ := by
 intro a ha;unfold wpQuiet;rw [if_neg (by simp [Region.wanted, yielded_undef ha hg hd hv])];exact h _ (ha.put hdst _)
theorem OSl.whole {α : Type} {L : Lay α} {T : TypeId} {h0 h : Heap} {w0 w : World} {own : Own} {k : Nat} {v : Value} {xs : List α} {o : List (Nat × Obj)} (st : St h0 w0 h w own) (e : OSl L T h v xs o) (hk : own[k]? = some o) (hb : xs.length ≤ 281474976710656) : Le h (zfl w) ∧ Sl L (zfl w) v xs := by
 have hle : Le h (zfl w) := fun b o hb => st.sub b o hb;refine ⟨hle, ?_⟩;obtain ⟨cs, e1, ⟨⟨p, rfl⟩, rfl, rfl⟩ | ⟨g, cap, cur, rfl, rfl, hnc, _, hsz, htk⟩⟩ := e
 ·exact ⟨p, 0, rfl, ⟨Nat.zero_le _, Nat.zero_le _⟩, .inl rfl⟩
 have hg := st.get hk;refine ⟨_, cap, rfl, ⟨hb, hnc⟩, .inr ⟨g, 0, rfl, fun i x hi => ⟨_, ⟨cur, T, _, hg, fun j u hj => ?_⟩, L.up (e1.2 i x hi) hle⟩⟩⟩;have hjl : j < L.size := by
  rw [List.getElem?_take] at hj;split at hj
  ·assumption
  ·cases hj
 rw [List.getElem?_take, if_pos hjl, List.getElem?_drop, ← htk, List.getElem?_take] at hj;split at hj
 ·rw [Nat.zero_add]; simpa using hj
 cases hj
theorem St.thaw {h h' : Heap} {w w' : World} (s : St (zfl w) w h' w' []) (hs : Sub h w) : St h w h w' [] :=
 ⟨Le.refl h, fun _ _ => rfl, fun b o hb => s.sub b o (s.le b o (hs b o hb)), s.below, by simp, by simp⟩
theorem Sl.take {α : Type} {L : Lay α} {h : Heap} {v : Value} {xs : List α} (e : Sl L h v xs) {k : Nat} (hk : k ≤ xs.length) : Sl L h (zfs v k) (xs.take k) := by
 obtain ⟨p, c, rfl, ⟨hb, hc⟩, hh⟩ := e;have hl : (xs.take k).length = k := by rw [List.length_take, Nat.min_eq_left hk]
 refine ⟨p, c, by rw [hl]; rfl, ⟨by omega, by omega⟩, ?_⟩
 rcases hh with rfl | ⟨b, off, rfl, hh⟩
 ·exact .inl (by simp)
 refine .inr ⟨b, off, rfl, fun i x hi => hh i x ?_⟩;rw [List.getElem?_take] at hi;split at hi
 ·exact hi
 cases hi
theorem Sl.drop {α : Type} {L : Lay α} {h : Heap} {v : Value} {xs : List α} (e : Sl L h v xs) {k : Nat} (hk : k ≤ xs.length) : Sl L h (zgN L.size v k) (xs.drop k) := by
 obtain ⟨p, c, rfl, ⟨hb, hc⟩, hh⟩ := e;have hl : (xs.drop k).length = xs.length - k := List.length_drop;refine ⟨_, _, by rw [hl]; rfl, ⟨by omega, by omega⟩, ?_⟩
 rcases hh with rfl | ⟨b, off, rfl, hh⟩
 ·exact .inl (by simp)
 by_cases h1 : c = k
 ·exact .inl (List.drop_eq_nil_of_le zD)
 rw [if_neg h1];refine .inr ⟨b, off + k * L.size, by simp [zdu], fun i x hi => ?_⟩;rw [List.getElem?_drop] at hi;obtain ⟨vs, h2, h3⟩ := hh _ x hi;refine ⟨vs, ?_, h3⟩;rw [Nat.add_assoc, ← Nat.add_mul]; exact h2
theorem Sl.caps {α : Type} {L : Lay α} {h : Heap} {v : Value} {xs : List α} (e : Sl L h v xs) : ∀ p n c, v = .slice p n c → n ≤ c := by
 rintro p n c rfl;obtain ⟨q, c', e2, ⟨_, hc⟩, _⟩ := e;cases e2; exact hc
end Go.Pk

namespace Go.Pk
def inB (n lo hi : Int) : Bool := decide (lo ≤ n) && decide (n ≤ hi)
def isL (c : UInt8) : Bool := decide (97 ≤ (c.toNat : Int)) && decide ((c.toNat : Int) ≤ 122)
def zcI (s : Str) (lo : Int) : Bool := s.all isL && inB s.length lo 12
def zbS (s : Str) : Bool := zcI s 1
def zfn (l : List Str) : Bool := inB l.length 1 10 && l.all zbS
def zbl (c : Chapter) : Bool := inB c.id 0 9999 && inB c.lines.length 1 10 && c.lines.all zfn
def zaM (t : Text) : Bool := inB t.chapters.length 1 6 && t.chapters.all zbl && decide (t.chapters.map (·.id)).Nodup
def zbg (t : Text) (p : Place) : Option (List Str) :=
 if 0 ≤ p.chapter ∧ 0 ≤ p.line then (t.chapters[p.chapter.toNat]?).bind fun c => c.lines[p.line.toNat]? else none
def zgS (t : Text) (p : Place) : Option Str :=
 if 0 ≤ p.word then (zbg t p).bind fun l => l[p.word.toNat]? else none
def zbH (t : Text) (p : Place) : Bool := (zgS t p).isSome
def zdb (a b : Place) : Bool :=
 if a.chapter ≠ b.chapter then decide (a.chapter < b.chapter) else if a.line ≠ b.line then decide (a.line < b.line) else decide (a.word < b.word)
def zhl (r : Rule) : Bool := zcI r.cut 1 && zcI r.put 0 && decide (r.cut ≠ r.put) && inB r.least 1 12
def zfN (h : Head) : Bool := zbS h.stem && inB h.mark 0 3
def zdV : Place := ⟨0, 0, 0⟩
def zek : Head := ⟨[], 0⟩
def zcm : Decision := ⟨0, 0, [], zdV, zek, 0⟩
def zaf (t : Text) (d : Decision) : Bool :=
 inB d.number 1 999 &&
 (if d.kind = 1 then zbS d.form && decide (d.at_ = zdV) && zfN d.to && decide (d.of_ = 0)
  else if d.kind = 2 then zbS d.form && zbH t d.at_ && zfN d.to && decide (d.of_ = 0)
  else if d.kind = 3 then decide (d.form = []) && zbH t d.at_ && zfN d.to && decide (d.of_ = 0)
  else if d.kind = 4 then decide (d.form = []) && decide (d.at_ = zdV) && decide (d.to = zek) && inB d.of_ 1 (d.number - 1)
  else false)
def zco (t : Text) (x : Lexicon) : Bool :=
 decide (x.rules.length ≤ 12) && decide (x.decisions.length ≤ 20) && x.rules.all zhl && x.decisions.all (zaf t) && decide (x.decisions.map (·.number)).Nodup
def zan (t : Text) (x : Lexicon) : Int := if zaM t = false then 10 else if zco t x = false then 40 else 0
def made (r : Rule) (w : Str) : Option Str :=
 if r.cut.length ≤ w.length ∧ r.least ≤ ((w.length - r.cut.length : Nat) : Int) ∧ w.drop (w.length - r.cut.length) = r.cut ∧ w.length - r.cut.length + r.put.length ≤ 12 then some (w.take (w.length - r.cut.length) ++ r.put) else none
def zgU (rs : List Rule) (w : Str) : Option Str := rs.findSome? (made · w)
def zcz (rs : List Rule) : Nat → Str → List Str
 | 0, w => [w]
 | n + 1, w => match zgU rs w with
  | none => [w]
  | some s => w :: zcz rs n s
theorem stepsN_some {rs : List Rule} {n m : Nat} {w s : Str} (hn : n = m + 1) (h : zgU rs w = some s) : zcz rs n w = w :: zcz rs m s := by
 subst hn; simp [zcz, h]
theorem stepsN_none {rs : List Rule} {n : Nat} {w : Str} (h : zgU rs w = none) : zcz rs n w = [w] := by
 cases n <;> simp [zcz, h]
theorem zgY {α : Type} {xs : List α} {k : Nat} {y : α} (h : xs[k]? = some y) : xs.drop k = y :: xs.drop (k + 1) := by
 obtain ⟨h1, h2⟩ := List.getElem?_eq_some_iff.1 h;rw [List.drop_eq_getElem_cons h1, h2]
theorem made_len {r : Rule} {w s : Str} (h : made r w = some s) : s.length ≤ 12 := by
 unfold made at h;split at h
 ·rename_i h1; cases h; simp; omega
 cases h
theorem word_len {s : Str} (h : zbS s = true) : s.length ≤ 12 := by
 simp only [zbS, zcI, inB, Bool.and_eq_true, decide_eq_true_eq] at h;omega
def zhW (t : Text) (x : Lexicon) (w : Str) : List Str := if zan t x = 0 ∧ zbS w = true then zcz x.rules 4 w else []
def ziJ (t : Text) (x : Lexicon) (w : Str) : Int := if zan t x ≠ 0 then zan t x else if zbS w then 0 else 2
def zeU (x : Lexicon) : Nat → Decision → Bool
 | 0, _ => true
 | n + 1, d => x.decisions.all fun v => !(decide (v.kind = 4) && decide (v.of_ = d.number) && zeU x n v)
def voids (x : Lexicon) (n : Nat) (d v : Decision) : Bool := !(decide (v.kind = 4) && decide (v.of_ = d.number) && zeU x (n - 1) v)
theorem standsF_eq {x : Lexicon} {n : Nat} {d : Decision} (hv : ∀ v ∈ x.decisions, v.number ≤ 999 ∧ (v.kind = 4 → v.of_ < v.number)) (hn : 999 < d.number + n) : zeU x n d = x.decisions.all (voids x n d) := by
 cases n with
 | succ n => rfl
 | zero =>
  simp only [zeU]
  symm
  rw [List.all_eq_true];intro v hm;obtain ⟨h1, h2⟩ := hv v hm;simp only [voids, Bool.not_eq_true', Bool.and_eq_false_iff, decide_eq_false_iff_not];left
  by_cases h : v.kind = 4
  ·right; have := h2 h; omega
  ·left; exact h
def zdd (x : Lexicon) (d : Decision) : Bool := zeU x 1000 d
def standP (x : Lexicon) (n : Nat) (d : Decision) : Bool := decide (d.number = (n : Int) + 1) && zeU x 1000 d
def zhI (x : Lexicon) (n : Nat) : List Decision := x.decisions.filter (standP x n)
def zhQ (x : Lexicon) : List Decision := (List.range 999).flatMap (zhI x)
theorem stand_len {x : Lexicon} (n : Nat) (h : x.decisions.length ≤ 20) : ((List.range n).flatMap (zhI x)).length ≤ 20 * n := by
 induction n with
 | zero => simp
 | succ n ih =>
  rw [List.range_succ, List.flatMap_append, List.length_append];have := List.length_filter_le (standP x n) x.decisions;simp only [List.flatMap_cons, List.flatMap_nil, List.append_nil, zhI];omega
def zeA (t : Text) (x : Lexicon) : List Int := if zan t x = 0 then (zhQ x).map (·.number) else []
theorem zhY {t : Text} {x : Lexicon} (h : zan t x = 0) : zaM t = true ∧ zco t x = true := by
 unfold zan at h;split at h
 ·cases h
 rename_i h1;split at h
 ·cases h
 rename_i h2; exact ⟨by simpa using h1, by simpa using h2⟩
theorem zho {t : Text} {x : Lexicon} (h : zan t x = 0) : ∀ v ∈ x.decisions, zaf t v = true := by
 have h1 := (zhY h).2;simp only [zco, Bool.and_eq_true, List.all_eq_true] at h1;exact h1.1.2
theorem lexicon_v {t : Text} {x : Lexicon} (h : zan t x = 0) : ∀ v ∈ x.decisions, v.number ≤ 999 ∧ (v.kind = 4 → v.of_ < v.number) := by
 intro v hv;have h1 := zho h v hv;simp only [zaf, Bool.and_eq_true, inB, decide_eq_true_eq] at h1;refine ⟨h1.1.2, fun h4 => ?_⟩;have h2 := h1.2;rw [h4] at h2;simp at h2;omega
theorem lexicon_v1 {t : Text} {x : Lexicon} (h : zan t x = 0) : ∀ v ∈ x.decisions, 1 ≤ v.number := by
 intro v hv;have h1 := zho h v hv;simp only [zaf, Bool.and_eq_true, inB, decide_eq_true_eq] at h1;exact h1.1.1
theorem zci {t : Text} {x : Lexicon} (h : zan t x = 0) : x.decisions.length ≤ 20 := by
 have h1 := (zhY h).2;simp only [zco, Bool.and_eq_true, decide_eq_true_eq] at h1;exact h1.1.1.1.2
def zcJ (l : List Int) (lo hi : Int) : Bool := l.all fun n => inB n lo hi
theorem inAll_eq (l : List Int) (lo hi : Int) : (!(l.any fun n => decide (n < lo) || decide (hi < n))) = zcJ l lo hi := by
 unfold zcJ;rw [List.not_any_eq_all_not];congr 1;funext n;simp only [inB, Bool.not_or]
 by_cases h1 : n < lo <;> by_cases h2 : hi < n <;> simp [h1, h2] <;> omega
@[simp] theorem inAll_one (n lo hi : Int) : zcJ [n] lo hi = inB n lo hi := by simp [zcJ]
theorem letters_any (s : Str) : ((s.map fun c => (c.toNat : Int)).any fun b => decide (b < 97) || decide (122 < b)) = !(s.all isL) := by
 rw [List.any_map, List.not_all_eq_any_not];congr 1;funext c;simp only [Function.comp, isL, Bool.not_and]
 by_cases h1 : (c.toNat : Int) < 97 <;> by_cases h2 : 122 < (c.toNat : Int) <;> simp [h1, h2] <;> omega
theorem wordB_eq (s : Str) : zbS s = (inB s.length 1 12 && !((s.map fun c => (c.toNat : Int)).any fun b => decide (b < 97) || decide (122 < b))) := by
 rw [letters_any, zbS, zcI, Bool.not_not, Bool.and_comm]
theorem place_eq (t : Text) (p : Place) : zbH t p = ((zbg t p).isSome && inB p.word 0 ((((zbg t p).getD []).length : Int) - 1)) := by
 unfold zbH zgS;cases h : zbg t p with
 | none => simp
 | some l =>
  simp only [Option.bind_some, Option.isSome_some, Option.getD_some, Bool.true_and, inB]
  by_cases h1 : 0 ≤ p.word
  ·rw [if_pos h1]
   by_cases h2 : p.word ≤ (l.length : Int) - 1
   ·rw [List.getElem?_eq_getElem zD]; simp [h1, h2]
   ·rw [List.getElem?_eq_none zD]; simp [h2]
  ·rw [if_neg h1]; simp [h1]
theorem line_none1 {t : Text} {p : Place} (h : ¬ (0 ≤ p.chapter ∧ p.chapter ≤ (t.chapters.length : Int) - 1)) : zbg t p = none := by
 unfold zbg;split
 ·rename_i h1;rw [List.getElem?_eq_none zD]; rfl
 rfl
theorem line_none2 {t : Text} {p : Place} {c : Chapter} (hc : t.chapters[p.chapter.toNat]? = some c) (h : ¬ (0 ≤ p.line ∧ p.line ≤ (c.lines.length : Int) - 1)) : zbg t p = none := by
 unfold zbg;split
 ·rename_i h1;rw [hc];exact List.getElem?_eq_none zD
 rfl
theorem line_some {t : Text} {p : Place} {c : Chapter} {l : List Str} (hc : t.chapters[p.chapter.toNat]? = some c) (h : 0 ≤ p.chapter) (hl : c.lines[p.line.toNat]? = some l) (h2 : 0 ≤ p.line) : zbg t p = some l := by
 unfold zbg;rw [if_pos ⟨h, h2⟩, hc]; exact hl
section
variable {α : Type} {xs : List α} {k : Nat} {y : α} {p : α → Bool}
theorem zcr (h : (xs.take k).all p = true) (hy : xs[k]? = some y) (hp : p y = true) : (xs.take (k + 1)).all p = true := by
 rw [zbf hy, List.all_append, h]; simp [hp]
theorem zde (h : (xs.take k).all p = true) (hk : xs.length ≤ k) : xs.all p = true := by
 rwa [List.take_of_length_le hk] at h
theorem nodup_take_succ {β : Type} {f : α → β} (h : ((xs.take k).map f).Nodup) (hy : xs[k]? = some y) (hk : k ≤ xs.length) (hd : ∀ j z, j < k → xs[j]? = some z → f z ≠ f y) : ((xs.take (k + 1)).map f).Nodup := by
 rw [zbf hy, List.map_append, List.nodup_append];refine ⟨h, by simp, ?_⟩;intro a ha b hb e;simp only [List.map_cons, List.map_nil, List.mem_singleton] at hb;subst hb;subst e;obtain ⟨z, hz, e⟩ := List.mem_map.1 ha;obtain ⟨j, hj⟩ := List.mem_iff_getElem?.1 hz;rw [List.getElem?_take] at hj;split at hj
 ·exact hd j z (by assumption) hj e
 cases hj
theorem zja {β : Type} {f : α → β} {j : Nat} {z : α} (hz : xs[j]? = some z) (hy : xs[k]? = some y) (hj : j < k) (e : f z = f y) : ¬ (xs.map f).Nodup := by
 intro h;obtain ⟨h1, h2⟩ := List.getElem?_eq_some_iff.1 hz;obtain ⟨h3, h4⟩ := List.getElem?_eq_some_iff.1 hy;have h5 := List.pairwise_iff_getElem.1 h j k (by simpa using h1) (by simpa using h3) hj;simp only [List.getElem_map, h2, h4] at h5;exact h5 e
theorem ziM {β : Type} {f : α → β} (hy : xs[k]? = some y) (h : f y ∈ (xs.take k).map f) : ¬ (xs.map f).Nodup := by
 obtain ⟨z, hz, e⟩ := List.mem_map.1 h;obtain ⟨j, hj⟩ := List.mem_iff_getElem?.1 hz;rw [List.getElem?_take] at hj;split at hj
 ·exact zja hj hy (by assumption) e
 cases hj
theorem any_not (q : α → Bool) : (xs.any fun x => !q x) = !(xs.all q) := by rw [List.not_all_eq_any_not]
theorem zcH (hy : xs[k]? = some y) (hp : p y = false) : xs.all p = false := by
 rw [List.all_eq_false];exact ⟨y, List.mem_of_getElem? hy, by simp [hp]⟩
end
end Go.Pk

namespace Go.Pk
open Go Go.RowKit
theorem zhN {α : Type} {a b : List α} {k : Nat} {x y : α} (h : a.take k = b.take k) (ha : a[k]? = some x) (hb : b[k]? = some y) (e : x = y) : a.take (k + 1) = b.take (k + 1) := by
 subst e;rw [List.take_add_one, List.take_add_one, h, ha, hb]
theorem ne_of_get {α : Type} {a b : List α} {k : Nat} {x y : α} (ha : a[k]? = some x) (hb : b[k]? = some y) (e : x ≠ y) : a ≠ b := by
 rintro rfl;rw [ha] at hb; cases hb; exact e rfl
theorem zjw {α : Type} {a b : List α} {k : Nat} (h : a.take k = b.take k) (hl : a.length = b.length) (hk : a.length ≤ k) : a = b := by
 rwa [List.take_of_length_le hk, List.take_of_length_le zD] at h
theorem letters_eq (s : Str) (lo : Int) : zcI s lo = (inB s.length lo 12 && !(s.any fun c => decide ((c.toNat : Int) < 97) || decide (122 < (c.toNat : Int)))) := by
 unfold zcI;rw [Bool.and_comm];congr 1;rw [List.not_any_eq_all_not];congr 1;funext c;simp only [isL, Bool.not_or];congr 1 <;> (rw [← decide_not]; congr 1; simp only [Int.not_lt])
theorem head_eq (h : Head) (h0 : 0 ≤ h.mark) : zfN h = (zcI h.stem 1 && decide (h.mark ≤ 3)) := by
 unfold zfN zbS inB;simp [h0]
theorem zga (d : Decision) (k : Int) (f : Str) (a : Place) (t : Head) (o : Int) : (d = Decision.mk d.number k f a t o) ↔ (d.kind = k ∧ d.form = f ∧ d.at_ = a ∧ d.to = t ∧ d.of_ = o) := by
 rcases d with ⟨n, k', f', a', t', o'⟩
 simp
theorem zgH {t : Text} {p : Place} (ht : zaM t = true) : ((if (zaM t && zbH t p) = true then (0 : Int) else if zaM t = true then 12 else 10) = 0) = (zbH t p = true) := by
 cases h : zbH t p <;> simp [ht]
theorem dec1_t {t : Text} {d : Decision} (ht : zaM t = true) (hk : d.kind = 1) (hn : (!zcJ [d.number] 1 999) = false) (g : d = Decision.mk d.number d.kind d.form (Place.mk 0 0 0) d.to 0) (e0 : zcI d.form 1 = true) (e1 : zfN d.to = true) : true = zaf t d := by
 rw [inAll_one] at hn;rw [zga] at g
 try rw [zgH ht] at e0
 try rw [zgH ht] at e1
 simp_all [zaf, zbS, zdV, zek]
theorem dec1_f0 {t : Text} {d : Decision} (ht : zaM t = true) (hk : d.kind = 1) (hn : (!zcJ [d.number] 1 999) = false) (g : d = Decision.mk d.number d.kind d.form (Place.mk 0 0 0) d.to 0) (e0 : zcI d.form 1 = false) : false = zaf t d := by
 rw [inAll_one] at hn;rw [zga] at g
 try rw [zgH ht] at e0
 simp_all [zaf, zbS, zdV, zek]
theorem dec1_f1 {t : Text} {d : Decision} (ht : zaM t = true) (hk : d.kind = 1) (hn : (!zcJ [d.number] 1 999) = false) (g : d = Decision.mk d.number d.kind d.form (Place.mk 0 0 0) d.to 0) (e0 : zcI d.form 1 = true) (e1 : zfN d.to = false) : false = zaf t d := by
 rw [inAll_one] at hn;rw [zga] at g
 try rw [zgH ht] at e0
 try rw [zgH ht] at e1
 simp_all [zaf, zbS, zdV, zek]
theorem dec1_n {t : Text} {d : Decision} (ht : zaM t = true) (hk : d.kind = 1) (hn : (!zcJ [d.number] 1 999) = false) (g : ¬ d = Decision.mk d.number d.kind d.form (Place.mk 0 0 0) d.to 0) : false = zaf t d := by
 rw [inAll_one] at hn;rw [zga] at g
 symm
 rw [Bool.eq_false_iff];intro q;apply g;simp [zaf, hk, zdV, zek, Bool.and_eq_true] at q;simp_all
theorem dec2_t {t : Text} {d : Decision} (ht : zaM t = true) (hk : d.kind = 2) (hn : (!zcJ [d.number] 1 999) = false) (g : d = Decision.mk d.number d.kind d.form d.at_ d.to 0) (e0 : zcI d.form 1 = true) (e1 : ((if (zaM t && zbH t d.at_) = true then (0 : Int) else if zaM t = true then 12 else 10) = 0)) (e2 : zfN d.to = true) : true = zaf t d := by
 rw [inAll_one] at hn;rw [zga] at g
 try rw [zgH ht] at e0
 try rw [zgH ht] at e1
 try rw [zgH ht] at e2
 simp_all [zaf, zbS, zdV, zek]
theorem dec2_f0 {t : Text} {d : Decision} (ht : zaM t = true) (hk : d.kind = 2) (hn : (!zcJ [d.number] 1 999) = false) (g : d = Decision.mk d.number d.kind d.form d.at_ d.to 0) (e0 : zcI d.form 1 = false) : false = zaf t d := by
 rw [inAll_one] at hn;rw [zga] at g
 try rw [zgH ht] at e0
 simp_all [zaf, zbS, zdV, zek]
theorem dec2_f1 {t : Text} {d : Decision} (ht : zaM t = true) (hk : d.kind = 2) (hn : (!zcJ [d.number] 1 999) = false) (g : d = Decision.mk d.number d.kind d.form d.at_ d.to 0) (e0 : zcI d.form 1 = true) (e1 : ¬ ((if (zaM t && zbH t d.at_) = true then (0 : Int) else if zaM t = true then 12 else 10) = 0)) : false = zaf t d := by
 rw [inAll_one] at hn;rw [zga] at g
 try rw [zgH ht] at e0
 try rw [zgH ht] at e1
 simp_all [zaf, zbS, zdV, zek]
theorem dec2_f2 {t : Text} {d : Decision} (ht : zaM t = true) (hk : d.kind = 2) (hn : (!zcJ [d.number] 1 999) = false) (g : d = Decision.mk d.number d.kind d.form d.at_ d.to 0) (e0 : zcI d.form 1 = true) (e1 : ((if (zaM t && zbH t d.at_) = true then (0 : Int) else if zaM t = true then 12 else 10) = 0)) (e2 : zfN d.to = false) : false = zaf t d := by
 rw [inAll_one] at hn;rw [zga] at g
 try rw [zgH ht] at e0
 try rw [zgH ht] at e1
 try rw [zgH ht] at e2
 simp_all [zaf, zbS, zdV, zek]
theorem dec2_n {t : Text} {d : Decision} (ht : zaM t = true) (hk : d.kind = 2) (hn : (!zcJ [d.number] 1 999) = false) (g : ¬ d = Decision.mk d.number d.kind d.form d.at_ d.to 0) : false = zaf t d := by
 rw [inAll_one] at hn;rw [zga] at g
 symm
 rw [Bool.eq_false_iff];intro q;apply g;simp [zaf, hk, zdV, zek, Bool.and_eq_true] at q;simp_all
theorem dec3_t {t : Text} {d : Decision} (ht : zaM t = true) (hk : d.kind = 3) (hn : (!zcJ [d.number] 1 999) = false) (g : d = Decision.mk d.number d.kind [] d.at_ d.to 0) (e0 : ((if (zaM t && zbH t d.at_) = true then (0 : Int) else if zaM t = true then 12 else 10) = 0)) (e1 : zfN d.to = true) : true = zaf t d := by
 rw [inAll_one] at hn;rw [zga] at g
 try rw [zgH ht] at e0
 try rw [zgH ht] at e1
 simp_all [zaf, zbS, zdV, zek]
theorem dec3_f0 {t : Text} {d : Decision} (ht : zaM t = true) (hk : d.kind = 3) (hn : (!zcJ [d.number] 1 999) = false) (g : d = Decision.mk d.number d.kind [] d.at_ d.to 0) (e0 : ¬ ((if (zaM t && zbH t d.at_) = true then (0 : Int) else if zaM t = true then 12 else 10) = 0)) : false = zaf t d := by
 rw [inAll_one] at hn;rw [zga] at g
 try rw [zgH ht] at e0
 simp_all [zaf, zbS, zdV, zek]
theorem dec3_f1 {t : Text} {d : Decision} (ht : zaM t = true) (hk : d.kind = 3) (hn : (!zcJ [d.number] 1 999) = false) (g : d = Decision.mk d.number d.kind [] d.at_ d.to 0) (e0 : ((if (zaM t && zbH t d.at_) = true then (0 : Int) else if zaM t = true then 12 else 10) = 0)) (e1 : zfN d.to = false) : false = zaf t d := by
 rw [inAll_one] at hn;rw [zga] at g
 try rw [zgH ht] at e0
 try rw [zgH ht] at e1
 simp_all [zaf, zbS, zdV, zek]
theorem dec3_n {t : Text} {d : Decision} (ht : zaM t = true) (hk : d.kind = 3) (hn : (!zcJ [d.number] 1 999) = false) (g : ¬ d = Decision.mk d.number d.kind [] d.at_ d.to 0) : false = zaf t d := by
 rw [inAll_one] at hn;rw [zga] at g
 symm
 rw [Bool.eq_false_iff];intro q;apply g;simp [zaf, hk, zdV, zek, Bool.and_eq_true] at q;simp_all
theorem dec4_t {t : Text} {d : Decision} (ht : zaM t = true) (hk : d.kind = 4) (hn : (!zcJ [d.number] 1 999) = false) (g : d = Decision.mk d.number d.kind [] (Place.mk 0 0 0) (Head.mk [] 0) d.of_) : zcJ [d.of_] 1 (d.number - 1) = zaf t d := by
 rw [inAll_one] at hn ⊢;rw [zga] at g;simp_all [zaf, zbS, zdV, zek]
theorem dec4_n {t : Text} {d : Decision} (ht : zaM t = true) (hk : d.kind = 4) (hn : (!zcJ [d.number] 1 999) = false) (g : ¬ d = Decision.mk d.number d.kind [] (Place.mk 0 0 0) (Head.mk [] 0) d.of_) : false = zaf t d := by
 rw [inAll_one] at hn;rw [zga] at g
 symm
 rw [Bool.eq_false_iff];intro q;apply g;simp [zaf, hk, zdV, zek, Bool.and_eq_true] at q;have q1 := of_decide_eq_true q.2.1.1.2;have q2 := of_decide_eq_true q.2.1.2;have q3 := q.2.1.1.1;simp_all
theorem line_le {h : Heap} {v : Value} {t : Text} (f : Sl LChapter h v t.chapters) (p : Place) : ((zbg t p).getD []).length ≤ 281474976710656 := by
 cases e : zbg t p with
 | none => simp
 | some l =>
  unfold zbg at e;split at e
  ·cases e2 : t.chapters[p.chapter.toNat]? with
   | none => rw [e2] at e; cases e
   | some c =>
    rw [e2, Option.bind_some] at e;obtain ⟨_, _, _, _, _, hr⟩ := Sl.elem f e2;obtain ⟨v1, rfl, f1⟩ := hr;obtain ⟨_, _, _, _, _, hr2⟩ := Sl.elem f1 e;obtain ⟨v2, rfl, f2⟩ := hr2;exact f2.le
  ·cases e
theorem word_some {t : Text} {p : Place} {wd : Str} (hp : zbH t p = true) (hw : ((zbg t p).getD [])[p.word.toNat]? = some wd) : zgS t p = some wd := by
 unfold zbH zgS at hp;unfold zgS;split at hp
 ·rename_i h1;rw [if_pos h1];cases e : zbg t p with
  | none => rw [e] at hw; cases hw
  | some l => rw [e] at hw; exact hw
 cases hp
theorem word_none {t : Text} {p : Place} (hp : zbH t p = false) : zgS t p = none := by
 unfold zbH at hp;cases e : zgS t p with
 | none => rfl
 | some l => rw [e] at hp; cases hp
def Box {α : Type} (L : Lay α) (h : Heap) (c : Bool) (x : α) (v : Value) : Prop := bif c then ∃ b vs, v = .pointer (some ⟨b, 0, none⟩) ∧ Cells h b 0 vs ∧ L.R h vs x else v = .pointer none
theorem Box.nil {α : Type} {L : Lay α} {h : Heap} {c : Bool} {x : α} (e : c = false) : Box L h c x (.pointer none) := by subst e; rfl
theorem Box.some {α : Type} {L : Lay α} {h : Heap} {c : Bool} {x : α} {b : Nat} {vs : List Value} (e : c = true) (hc : Cells h b 0 vs) (hr : L.R h vs x) : Box L h c x (.pointer (some ⟨b, 0, none⟩)) := by subst e; exact ⟨b, vs, rfl, hc, hr⟩
def decP (t : Text) (ds : List Decision) (k : Nat) : Bool := match ds[k]? with | some d => !(decide (d.number ∈ (ds.take k).map (·.number))) && zaf t d | none => true
theorem decP_some {t : Text} {ds : List Decision} {k : Nat} {d : Decision} (h : ds[k]? = some d) : decP t ds k = (!(decide (d.number ∈ (ds.take k).map (·.number))) && zaf t d) := by simp [decP, h]
theorem nodup_upto {α β : Type} {xs : List α} {f : α → β} (h : ∀ j y, xs[j]? = some y → f y ∉ (xs.take j).map f) : ∀ n, n ≤ xs.length → ((xs.take n).map f).Nodup
 | 0, _ => by simp
 | n + 1, hn => by
  have hy : xs[n]? = some xs[n] := List.getElem?_eq_getElem zD;rw [zbf hy, List.map_append, List.nodup_append];refine ⟨nodup_upto h n zD, by simp, ?_⟩;intro a ha b hb e;simp only [List.map_cons, List.map_nil, List.mem_singleton] at hb;subst hb; subst e;exact h n _ hy ha
theorem decisions_iff {t : Text} {ds : List Decision} {b : Bool} (h : b = true ↔ ∀ j, j < ds.length → decP t ds j = true) : b = (ds.all (zaf t) && decide (ds.map (·.number)).Nodup) := by
 rw [Bool.eq_iff_iff, h, Bool.and_eq_true, decide_eq_true_eq, List.all_eq_true];constructor
 ·intro hall;have h1 : ∀ j y, ds[j]? = some y → y.number ∉ (ds.take j).map (·.number) ∧ zaf t y = true := by
   intro j y hy;have := hall j (List.getElem?_eq_some_iff.1 hy).1;rw [decP_some hy] at this;simpa using this
  refine ⟨fun y hy => ?_, ?_⟩
  ·obtain ⟨j, hj⟩ := List.mem_iff_getElem?.1 hy;exact (h1 j y hj).2
  ·have := nodup_upto (f := (·.number)) (fun j y hy => (h1 j y hy).1) ds.length (Nat.le_refl _);rwa [List.take_length] at this
 rintro ⟨h1, h2⟩ j hj;have hy : ds[j]? = some ds[j] := List.getElem?_eq_getElem hj;rw [decP_some hy, h1 _ (List.getElem_mem hj)];simp only [Bool.and_true, Bool.not_eq_true', decide_eq_false_iff_not];intro hm;exact ziM (f := (·.number)) hy hm h2
end Go.Pk

namespace Go.Pk
open Go Go.RowKit
theorem sub_flat {α : Type} {a b : List (List α)} (h : a.Sublist b) : a.flatten.Sublist b.flatten := by
 induction h with
 | slnil => exact List.Sublist.refl _
 | cons c _ ih => rw [List.flatten_cons]; exact ih.trans (List.sublist_append_right _ _)
 | cons_cons c _ ih => rw [List.flatten_cons, List.flatten_cons]; exact (List.Sublist.refl _).append ih
theorem St.sublist {h0 h : Heap} {w0 w : World} {own own' : Own} (st : St h0 w0 h w own) (hs : own'.Sublist own) : St h0 w0 h w own' := by
 have hsub : own'.flatten.Sublist own.flatten := sub_flat hs;exact ⟨st.le, st.new, st.sub, st.below, fun p hp => st.mine p (hsub.subset hp), (hsub.map _).nodup st.nodup⟩
theorem heapOf_le {h : Heap} {w : World} (hs : Sub h w) : Le h (zfl w) := fun b o hb => hs b o hb
theorem Rets.thaw {P : Program} {f : FuncId} {args : Array Value} {h : Heap} {w : World} {v : Value} (hs : Sub h w) (hc : Calls P f args w (Rets (zfl w) w fun _ _ r => r = v)) : Calls P f args w (Rets h w fun _ _ r => r = v) := by
 refine hc.mono ?_;rintro e w' ⟨h', r, rfl, s, rfl⟩;exact ⟨h, _, rfl, St.thaw s hs, rfl⟩
section
variable {α : Type} {L : Lay α} {T : TypeId} {h : Heap} {v : Value} {xs : List α} {o : List (Nat × Obj)}
theorem OSl.retake (e : OSl L T h (zfs v xs.length) (xs.take xs.length) o) (hv : ∃ p c, v = .slice p xs.length c) : OSl L T h v xs o := by
 obtain ⟨p, c, rfl⟩ := hv;rw [List.take_length] at e;exact e
theorem vtake_caps (e : OSl L T h v xs o) (k : Nat) : ∀ p n c, zfs v k = .slice p n c → xs.length ≤ c := by
 obtain ⟨p0, c0, rfl⟩ := e.form;have := e.caps _ _ _ rfl;intro p n c q;simp only [zfs] at q;cases q;exact this
theorem OSl.cap {p : Option Addr} {n c : Nat} (e : OSl L T h v xs o) (hv : v = .slice p n c) : n = xs.length ∧ xs.length ≤ c := by
 have h1 := e.caps _ _ _ hv;have h2 := e.len _ _ _ hv;exact ⟨h2, h2 ▸ h1⟩
end
section
variable {P : Program} {n : Nat} {ops : Array Oper} {rest : List Oper} {K : Env → World → Prop} {σ : Env} {w w0 : World} {h0 h : Heap} {own : Own} {ty : TypeId} {pos : String} {aft : Array Edge}
end
theorem Box.up {α : Type} {L : Lay α} {h h' : Heap} {c : Bool} {x : α} {v : Value} (f : Box L h c x v) (hl : Le h h') : Box L h' c x v := by
 cases c with
 | false => exact f
 | true => obtain ⟨b, vs, e, hc, hr⟩ := f; exact ⟨b, vs, e, hc.up hl, L.up hr hl⟩
end Go.Pk

namespace Go.Pk
open Go Go.RowKit
theorem St.move {h0 h : Heap} {w0 w : World} {own : Own} (st : St h0 w0 h w own) {k j : Nat} {x y : List (Nat × Obj)} (hk : own[k]? = some x) (hj : own[j]? = some y) (hn : k < j) : St h0 w0 h w ((own.set k y).set j []) := by
 have d := st.drop k;obtain ⟨k1, _⟩ := List.getElem?_eq_some_iff.1 hk;obtain ⟨j1, j2⟩ := List.getElem?_eq_some_iff.1 hj;have hp := @List.set_set_perm _ (own.set k []) k j (by simpa using k1) (by simpa using j1);have e1 : (own.set k [])[j]'(by simpa using j1) = y := by rw [List.getElem_set_ne zD]; exact j2
 have e2 : (own.set k [])[k]'(by simpa using k1) = [] := by rw [List.getElem_set_self]
 rw [e1, e2, List.set_set] at hp;exact d.perm hp.symm
theorem OSl.heap {α : Type} {L : Lay α} {T : TypeId} {h : Heap} {v : Value} {xs : List α} {o : List (Nat × Obj)} (hL : ∀ h1 h2 vs x, L.R h1 vs x → L.R h2 vs x) (e : OSl L T h v xs o) (h' : Heap) : OSl L T h' v xs o := by
 obtain ⟨cs, e1, e2⟩ := e;exact ⟨cs, ⟨e1.1, fun i x hi => hL _ _ _ _ (e1.2 i x hi)⟩, e2⟩
theorem St.to {h0 h : Heap} {w0 w : World} {own own' : Own} (st : St h0 w0 h w own) (e : own = own') : St h0 w0 h w own' := e ▸ st
end Go.Pk

namespace Go.Pk
open Go Go.RowKit
structure VoterR where
 id : Int
 wrong : Int
 hd : Value
def LVoterR : Lay VoterR := { size := 3, R := fun _ vs x => vs = [.int .i64 x.id, .int .i64 x.wrong, x.hd] ∧ x.hd.oneCell' = true, up := (fun h _ => h), len := (by rintro _ _ _ ⟨rfl, _⟩; rfl), one := (by rintro _ _ _ ⟨rfl, h⟩ u hu; simp only [List.mem_cons, List.not_mem_nil, or_false] at hu; rcases hu with rfl | rfl | rfl <;> first | rfl | exact h) }
section
variable {α : Type} {L : Lay α} {T : TypeId} {h0 h h' hB : Heap} {w0 w : World} {own : Own} {v : Value} {xs : List α} {o : List (Nat × Obj)}
def Own1 (L : Lay α) (T : TypeId) (hB h' : Heap) (v : Value) (xs : List α) : Prop := Sl L h' v xs ∧ ∃ o, OSl L T h' v xs o ∧ (o.map (·.1)).Nodup ∧ ∀ p ∈ o, h' p.1 = some p.2 ∧ hB p.1 = none
theorem Own1.up {h2 : Heap} (a : Own1 L T hB h' v xs) (l : Le h' h2) : Own1 L T hB h2 v xs := by
 obtain ⟨s, o, a1, a2, a3⟩ := a;exact ⟨s.up l, o, a1.up l, a2, fun p hp => ⟨l _ _ (a3 p hp).1, (a3 p hp).2⟩⟩
theorem none_le {b : Nat} (l : Le h h') (e : h' b = none) : h b = none := by
 cases q : h b with
 | none => rfl
 | some x => rw [l _ _ q] at e; cases e
theorem Own1.down {h2 : Heap} (a : Own1 L T hB h' v xs) (l : Le h2 hB) : Own1 L T h2 h' v xs := by
 obtain ⟨s, o, a1, a2, a3⟩ := a;exact ⟨s, o, a1, a2, fun p hp => ⟨(a3 p hp).1, none_le l (a3 p hp).2⟩⟩
theorem St.defrost {O : List (Nat × Obj)} (st : St h0 w0 h' w own) (l0 : Le h0 hB) (l : Le hB h') (hO : ∀ p ∈ O, h' p.1 = some p.2 ∧ hB p.1 = none) (hn : (O.map (·.1)).Nodup) : St h0 w0 hB w (own ++ [O]) := by
 refine ⟨l0, fun b hb => ?_, fun b q hq => st.sub b q (l b q hq), st.below, fun p hp => ?_, ?_⟩
 ·have e := st.new b hb;cases q : hB b with
  | some x => rw [← q, q, ← e, l _ _ q]
  | none => exact (none_le l0 q).symm
 ·rw [List.flatten_append, List.mem_append] at hp
  rcases hp with hp | hp
  ·obtain ⟨a, b, c⟩ := st.mine p hp;exact ⟨a, none_le l b, c⟩
  ·simp only [List.flatten_cons, List.flatten_nil, List.append_nil] at hp;obtain ⟨a, b⟩ := hO p hp;refine ⟨st.sub _ _ a, b, ?_⟩
   rcases Nat.lt_or_ge p.1 w0.heap.size with q | q
   ·rw [st.new _ q] at a;rw [l0 _ _ a] at b; cases b
   ·exact q
 rw [List.flatten_append, List.map_append, List.nodup_append];refine ⟨st.nodup, by simpa using hn, ?_⟩;intro a ha b hb e;subst e;obtain ⟨p, hp, rfl⟩ := List.mem_map.1 ha;obtain ⟨q, hq, e⟩ := List.mem_map.1 hb;simp only [List.flatten_cons, List.flatten_nil, List.append_nil] at hq;have h1 := (st.mine p hp).2.1;have h2 := (hO q hq).1;rw [e, h1] at h2; cases h2
theorem St.split {k : Nat} {a b : List (Nat × Obj)} (st : St h0 w0 h w own) (hk : own[k]? = some (a ++ b)) : St h0 w0 h w (own.set k a ++ [b]) := by
 have hlt := (List.getElem?_eq_some_iff.1 hk);obtain ⟨h1, h2⟩ := hlt;have hp : own.flatten.Perm (own.set k a ++ [b]).flatten := by
  have e : own = own.take k ++ (a ++ b) :: own.drop (k + 1) := by
   conv => lhs; rw [← List.take_append_drop k own, List.drop_eq_getElem_cons h1, h2]
  rw [List.set_eq_take_append_cons_drop, if_pos h1]
  conv => lhs; rw [e]
  simp only [List.flatten_append, List.flatten_cons, List.flatten_nil, List.append_nil, List.append_assoc];exact List.Perm.append_left _ (List.Perm.append_left _ List.perm_append_comm)
 exact ⟨st.le, st.new, st.sub, st.below, fun p hq => st.mine p (hp.mem_iff.2 hq), (hp.map _).nodup_iff.1 st.nodup⟩
end
section
variable {T : TypeId} {h h' hB : Heap} {rs : List VoterR} {xs : List Voter} {os : List (List (Nat × Obj))}
def NV (T : TypeId) (hB h : Heap) (rs : List VoterR) (xs : List Voter) : Prop := ∃ os : List (List (Nat × Obj)), rs.length = xs.length ∧ os.length = xs.length ∧
 (∀ (j : Nat) r x o, rs[j]? = some r → xs[j]? = some x → os[j]? = some o → r.id = x.id ∧ r.wrong = x.wrong ∧ OSl LInt T h r.hd x.votes o) ∧ (∀ p ∈ os.flatten, h p.1 = some p.2 ∧ hB p.1 = none) ∧ (os.flatten.map (·.1)).Nodup
theorem NV.nil (T : TypeId) (hB h : Heap) : NV T hB h [] [] := ⟨[], rfl, rfl, by simp, by simp, by simp⟩
theorem NV.len (a : NV T hB h rs xs) : rs.length = xs.length := by obtain ⟨_, a1, _⟩ := a; exact a1
theorem NV.up (a : NV T hB h rs xs) (l : Le h h') : NV T hB h' rs xs := by
 obtain ⟨os, a1, a2, a3, a4, a5⟩ := a;exact ⟨os, a1, a2, fun j r x o e1 e2 e3 => ⟨(a3 j r x o e1 e2 e3).1, (a3 j r x o e1 e2 e3).2.1, (a3 j r x o e1 e2 e3).2.2.up l⟩, fun p hp => ⟨l _ _ (a4 p hp).1, (a4 p hp).2⟩, a5⟩
theorem get_snoc {α : Type} {l : List α} {a b : α} {j : Nat} (e : (l ++ [a])[j]? = some b) : l[j]? = some b ∨ (j = l.length ∧ b = a) := by
 rcases Nat.lt_trichotomy j l.length with q | q | q
 ·rw [List.getElem?_append_left q] at e; exact .inl e
 ·subst q; simp at e; exact .inr ⟨rfl, e.symm⟩
 rw [List.getElem?_eq_none (by simp; omega)] at e; cases e
theorem NV.snoc {x : Voter} {hd : Value} (a : NV T hB h rs xs) (b : Own1 LInt T h h' hd x.votes) (l0 : Le hB h) (l : Le h h') : NV T hB h' (rs ++ [⟨x.id, x.wrong, hd⟩]) (xs ++ [x]) := by
 have a' := a.up l;obtain ⟨os, a1, a2, a3, a4, a5⟩ := a;obtain ⟨_, o, b1, b2, b3⟩ := b;refine ⟨os ++ [o], by simp [a1], by simp [a2], fun j r y q e1 e2 e3 => ?_, fun p hp => ?_, ?_⟩
 ·rcases get_snoc e1 with e1 | ⟨e1, rfl⟩
  ·have hj := (List.getElem?_eq_some_iff.1 e1).1;rw [List.getElem?_append_left zD] at e2 e3;obtain ⟨c1, c2, c3⟩ := a3 j r y q e1 e2 e3;exact ⟨c1, c2, c3.up l⟩
  ·rcases get_snoc e2 with e2 | ⟨_, rfl⟩
   ·have := (List.getElem?_eq_some_iff.1 e2).1; omega
   ·rcases get_snoc e3 with e3 | ⟨_, rfl⟩
    ·have := (List.getElem?_eq_some_iff.1 e3).1; omega
    ·exact ⟨rfl, rfl, b1⟩
 ·rw [List.flatten_append, List.mem_append] at hp
  rcases hp with hp | hp
  ·exact ⟨l _ _ (a4 p hp).1, (a4 p hp).2⟩
  ·simp only [List.flatten_cons, List.flatten_nil, List.append_nil] at hp;exact ⟨(b3 p hp).1, none_le l0 (b3 p hp).2⟩
 rw [List.flatten_append, List.map_append, List.nodup_append];refine ⟨a5, by simpa using b2, ?_⟩;intro c hc d hd' e;subst e;obtain ⟨p, hp, rfl⟩ := List.mem_map.1 hc;obtain ⟨q, hq, e⟩ := List.mem_map.1 hd';simp only [List.flatten_cons, List.flatten_nil, List.append_nil] at hq;have h1 := (a4 p hp).1;have h2 := (b3 q hq).2;rw [e, h1] at h2; cases h2
def NW (T : TypeId) (h : Heap) (rs : List VoterR) (xs : List Voter) (i : Nat) (os : List (List (Nat × Obj))) : Prop := rs.length = xs.length ∧ os.length + i = xs.length ∧
 ∀ (j : Nat) r x, rs[j]? = some r → xs[j]? = some x → r.id = x.id ∧ r.wrong = x.wrong ∧ r.hd.oneCell' = true ∧ (j < i → Sl LInt h r.hd x.votes) ∧ ∀ o, i ≤ j → os[j - i]? = some o → OSl LInt T h r.hd x.votes o
theorem NW.up {i : Nat} (a : NW T h rs xs i os) (l : Le h h') : NW T h' rs xs i os :=
 ⟨a.1, a.2.1, fun j r x e1 e2 => ⟨(a.2.2 j r x e1 e2).1, (a.2.2 j r x e1 e2).2.1, (a.2.2 j r x e1 e2).2.2.1, fun q => ((a.2.2 j r x e1 e2).2.2.2.1 q).up l, fun o q e => ((a.2.2 j r x e1 e2).2.2.2.2 o q e).up l⟩⟩
theorem NW.open {i : Nat} (a : NW T h rs xs i os) {x : Voter} (hx : xs[i]? = some x) : ∃ r o os', rs[i]? = some r ∧ os = o :: os' ∧ r.id = x.id ∧ r.wrong = x.wrong ∧ OSl LInt T h r.hd x.votes o := by
 obtain ⟨a1, a2, a3⟩ := a;have hi := (List.getElem?_eq_some_iff.1 hx).1;cases os with
 | nil => simp at a2; omega
 | cons o os' =>
  obtain ⟨c1, c2, _, _, c5⟩ := a3 i _ x (List.getElem?_eq_getElem zD) hx;exact ⟨_, o, os', List.getElem?_eq_getElem zD, rfl, c1, c2, c5 o (Nat.le_refl _) (by simp)⟩
theorem NW.step {i : Nat} {o : List (Nat × Obj)} (a : NW T h rs xs i (o :: os)) {x : Voter} {r : VoterR} {zs : List Int} {w' : Int} (hr : rs[i]? = some r) (hx : xs[i]? = some x) (hz : Sl LInt h r.hd zs) : NW T h (rs.set i { r with wrong := w' }) (xs.set i ⟨x.id, w', zs⟩) (i + 1) os := by
 obtain ⟨a1, a2, a3⟩ := a;refine ⟨by simp [a1], by simp at a2 ⊢; omega, fun j s y e1 e2 => ?_⟩
 by_cases e : j = i
 ·subst e;rw [List.getElem?_set_self (by have := (List.getElem?_eq_some_iff.1 hr).1; omega)] at e1;rw [List.getElem?_set_self (by have := (List.getElem?_eq_some_iff.1 hx).1; omega)] at e2;cases e1; cases e2;obtain ⟨c1, _, c3, _⟩ := a3 j r x hr hx;exact ⟨c1, rfl, c3, fun _ => hz, fun _ q => absurd q zD⟩
 rw [List.getElem?_set_ne (fun q => e q.symm)] at e1 e2;obtain ⟨c1, c2, c3, c4, c5⟩ := a3 j s y e1 e2;refine ⟨c1, c2, c3, fun q => c4 zD, fun p q eo => c5 p zD ?_⟩;rw [show j - i = (j - (i + 1)) + 1 by omega]; simpa using eo
end
end Go.Pk

namespace Go.Pk
open Go Go.RowKit
section
variable {α : Type} {L : Lay α} {T : TypeId} {h0 h h' : Heap} {w0 w : World} {own : Own} {v : Value} {xs : List α} {o : List (Nat × Obj)}
theorem OSl.asSl (e : OSl L T h v xs o) (l : Le h h') (hO : ∀ p ∈ o, h' p.1 = some p.2) (hb : xs.length ≤ 281474976710656) : Sl L h' v xs := by
 obtain ⟨cs, e1, ⟨⟨p, rfl⟩, rfl, rfl⟩ | ⟨g, cap, cur, rfl, rfl, hnc, _, hsz, htk⟩⟩ := e
 ·exact ⟨p, 0, rfl, ⟨Nat.zero_le _, Nat.zero_le _⟩, .inl rfl⟩
 have hg := hO (g, .cells cur T) (by simp);refine ⟨_, cap, rfl, ⟨hb, hnc⟩, .inr ⟨g, 0, rfl, fun i x hi => ⟨_, ⟨cur, T, _, hg, fun j u hj => ?_⟩, L.up (e1.2 i x hi) l⟩⟩⟩;have hjl : j < L.size := by
  rw [List.getElem?_take] at hj;split at hj
  ·assumption
  ·cases hj
 rw [List.getElem?_take, if_pos hjl, List.getElem?_drop, ← htk, List.getElem?_take] at hj;split at hj
 ·rw [Nat.zero_add]; simpa using hj
 cases hj
theorem St.freezeAll {k : Nat} : ∀ (O : List (Nat × Obj)) {own : Own} {h : Heap}, St h0 w0 h w own → own[k]? = some O → ∃ h', Le h h' ∧ (∀ p ∈ O, h' p.1 = some p.2) ∧ St h0 w0 h' w (own.set k [])
 | [], own, h, st, hk => ⟨h, Le.refl h, by simp, st.drop k⟩
 | p :: O, own, h, st, hk => by
  have hlt := (List.getElem?_eq_some_iff.1 hk).1;have s1 := St.split (a := [p]) (b := O) st hk;obtain ⟨h1, l1, hp, s2⟩ := St.freeze (k := k) (b := p.1) (o := p.2) s1 (by rw [List.getElem?_append_left (by simpa using hlt)]; simp [List.getElem?_set_self hlt]);have e2 : (own.set k [p] ++ [O]).set k [] = own.set k [] ++ [O] := by rw [List.set_append_left _ _ (by simpa using hlt), List.set_set]
  rw [e2] at s2;obtain ⟨h2, l2, hO, s3⟩ := St.freezeAll O (k := own.length) s2 (by rw [List.getElem?_append_right (by simp)]; simp);refine ⟨h2, l1.trans l2, fun q hq => ?_, ?_⟩
  ·rcases List.mem_cons.1 hq with rfl | hq
   ·exact l2 _ _ hp
   ·exact hO q hq
  ·have s4 := s3.take own.length;have e3 : ((own.set k [] ++ [O]).set own.length []).take own.length = own.set k [] := by
    rw [List.set_append_right _ _ (by simp), List.take_append_of_le_length (by simp), List.take_of_length_le (by simp)]
   rw [e3] at s4; exact s4
theorem St.permAt {k : Nat} {O O' : List (Nat × Obj)} (st : St h0 w0 h w own) (hk : own[k]? = some O) (hp : O.Perm O') : St h0 w0 h w (own.set k O') := by
 obtain ⟨h1, h2⟩ := List.getElem?_eq_some_iff.1 hk;have hq : own.flatten.Perm (own.set k O').flatten := by
  have e : own = own.take k ++ O :: own.drop (k + 1) := by
   conv => lhs; rw [← List.take_append_drop k own, List.drop_eq_getElem_cons h1, h2]
  rw [List.set_eq_take_append_cons_drop, if_pos h1]
  conv => lhs; rw [e]
  simp only [List.flatten_append, List.flatten_cons];exact List.Perm.append_left _ (hp.append_right _)
 exact ⟨st.le, st.new, st.sub, st.below, fun p hq' => st.mine p (hq.mem_iff.2 hq'), (hq.map _).nodup_iff.1 st.nodup⟩
theorem St.pick {k : Nat} {O a b : List (Nat × Obj)} (st : St h0 w0 h w own) (hk : own[k]? = some O) (hp : O.Perm (a ++ b)) : St h0 w0 h w (own.set k b ++ [a]) := by
 have h1 := (List.getElem?_eq_some_iff.1 hk).1;have s := st.permAt hk (hp.trans List.perm_append_comm);have s2 := St.split (k := k) s (List.getElem?_set_self h1);rw [List.set_set] at s2; exact s2
theorem St.unpick {k j : Nat} {a b : List (Nat × Obj)} (st : St h0 w0 h w own) (hk : own[k]? = some b) (hj : own[j]? = some a) (hn : k < j) : St h0 w0 h w ((own.set k (b ++ a)).set j []) := by
 obtain ⟨k1, k2⟩ := List.getElem?_eq_some_iff.1 hk;obtain ⟨j1, j2⟩ := List.getElem?_eq_some_iff.1 hj;have hp : own.flatten.Perm ((own.set k (b ++ a)).set j []).flatten := by
  have e : own = own.take k ++ b :: own.drop (k + 1) := by
   conv => lhs; rw [← List.take_append_drop k own, List.drop_eq_getElem_cons k1, k2]
  have e2 : own.drop (k + 1) = (own.drop (k + 1)).take (j - (k + 1)) ++ a :: own.drop (j + 1) := by
   have hlt : j - (k + 1) < (own.drop (k + 1)).length := by rw [List.length_drop]; omega
   conv => lhs; rw [← List.take_append_drop (j - (k + 1)) (own.drop (k + 1)), List.drop_eq_getElem_cons hlt]
   rw [List.getElem_drop, List.drop_drop];congr 2
   ·rw [← j2]; congr 1; omega
   ·congr 1; omega
  have e3 : (own.set k (b ++ a)).set j [] = own.take k ++ (b ++ a) :: ((own.drop (k + 1)).take (j - (k + 1)) ++ [] :: own.drop (j + 1)) := by
   have e4 : own.set k (b ++ a) = own.take k ++ (b ++ a) :: own.drop (k + 1) := by rw [List.set_eq_take_append_cons_drop, if_pos k1]
   rw [e4];rw [List.set_append_right _ _ (by rw [List.length_take]; omega)];rw [List.length_take, Nat.min_eq_left zD];have : j - k = (j - (k + 1)) + 1 := by omega
   rw [this, List.set_cons_succ]
   conv => lhs; rw [e2]
   rw [List.set_append_right _ _ (by rw [List.length_take, List.length_drop]; omega)];rw [List.length_take, List.length_drop, Nat.min_eq_left zD, Nat.sub_self, List.set_cons_zero]
  rw [e3]
  conv => lhs; rw [e, e2]
  simp only [List.flatten_append, List.flatten_cons, List.nil_append, List.append_assoc];refine List.Perm.append_left _ (List.Perm.append_left _ ?_);rw [← List.append_assoc, ← List.append_assoc];exact List.perm_append_comm.append_right _
 exact ⟨st.le, st.new, st.sub, st.below, fun p hq => st.mine p (hp.mem_iff.2 hq), (hp.map _).nodup_iff.1 st.nodup⟩
end
section
variable {κ α : Type} [DecidableEq κ] {L : Lay α} {T : TypeId} {h h' : Heap} {m : List (κ × Value)} {ls : List (κ × List α)} {O : List (Nat × Obj)}
def NM (L : Lay α) (T : TypeId) (h : Heap) (m : List (κ × Value)) (ls : List (κ × List α)) (O : List (Nat × Obj)) : Prop := ∃ es : List (κ × List (Nat × Obj)), (es.map (·.1)).Nodup ∧
 (∀ k, (zaV m k = none ∧ zaV es k = none ∧ zaV ls k = none) ∨ ∃ v o xs, zaV m k = some v ∧ zaV es k = some o ∧ zaV ls k = some xs ∧ OSl L T h v xs o) ∧ O.Perm (es.flatMap (·.2))
theorem NM.nil : NM L T h ([] : List (κ × Value)) ([] : List (κ × List α)) [] := ⟨[], by simp, fun k => .inl ⟨rfl, rfl, rfl⟩, by simp⟩
theorem NM.up (a : NM L T h m ls O) (l : Le h h') : NM L T h' m ls O := by
 obtain ⟨es, a1, a2, a3⟩ := a;refine ⟨es, a1, fun k => ?_, a3⟩
 rcases a2 k with b | ⟨v, o, xs, b1, b2, b3, b4⟩
 ·exact .inl b
 exact .inr ⟨v, o, xs, b1, b2, b3, b4.up l⟩
theorem look_snoc {υ : Type} {l : List (κ × υ)} {k k' : κ} {u : υ} (hn : zaV l k = none) : zaV (l ++ [(k, u)]) k' = if k' = k then some u else zaV l k' := by
 have e := zeD l k k' u;rw [zdQ, if_neg (by rw [hn]; simp)] at e; exact e
theorem look_del {υ : Type} {l : List (κ × υ)} {k : κ} : zaV (zha l k) k = none := by rw [look_delM, if_pos rfl]
theorem del_perm {υ β : Type} {f : κ × υ → List β} {k : κ} {u : υ} : ∀ {l : List (κ × υ)}, (l.map (·.1)).Nodup → zaV l k = some u → (l.flatMap f).Perm (f (k, u) ++ (zha l k).flatMap f)
 | [], _, e => by cases e
 | (k', u') :: l, hn, e => by
  obtain ⟨h1, h2⟩ := List.nodup_cons.1 hn
  by_cases q : k' = k
  ·subst q;have e1 : u' = u := by simpa [zaV] using e
   subst e1;have e2 : zha ((k', u') :: l) k' = l := by
    unfold zha;rw [List.filter_cons, if_neg (by simp)];exact List.filter_eq_self.2 fun p hp => by simpa using fun z => h1 (List.mem_map.2 ⟨p, hp, z⟩)
   rw [e2, List.flatMap_cons]
  ·have e1 : zaV l k = some u := by rw [← e, zaV, zaV, List.find?_cons_of_neg (by simpa using q)]
   have e2 : zha ((k', u') :: l) k = (k', u') :: zha l k := by
    unfold zha;rw [List.filter_cons, if_pos (by simpa using q)]
   rw [e2, List.flatMap_cons, List.flatMap_cons];refine ((del_perm h2 e1).append_left _).trans ?_;rw [← List.append_assoc, ← List.append_assoc];exact List.perm_append_comm.append_right _
theorem del_nodup {υ : Type} {l : List (κ × υ)} {k : κ} (hn : (l.map (·.1)).Nodup) : ((zha l k).map (·.1)).Nodup := (List.filter_sublist.map _).nodup hn
theorem del_none {υ : Type} {l : List (κ × υ)} {k : κ} (hn : zaV l k = none) : zha l k = l := List.filter_eq_self.2 fun p hp => by simpa using look_none hn p hp
theorem snoc_nodup {υ : Type} {l : List (κ × υ)} {k : κ} {u : υ} (h1 : (l.map (·.1)).Nodup) (h2 : zaV l k = none) : ((l ++ [(k, u)]).map (·.1)).Nodup := by
 rw [List.map_append, List.nodup_append];refine ⟨h1, by simp, ?_⟩;intro a ha b hb e;subst e;simp only [List.map_cons, List.map_nil, List.mem_singleton] at hb;obtain ⟨p, hp, rfl⟩ := List.mem_map.1 ha;exact look_none h2 p hp hb
theorem NM.open (a : NM L T h m ls O) (k : κ) : ∃ v o R, v = (zaV m k).getD (.slice none 0 0) ∧ OSl L T h v ((zaV ls k).getD []) o ∧ O.Perm (o ++ R) ∧
  ∀ h' v' xs' o', Le h h' → OSl L T h' v' xs' o' → NM L T h' (zdQ m k v') (zdQ ls k xs') (R ++ o') := by
 obtain ⟨es, a1, a2, a3⟩ := a;have back : ∀ h' v' xs' o', Le h h' → OSl L T h' v' xs' o' → NM L T h' (zdQ m k v') (zdQ ls k xs') ((zha es k).flatMap (·.2) ++ o') := by
  intro h' v' xs' o' l e;refine ⟨zha es k ++ [(k, o')], snoc_nodup (del_nodup a1) look_del, fun k' => ?_, by simp⟩;rw [zeD, zeD, look_snoc look_del, look_delM]
  by_cases q : k' = k
  ·rw [if_pos q, if_pos q, if_pos q]; exact .inr ⟨_, _, _, rfl, rfl, rfl, e⟩
  ·rw [if_neg q, if_neg q, if_neg q, if_neg q]
   rcases a2 k' with b | ⟨v, o, xs, b1, b2, b3, b4⟩
   ·exact .inl b
   ·exact .inr ⟨v, o, xs, b1, b2, b3, b4.up l⟩
 rcases a2 k with ⟨b1, b2, b3⟩ | ⟨v, o, xs, b1, b2, b3, b4⟩
 ·refine ⟨_, [], _, rfl, ?_, ?_, back⟩
  ·rw [b1, b3]; exact OSl.nil L T h
  ·rw [del_none b2]; simpa using a3
 ·refine ⟨_, o, _, rfl, ?_, ?_, back⟩
  ·rw [b1, b3]; exact b4
  ·exact a3.trans (del_perm a1 b2)
theorem NM.freeze {h0 : Heap} {w0 w : World} {own : Own} {k : Nat} (a : NM L T h m ls O) (st : St h0 w0 h w own) (hk : own[k]? = some O) (hb : ∀ k xs, zaV ls k = some xs → xs.length ≤ 281474976710656) :
  ∃ h', Le h h' ∧ (∀ k v, zaV m k = some v → Sl L h' v ((zaV ls k).getD [])) ∧ St h0 w0 h' w (own.set k []) := by
 obtain ⟨h1, l1, hO, s1⟩ := st.freezeAll O hk;obtain ⟨es, a1, a2, a3⟩ := a;refine ⟨h1, l1, fun k v hv => ?_, s1⟩
 rcases a2 k with ⟨b1, _⟩ | ⟨v', o, xs, b1, b2, b3, b4⟩
 ·rw [b1] at hv; cases hv
 ·rw [b1] at hv; cases hv;rw [b3];refine b4.asSl l1 (fun p hp => hO p (a3.mem_iff.2 ?_)) (hb k xs b3);obtain ⟨q, hq, e⟩ : ∃ q ∈ es, q = (k, o) := by
   rw [zaV, Option.map_eq_some_iff] at b2;obtain ⟨q, q1, q2⟩ := b2;have q3 := List.find?_some q1;refine ⟨q, List.mem_of_find?_eq_some q1, ?_⟩;rw [← q2, ← of_decide_eq_true q3]
  subst e;exact List.mem_flatMap.2 ⟨_, hq, hp⟩
end
end Go.Pk

namespace Go.Pk
open Go Go.RowKit
theorem St.nilmid {h0 h : Heap} {w0 w : World} {A rest : Own} (st : St h0 w0 h w (A ++ [] :: rest)) : St h0 w0 h w (A ++ rest) := by
 have e : (A ++ [] :: rest).flatten = (A ++ rest).flatten := by simp
 exact ⟨st.le, st.new, st.sub, st.below, fun p hp => st.mine p (by rw [e]; exact hp), by rw [← e]; exact st.nodup⟩
structure KeyG {κ : Type} [DecidableEq κ] (P : Program) (kt : TypeId) (ek : κ → Value) : Prop extends KeyF P kt ek where
 stays : ∀ k, Instr.sameBits 10000 (ek k) (ek k) = true
def zhy (p : Place) : Value := .agg [.int .i64 p.chapter, .int .i64 p.line, .int .i64 p.word].toArray
theorem place_stays (p : Place) : Instr.sameBits 10000 (zhy p) (zhy p) = true := by
 rw [show (10000 : Nat) = 9999 + 1 from rfl];simp [zhy, Instr.sameBits]
theorem eq_of_bin {P : Program} {t : TypeId} {a b : Value} {d : Bool} {w : World} (h : (binOp .eql t a b).run P w = .ok (.bool d) w) (hs : ∀ u, (binOp .eql t a b).run P u = ((Op.equal t a b).run P u).andThen fun x u' => .ok (.bool x) u') : (Op.equal t a b).run P w = .ok d w := by
 rw [hs w] at h;cases e : (Op.equal t a b).run P w with
 | ok x u =>
  rw [e] at h;simp only [Result.andThen_ok, Result.ok.injEq, Value.bool.injEq] at h;rw [h.1, h.2]
 | _ => rw [e] at h; simp [Result.andThen] at h
theorem place_key {P : Program} {kt : TypeId} {fs : Array Field} (hu : P.underlying kt = some (.struct fs)) (he : ∀ (x y : Place) (w : World), (binOp .eql kt (zhy x) (zhy y)).run P w = .ok (.bool (decide (x = y))) w) (hc : ∀ b k w, (Instr.checkKey b 10000 kt (zhy k)).run P w = .ok () w) : KeyG P kt zhy where
 eq := fun a b w => eq_of_bin (he a b w) fun u => run_eql_struct _ _ _ _
 now := fun a b w => ⟨_, hu, rfl⟩
 check := hc
 stays := place_stays
theorem place_check {P : Program} {kt e_ : TypeId} {f0 f1 f2 : Field} (hu : P.underlying kt = some (.struct #[f0, f1, f2])) (he : P.underlying e_ = some (.int .i64)) (ha : ∀ w, (isAgg e_).run P w = .ok false w) (h0 : (f0.name, f0.type, f0.offset) = (f0.name, e_, 0)) (h1 : (f1.name, f1.type, f1.offset) = (f1.name, e_, 1)) (h2 : (f2.name, f2.type, f2.offset) = (f2.name, e_, 2))
  (b : Bool) (k : Place) (w : World) : (Instr.checkKey b 10000 kt (zhy k)).run P w = .ok () w := by
 simp only [Prod.mk.injEq, true_and] at h0 h1 h2
 rcases k with ⟨x, y, z⟩
 rw [show (10000 : Nat) = 9998 + 1 + 1 from rfl, Instr.checkKey];have p1 : ∀ (n : Nat) (xs : Array Value) (v : Value), xs[n]? = some v → (part e_ xs n).run P w = .ok v w := by
  intro n xs v h;simp [part, ha, h]
 have q : ∀ (x : Int), (Instr.checkKey b (9998 + 1) e_ (.int .i64 x)).run P w = .ok () w := by
  intro x;rw [Instr.checkKey];simp [run_underlying he]
 have e0 := p1 0 [.int .i64 x, .int .i64 y, .int .i64 z].toArray (.int .i64 x) rfl;have e1 := p1 1 [.int .i64 x, .int .i64 y, .int .i64 z].toArray (.int .i64 y) rfl;have e2 := p1 2 [.int .i64 x, .int .i64 y, .int .i64 z].toArray (.int .i64 z) rfl;simp only [Sem.run_bind, run_underlying hu, Result.andThen_ok, zhy];rw [← Array.forIn_toList];simp only [List.forIn_cons, List.forIn_nil, h0, h1, h2]
 by_cases n0 : f0.name ≠ "_" <;> by_cases n1 : f1.name ≠ "_" <;> by_cases n2 : f2.name ≠ "_" <;> simp_all
section
variable {κ υ : Type} {ek : κ → Value} {eu : υ → Value}
variable {P : Program} {n : Nat} {ops : Array Oper} {rest : List Oper} {K : Env → World → Prop} {σ : Env} {w w0 : World} {h0 h : Heap} {own : Own} {ty : TypeId} {pos : String} {aft : Array Edge} {d : Nat}
def OME [DecidableEq κ] (ek : κ → Value) (eu : υ → Value) (m : List (κ × υ)) (o : List (Nat × Obj)) (v : Value) (k : κ) (c : Nat) : Prop :=
 ∃ (b : Nat) (es : Array MapEntry) (clock j : Nat) (e : MapEntry), o = [(b, .map es clock)] ∧ v = .map (some b) ∧ Ent ek eu es.toList m ∧ (∀ e ∈ es.toList, e.born < clock) ∧ (es.toList.map (·.born)).Nodup ∧ es.toList[j]? = some e ∧ e.born = c ∧ (m[j]?).map Prod.fst = some k
theorem Ent.getP : ∀ {es : List MapEntry} {m : List (κ × υ)} {j : Nat} {p : κ × υ}, Ent ek eu es m → m[j]? = some p → ∃ e, es[j]? = some e ∧ e.key = ek p.1 ∧ e.val = eu p.2
 | e :: es, p :: m, 0, q, h, hp => by simp at hp; subst hp; exact ⟨e, rfl, h.1, h.2.1⟩
 | e :: es, p :: m, j + 1, q, h, hp => by
  obtain ⟨e', a, b⟩ := Ent.getP h.2.2 (by simpa using hp);exact ⟨e', by simpa using a, b⟩
 | [], [], _, _, _, hp => by simp at hp
 | [], _ :: _, _, _, h, _ => h.elim
 | _ :: _, [], _, _, h, _ => h.elim
theorem asking_at [DecidableEq κ] {kt : TypeId} (hK : KeyF P kt ek) {k : κ} (w : World) {v : υ} : ∀ {es : List MapEntry} {m : List (κ × υ)} (i : Nat), Ent ek eu es m → zaV m k = some v → ∃ j, (Instr.findAsking kt (ek k) es i).run P w = .ok (some (i + j, eu v)) w ∧ m[j]? = some (k, v)
 | [], [], _, _, hl => by cases hl
 | e :: es, p :: m, i, h, hl => by
  by_cases hne : p.1 = k
  ·simp only [zaV, List.find?_cons, hne, decide_true, Option.map_some, Option.some.injEq] at hl;have e1 := hK.eq k p.1 w;rw [decide_eq_true hne.symm] at e1;exact ⟨0, by simp [Instr.findAsking, h.1, e1, h.2.1, hl], by simp [← hne, ← hl]⟩
  ·have hl' : zaV m k = some v := by simpa only [zaV, List.find?_cons, hne, decide_false] using hl
   obtain ⟨j, hj, hm⟩ := asking_at hK w (i + 1) h.2.2 hl';have e1 := hK.eq k p.1 w;rw [decide_eq_false (fun e => hne e.symm)] at e1;refine ⟨j + 1, ?_, by simpa using hm⟩;rw [show i + (j + 1) = i + 1 + j by omega];simp [Instr.findAsking, h.1, e1, hj]
 | [], _ :: _, _, h, _ => h.elim
 | _ :: _, [], _, h, _ => h.elim
theorem findG [DecidableEq κ] {kt : TypeId} (hK : KeyF P kt ek) {k : κ} (w : World) {v : υ} {es : List MapEntry} {m : List (κ × υ)} (h : Ent ek eu es m) (hl : zaV m k = some v) : ∃ j, (Instr.findKey kt (ek k) es).run P w = .ok (some (j, eu v)) w ∧ m[j]? = some (k, v) := by
 obtain ⟨kind, hu, hn⟩ := hK.now k k w;cases es with
 | nil =>
  cases m with
  | nil => cases hl
  | cons _ _ => exact h.elim
 | cons e es =>
  cases m with
  | nil => exact h.elim
  | cons p m =>
   obtain ⟨kind', hu', hn'⟩ := hK.now k p.1 w;obtain rfl := Option.some.inj (hu.symm.trans hu');have e1 : Instr.findNow kind (ek k) (e :: es) 0 = none := by simp [Instr.findNow, h.1, hn']
   obtain ⟨j, hj, hm⟩ := asking_at hK w 0 h hl;rw [Nat.zero_add] at hj;exact ⟨j, by simp only [Instr.findKey, Sem.run_bind, run_underlying hu, Result.andThen_ok, e1, hj], hm⟩
theorem findN [DecidableEq κ] {kt : TypeId} (hK : KeyF P kt ek) {k : κ} (w : World) {es : List MapEntry} {m : List (κ × υ)} (h : Ent ek eu es m) (hl : zaV m k = none) : (Instr.findKey kt (ek k) es).run P w = .ok none w := by
 obtain ⟨j, hf⟩ := findF hK (k := k) w h;rw [hl] at hf; exact hf
def entM [DecidableEq κ] (m : List (κ × υ)) (k : κ) (z : υ) : List (κ × υ) := if (zaV m k).isSome then m else m ++ [(k, z)]
theorem look_entM [DecidableEq κ] {m : List (κ × υ)} {k : κ} {z : υ} (k' : κ) : zaV (entM m k z) k' = if k' = k then some ((zaV m k).getD z) else zaV m k' := by
 unfold entM;cases e : zaV m k with
 | none => rw [if_neg (by simp), look_snoc e]; rfl
 | some v =>
  rw [if_pos (by simp)];split
  ·rename_i q; rw [q, e]; rfl
  ·rfl
theorem OpsL.mapEntry [DecidableEq κ] {t kt et : TypeId} {x y : Operand} {m : List (κ × υ)} {o : List (Nat × Obj)} {v zv : Value} {k : κ} {zu : υ} {i : Nat} (st : St h0 w0 h w own) (hM : OM ek eu m o v) (hi : own[i]? = some o) (hn : (m.map (·.1)).Nodup) (hK : KeyG P kt ek) (ht : P.underlying t = some (.map kt et))
  (hz : ∀ w, (zeroValue et).run P w = .ok zv w) (hzu : zv = eu zu) (hx : ev σ x = v) (hy : ev σ y = ek k) (hd : Nat.blt d n = true)
  (hk : ∀ o' w' c own', own' = own.set i o' → OME ek eu (entM m k zu) o' v k c → ((entM m k zu).map (·.1)).Nodup → St h0 w0 h w' own' → OpsL P n ops rest K (upd σ d (.tuple #[eu ((zaV m k).getD zu), .int .i64 (c : Int)])) w') :
  OpsL P n ops (⟨some d, .mapEntry t x y, ty, pos, aft, none⟩ :: rest) K σ w := by
 obtain ⟨b, es, clock, rfl, rfl, hE, hB, hD⟩ := hM;have hb := st.get hi;have hg : (getObj b).run P w = .ok (.map es clock) w := by simp [getObj, Sem.run, hb]
 have hset : ∀ es' c', (setObj b (.map es' c')).run P w = .ok () { w with heap := w.heap.setIfInBounds b (.map es' c') } := by
  intro es' c';simp [setObj, Sem.run, hb]
 have hc := hK.check false k w;subst hzu;cases hl : zaV m k with
 | none =>
  have hf := findN hK.toKeyF (k := k) w hE hl;have hp : entM m k zu = m ++ [(k, zu)] := by simp [entM, hl]
  have hlen := hE.len;rw [hl] at hk;refine Z rfl hd (w' := { w with heap := w.heap.setIfInBounds b (.map (es.push { key := ek k, val := eu zu, born := clock }) (clock + 1)) }) ?_ (hk _ _ clock _ rfl ⟨b, es.push { key := ek k, val := eu zu, born := clock }, clock + 1, m.length, { key := ek k, val := eu zu, born := clock }, rfl, rfl, ?_, ?_, ?_, ?_, rfl, ?_⟩ ?_ (st.set _ hi))
  ·simp only [Run, execOp, hx, hy, Instr.mapEntry, Sem.run_bind, run_underlying ht, Result.andThen_ok, hg, hc, hf, hz, hset, Sem.run_pure];rfl
  ·rw [hp, Array.toList_push]; exact hE.snoc rfl rfl
  ·intro e he;rw [Array.toList_push, List.mem_append] at he
   rcases he with he | he
   ·exact Nat.lt_succ_of_lt (hB e he)
   ·simp at he; subst he; exact Nat.lt_succ_self _
  ·rw [Array.toList_push, List.map_append, List.nodup_append];refine ⟨hD, by simp, fun a ha c hc' => ?_⟩;simp at hc';subst hc';obtain ⟨e, he, rfl⟩ := List.mem_map.1 ha;exact Nat.ne_of_lt (hB e he)
  ·rw [Array.toList_push, ← hlen, List.getElem?_append_right (Nat.le_refl _)]; simp
  ·rw [hp]; simp
  ·rw [hp]; exact snoc_nodup hn hl
 | some u =>
  obtain ⟨j, hf, hm⟩ := findG hK.toKeyF (k := k) w hE hl;obtain ⟨e, he, he1, he2⟩ := hE.getP hm;have hp : entM m k zu = m := by simp [entM, hl]
  have hje : es[j]? = some e := by simpa using he
  have hsame : es.modify j (fun e' => { e' with key := ek k }) = es := by
   apply Array.ext';rw [Array.toList_modify];refine List.ext_getElem? fun q => ?_;rw [List.getElem?_modify]
   by_cases hq : j = q
   ·subst hq;rw [he]; simp [he1]; exact he1.symm ▸ rfl
   ·simp [hq]
  rw [hl] at hk;refine Z rfl hd (w' := { w with heap := w.heap.setIfInBounds b (.map es clock) }) ?_ (hk _ _ e.born _ rfl ⟨b, es, clock, j, e, rfl, rfl, by rw [hp]; exact hE, hB, hD, he, rfl, by rw [hp, hm]; rfl⟩ (by rw [hp]; exact hn) (st.set _ hi));have hst : (Instr.keyThatStays (ek k) (ek k)).run P w = .ok (ek k) w := by simp [Instr.keyThatStays, hK.stays k]
  simp only [Run, execOp, hx, hy, Instr.mapEntry, Sem.run_bind, run_underlying ht, Result.andThen_ok, hg, hc, hf, hje, Option.map_some, Option.getD_some, he1, hst, hsame, hset, Sem.run_pure];rfl
theorem OpsL.entryStore [DecidableEq κ] {t : TypeId} {x y z : Operand} {m : List (κ × υ)} {o : List (Nat × Obj)} {v : Value} {k : κ} {u : υ} {i c : Nat} (st : St h0 w0 h w own) (hM : OME ek eu m o v k c) (hi : own[i]? = some o) (hn : (m.map (·.1)).Nodup)
  (hx : ev σ x = v) (hy : ev σ y = .int .i64 (c : Int)) (hz : ev σ z = eu u)
  (hk : ∀ o' w' own', own' = own.set i o' → OM ek eu (zdQ m k u) o' v → ((zdQ m k u).map (·.1)).Nodup → St h0 w0 h w' own' → OpsL P n ops rest K σ w') :
  OpsL P n ops (⟨none, .entryStore t x y z, ty, pos, aft, none⟩ :: rest) K σ w := by
 obtain ⟨b, es, clock, j, e, rfl, rfl, hE, hB, hD, he, rfl, hm⟩ := hM;have hb := st.get hi;have hg : (getObj b).run P w = .ok (.map es clock) w := by simp [getObj, Sem.run, hb]
 have hset : ∀ es' c', (setObj b (.map es' c')).run P w = .ok () { w with heap := w.heap.setIfInBounds b (.map es' c') } := by
  intro es' c';simp [setObj, Sem.run, hb]
 obtain ⟨⟨k', u0⟩, hmj, e9⟩ := Option.map_eq_some_iff.1 hm;obtain rfl : k' = k := e9;obtain ⟨e', he', hk1, _⟩ := hE.getP hmj;obtain rfl : e' = e := Option.some.inj (he'.symm.trans he);have hidx : es.findIdx? (fun x => ((x.born : Nat) : Int) == ((e'.born : Nat) : Int)) = some j := by
  rw [WideElems.findIdx_arr]; exact WideElems.findIdx_born hD he
 have hl : (zaV m k').isSome = true := by
  rw [zaV, Option.isSome_map, List.find?_isSome];exact ⟨_, List.mem_of_getElem? hmj, by simp⟩
 have hp : zdQ m k' u = m.map fun p => if p.1 = k' then (k', u) else p := by rw [zdQ, if_pos hl]
 have hmod : es.modify j (fun x => { x with val := eu u }) = es.modify j (fun x => { x with key := ek k', val := eu u }) := by
  apply Array.ext';rw [Array.toList_modify, Array.toList_modify];refine List.ext_getElem? fun q => ?_;rw [List.getElem?_modify, List.getElem?_modify]
  by_cases hq : j = q
  ·subst hq;rw [he]; simp [hk1]
  ·simp [hq]
 refine zij rfl rfl (w' := { w with heap := w.heap.setIfInBounds b (.map (es.modify j fun x => { x with key := ek k', val := eu u }) clock) }) ?_ (hk _ _ _ rfl ⟨b, es.modify j fun x => { x with key := ek k', val := eu u }, clock, rfl, rfl, ?_, ?_, ?_⟩ ?_ (st.set _ hi))
 ·simp only [execOp, hx, hy, hz, Instr.entryStore, Sem.run_bind, Result.andThen_ok, hg, asInt, asIntOf, Sem.run_pure, hidx, hset, hmod]
 ·rw [hp, Array.toList_modify]; exact hE.modify hn hmj
 ·intro x hx';rw [Array.toList_modify] at hx';obtain ⟨q, hq⟩ := List.mem_iff_getElem?.1 hx';rw [List.getElem?_modify] at hq;cases e3 : es.toList[q]? with
  | none => rw [e3] at hq; simp at hq
  | some y =>
   rw [e3] at hq;have := hB y (List.mem_of_getElem? e3)
   by_cases q9 : j = q
   ·simp [q9] at hq; rw [← hq]; exact this
   ·simp [q9] at hq; rw [← hq]; exact this
 ·have : (es.modify j fun x => { x with key := ek k', val := eu u }).toList.map (·.born) = es.toList.map (·.born) := by
   rw [Array.toList_modify];refine List.ext_getElem? fun q => ?_;rw [List.getElem?_map, List.getElem?_map, List.getElem?_modify];cases e3 : es.toList[q]? with
   | none => rfl
   | some y => by_cases q9 : j = q <;> simp [q9]
  rw [this]; exact hD
 ·have : (zdQ m k' u).map (·.1) = m.map (·.1) := by
   rw [hp, List.map_map];refine List.map_congr_left fun p _ => ?_
   by_cases q : p.1 = k'
   ·simp [q]
   ·simp [q]
  rw [this]; exact hn
end
end Go.Pk

namespace Go.Pk
open Go Go.RowKit
section
variable {P : Program} {n : Nat} {t : TypeId}
def Chk (P : Program) (n : Nat) (t : TypeId) (v : Value) : Prop := ∀ b w, (Instr.checkKey b n t v).run P w = .ok () w
theorem part_one {cs : Array Value} {off : Nat} {v : Value} (ha : ∀ w, (isAgg t).run P w = .ok false w) (h : cs[off]? = some v) (w : World) : (part t cs off).run P w = .ok v w := by simp [part, ha, h]
theorem Chk.int {ik k : IntKind} {x : Int} (hu : P.underlying t = some (.int ik)) : Chk P (n + 1) t (.int k x) := by
 intro b w;rw [Instr.checkKey];simp [run_underlying hu]
theorem Chk.str {s : Str} (hu : P.underlying t = some .string) : Chk P (n + 1) t (zx s) := by
 intro b w;rw [Instr.checkKey];simp [run_underlying hu, zx]
theorem Chk.struct {fs : Array Field} {cs : Array Value} (hu : P.underlying t = some (.struct fs)) (h : ∀ f ∈ fs.toList, ∃ v, (∀ w, (part f.type cs f.offset).run P w = .ok v w) ∧ Chk P n f.type v) : Chk P (n + 1) t (.agg cs) := by
 intro b w;rw [Instr.checkKey];simp only [Sem.run_bind, run_underlying hu, Result.andThen_ok];rw [← Array.forIn_toList];generalize fs.toList = l at h
 induction l with
 | nil => simp
 | cons f l ih =>
  obtain ⟨v, h1, h2⟩ := h f (by simp);have ih := ih (fun g hg => h g (by simp [hg]));have h2 := h2 b w;simp only [List.forIn_cons]
  by_cases n0 : f.name ≠ "_" <;> simp_all
theorem st_key {κ : Type} [DecidableEq κ] {kt : TypeId} {ek : κ → Array Value} {fs : Array Field} (hu : P.underlying kt = some (.struct fs)) (he : ∀ (x y : κ) (w : World), (binOp .eql kt (.agg (ek x)) (.agg (ek y))).run P w = .ok (.bool (decide (x = y))) w) (hc : ∀ k, Chk P 10000 kt (.agg (ek k))) (hs : ∀ k, Instr.sameBits 10000 (.agg (ek k)) (.agg (ek k)) = true) : KeyG P kt (fun k => .agg (ek k)) where
 eq := fun a b w => eq_of_bin (he a b w) fun u => run_eql_struct _ _ _ _
 now := fun a b w => ⟨_, hu, rfl⟩
 check := fun b k w => hc k b w
 stays := hs
end
structure Pair where
 a : Int
 b : Int
 deriving DecidableEq
structure Trip where
 a : Int
 b : Int
 c : Int
 deriving DecidableEq
def pairV (s : Pair) : Value := .agg [.int .i64 s.a, .int .i64 s.b].toArray
def tripV (s : Trip) : Value := .agg [.int .i64 s.a, .int .i64 s.b, .int .i64 s.c].toArray
section
variable {P : Program} {kt e_ : TypeId} (he : P.underlying e_ = some (.int .i64)) (ha : ∀ w, (isAgg e_).run P w = .ok false w) (hz : ∀ w, (sizeOf e_).run P w = .ok 1 w)
include he ha hz
end
end Go.Pk

namespace Go.Pk
open Go Go.RowKit
def zdc (x : Lexicon) : List Decision := x.decisions.mergeSort fun a b => decide (b.number ≤ a.number)
def zfw (d : Decision) : Int × Decision := (d.number, d)
def zcL (x : Lexicon) : List (Int × Decision) := ((zdc x).filter (zdd x)).map zfw
def OkD (x : Lexicon) : Prop := (x.decisions.map (·.number)).Nodup ∧ ∀ v ∈ x.decisions, 1 ≤ v.number ∧ v.number ≤ 999 ∧ (v.kind = 4 → v.of_ < v.number)
theorem zdB (x : Lexicon) : (zdc x).Perm x.decisions := List.mergeSort_perm _ _
theorem downD_sorted (x : Lexicon) : (zdc x).Pairwise fun a b => b.number ≤ a.number := by
 have h := List.pairwise_mergeSort (le := fun a b : Decision => decide (b.number ≤ a.number)) (by intro a b c h1 h2; simp at *; omega) (by intro a b; simp; omega) x.decisions;exact h.imp (fun h => by simpa using h)
theorem nodup_key {α : Type} {f : α → Int} {xs : List α} (hn : (xs.map f).Nodup) {a b : α} (ha : a ∈ xs) (hb : b ∈ xs) (e : f a = f b) : a = b := by
 obtain ⟨i, hi⟩ := List.mem_iff_getElem?.1 ha;obtain ⟨j, hj⟩ := List.mem_iff_getElem?.1 hb
 rcases Nat.lt_trichotomy i j with h | h | h
 ·exact absurd hn (zja hi hj h e)
 ·subst h; rw [hi] at hj; exact Option.some.inj hj
 exact absurd hn (zja hj hi h e.symm)
theorem downD_eq {x : Lexicon} {ys : List Decision} (hp : ys.Perm x.decisions) (hs : ys.Pairwise fun a b => ¬ a.number - b.number < 0) (hn : (x.decisions.map (·.number)).Nodup) : ys = zdc x := by
 refine List.Perm.eq_of_pairwise (le := fun a b : Decision => b.number ≤ a.number) ?_ (hs.imp (fun h => by omega)) (downD_sorted x) (hp.trans (zdB x).symm);intro a b ha hb h1 h2;exact nodup_key hn (hp.mem_iff.1 ha) ((zdB x).mem_iff.1 hb) zD
theorem ziz {x : Lexicon} (hn : (x.decisions.map (·.number)).Nodup) : ((zdc x).map (·.number)).Nodup := ((zdB x).map _).nodup_iff.2 hn
theorem putM_new {κ υ : Type} [DecidableEq κ] {m : List (κ × υ)} {k : κ} {u : υ} (h : zaV m k = none) : zdQ m k u = m ++ [(k, u)] := by simp [zdQ, h]
theorem look_pair {l : List Decision} {n : Int} (hn : (l.map (·.number)).Nodup) {d : Decision} : zaV (l.map zfw) n = some d ↔ d ∈ l ∧ d.number = n := by
 induction l with
 | nil => simp [zaV]
 | cons e l ih =>
  simp only [List.map_cons, List.nodup_cons] at hn;have ih := ih hn.2;simp only [zaV, List.map_cons, List.find?_cons, zfw] at ih ⊢
  by_cases h : e.number = n
  ·simp only [h, decide_true, Option.map_some, Option.some.injEq, List.mem_cons];constructor
   ·rintro rfl; exact ⟨.inl rfl, h⟩
   ·rintro ⟨rfl | h1, h2⟩
    ·rfl
    ·exact absurd (List.mem_map.2 ⟨d, h1, h2.trans h.symm⟩) hn.1
  ·simp only [h, decide_false, List.mem_cons];rw [ih];constructor
   ·rintro ⟨h1, h2⟩; exact ⟨.inr h1, h2⟩
   ·rintro ⟨rfl | h1, h2⟩
    ·exact absurd h2 h
    ·exact ⟨h1, h2⟩
theorem look_pair_none {l : List Decision} {n : Int} (h : n ∉ l.map (·.number)) : zaV (l.map zfw) n = none := by
 simp only [zaV, Option.map_eq_none_iff, List.find?_eq_none];intro p hp;obtain ⟨d, hd, rfl⟩ := List.mem_map.1 hp;intro e;have e' : d.number = n := of_decide_eq_true e;exact h (e' ▸ List.mem_map_of_mem hd)
theorem map_fill {l : List Decision} {k : Nat} {d : Decision} (hn : (l.map (·.number)).Nodup) (hd : l[k]? = some d) : zdQ ((l.take k).map zfw) d.number d = (l.take (k + 1)).map zfw := by
 rw [putM_new (look_pair_none ?_), zbf hd, List.map_append]
 ·rfl
 intro h;exact ziM (f := (·.number)) hd h hn
def zgm (x : Lexicon) (k : Nat) (d : Decision) : Bool := ((zdc x).take k).all fun v => !(decide (v.kind = 4) && decide (v.of_ = d.number) && zdd x v)
theorem standsB_eq {x : Lexicon} (hx : OkD x) {d : Decision} (hd : 1 ≤ d.number) : zdd x d = x.decisions.all fun v => !(decide (v.kind = 4) && decide (v.of_ = d.number) && zdd x v) := by
 have hv : ∀ v ∈ x.decisions, v.number ≤ 999 ∧ (v.kind = 4 → v.of_ < v.number) := fun v h => (hx.2 v h).2;unfold zdd;rw [standsF_eq hv zD];rw [Bool.eq_iff_iff, List.all_eq_true, List.all_eq_true];refine forall_congr' fun v => forall_congr' fun hm => ?_;have h1 := (hx.2 v hm).1;have e : zeU x (1000 - 1) v = zeU x 1000 v := by
  rw [standsF_eq hv (show 999 < v.number + ((1000 - 1 : Nat) : Int) by omega), standsF_eq hv (show 999 < v.number + ((1000 : Nat) : Int) by omega)]
  -- both say the same of what makes v void
  rw [Bool.eq_iff_iff, List.all_eq_true, List.all_eq_true];refine forall_congr' fun u => forall_congr' fun hu => ?_
  by_cases hk : u.kind = 4
  ·by_cases ho : u.of_ = v.number
   ·have h2 := (hx.2 u hu).2.2 hk;have : zeU x (1000 - 1 - 1) u = zeU x (1000 - 1) u := by
     have h3 : 2 ≤ u.number := by omega
     have key : ∀ (n m : Nat) (w : Decision), 999 < w.number + (n : Int) → 999 < w.number + (m : Int) → zeU x n w = zeU x m w := by
      intro n
      induction n with
      | zero =>
       intro m w hw hm';cases m with
       | zero => rfl
       | succ m =>
        simp only [zeU]
        symm
        rw [List.all_eq_true];intro y hy;have hy' := hx.2 y hy
        by_cases hk' : y.kind = 4
        ·have : ¬ y.of_ = w.number := by have := hy'.2.2 hk'; omega
         simp [this]
        ·simp [hk']
      | succ n ih =>
       intro m w hw hm';cases m with
       | zero =>
        simp only [zeU];rw [List.all_eq_true];intro y hy;have hy' := hx.2 y hy
        by_cases hk' : y.kind = 4
        ·have : ¬ y.of_ = w.number := by have := hy'.2.2 hk'; omega
         simp [this]
        ·simp [hk']
       | succ m =>
        simp only [zeU];rw [Bool.eq_iff_iff, List.all_eq_true, List.all_eq_true];refine forall_congr' fun y => forall_congr' fun hy => ?_;have hy' := hx.2 y hy
        by_cases hk' : y.kind = 4
        ·by_cases ho' : y.of_ = w.number
         ·have := hy'.2.2 hk';rw [ih m y zD zD]
         ·simp [ho']
        ·simp [hk']
     exact key _ _ u zD zD
    simp only [voids, this]
   ·simp [voids, ho]
  ·simp [voids, hk]
 simp only [voids, e]
theorem leftK_at {x : Lexicon} (hx : OkD x) {k : Nat} {d : Decision} (hd : (zdc x)[k]? = some d) : zgm x k d = zdd x d := by
 have hm : d ∈ x.decisions := (zdB x).mem_iff.1 (List.mem_of_getElem? hd);rw [standsB_eq hx (hx.2 d hm).1];rw [Bool.eq_iff_iff, zgm, List.all_eq_true, List.all_eq_true];constructor
 ·intro h v hv
  by_cases hk : v.kind = 4
  ·by_cases ho : v.of_ = d.number
   ·have h1 := (hx.2 v hv).2.2 hk;obtain ⟨j, hj⟩ := List.mem_iff_getElem?.1 ((zdB x).mem_iff.2 hv);have hjk : j < k := by
     rcases Nat.lt_or_ge j k with h2 | h2
     ·exact h2
     ·rcases Nat.eq_or_lt_of_le h2 with h3 | h3
      ·subst h3; rw [hj] at hd; cases hd; omega
      ·obtain ⟨a1, a2⟩ := List.getElem?_eq_some_iff.1 hd;obtain ⟨b1, b2⟩ := List.getElem?_eq_some_iff.1 hj;have := List.pairwise_iff_getElem.1 (downD_sorted x) k j a1 b1 h3;rw [a2, b2] at this; omega
    exact h v (List.mem_of_getElem? (by rw [List.getElem?_take, if_pos hjk]; exact hj))
   ·simp [ho]
  ·simp [hk]
 intro h v hv;exact h v ((zdB x).mem_iff.1 (List.mem_of_mem_take hv))
theorem leftK_zero (x : Lexicon) : ((zdc x).filter (zgm x 0)).map zfw = (zdc x).map zfw := by
 congr 1;rw [List.filter_eq_self];intro d _; simp [zgm]
theorem leftK_end {x : Lexicon} (hx : OkD x) : ((zdc x).filter (zgm x (zdc x).length)).map zfw = zcL x := by
 unfold zcL;congr 1;apply List.filter_congr;intro d hd;have hm : d ∈ x.decisions := (zdB x).mem_iff.1 hd;rw [standsB_eq hx (hx.2 d hm).1, zgm, List.take_length, Bool.eq_iff_iff, List.all_eq_true, List.all_eq_true];exact ⟨fun h v hv => h v ((zdB x).mem_iff.2 hv), fun h v hv => h v ((zdB x).mem_iff.1 hv)⟩
theorem zhM {x : Lexicon} (hx : OkD x) (p : Decision → Bool) : (((zdc x).filter p).map (·.number)).Nodup := (List.filter_sublist.map _).nodup (ziz hx.1)
theorem look_left {x : Lexicon} (hx : OkD x) {k : Nat} {d : Decision} (hd : (zdc x)[k]? = some d) : (zaV (((zdc x).filter (zgm x k)).map zfw) d.number).isSome = zdd x d := by
 rw [← leftK_at hx hd];have hm := List.mem_of_getElem? hd;cases h : zgm x k d with
 | true =>
  have := (look_pair (zhM hx (zgm x k))).2 ⟨List.mem_filter.2 ⟨hm, h⟩, rfl⟩;rw [this]; rfl
 | false =>
  cases hl : zaV (((zdc x).filter (zgm x k)).map zfw) d.number with
  | none => rfl
  | some e =>
   obtain ⟨h1, h2⟩ := (look_pair (zhM hx (zgm x k))).1 hl;have h3 := List.mem_filter.1 h1;have : e = d := nodup_key (ziz hx.1) h3.1 hm h2;subst this;rw [h] at h3; cases h3.2
theorem leftK_succ {x : Lexicon} {k : Nat} {d e : Decision} (hd : (zdc x)[k]? = some d) : zgm x (k + 1) e = (zgm x k e && !(decide (d.kind = 4) && decide (d.of_ = e.number) && zdd x d)) := by
 simp only [zgm, zbf hd, List.all_append, List.all_cons, List.all_nil, Bool.and_true]
theorem map_void {x : Lexicon} {k : Nat} {d : Decision} (hd : (zdc x)[k]? = some d) (h : d.kind = 4 ∧ zdd x d = true) :
  zha (((zdc x).filter (zgm x k)).map zfw) d.of_ = ((zdc x).filter (zgm x (k + 1))).map zfw := by
 rw [zha, List.filter_map, List.filter_filter];congr 1;apply List.filter_congr;intro e _;rw [leftK_succ hd, h.1, h.2];simp only [Function.comp, zfw, decide_true, Bool.and_true, Bool.true_and];rw [Bool.and_comm];congr 2;exact decide_eq_decide.2 eq_comm
theorem map_stay {x : Lexicon} {k : Nat} {d : Decision} (hd : (zdc x)[k]? = some d) (h : ¬ (d.kind = 4 ∧ zdd x d = true)) :
  ((zdc x).filter (zgm x k)).map zfw = ((zdc x).filter (zgm x (k + 1))).map zfw := by
 congr 1;apply List.filter_congr;intro e _;rw [leftK_succ hd]
 by_cases h1 : d.kind = 4
 ·have h2 : zdd x d = false := by
   cases q : zdd x d with
   | false => rfl
   | true => exact absurd ⟨h1, q⟩ h
  simp [h2]
 ·simp [h1]
theorem zjl {x : Lexicon} {p : Int × Decision} (h : p ∈ zcL x) : p.2 ∈ x.decisions ∧ p.1 = p.2.number ∧ zdd x p.2 = true := by
 obtain ⟨d, hd, rfl⟩ := List.mem_map.1 h;obtain ⟨h1, h2⟩ := List.mem_filter.1 hd;exact ⟨(zdB x).mem_iff.1 h1, rfl, h2⟩
theorem zdH {t : Text} {x : Lexicon} (h : zan t x = 0) : OkD x := by
 have h1 := lexicon_v h;have h2 := lexicon_v1 h;refine ⟨?_, fun v hv => ⟨h2 v hv, h1 v hv⟩⟩;unfold zan at h;split at h
 ·cases h
 split at h
 ·cases h
 rename_i h3;simp only [Bool.not_eq_false] at h3;simp only [zco, Bool.and_eq_true, decide_eq_true_eq] at h3;exact h3.2
def zir (rs : List Rule) (left : Int) (w : Str) : Str := if left = 0 then w else (zgU rs w).getD w
def turnB (rs : List Rule) (left : Int) (w : Str) : Bool := if left = 0 then false else (zgU rs w).isSome
def turnL (left : Int) : Int := if left = 0 then 0 else left - 1
def zgA (s p : Str) : Bool := decide (p.length ≤ s.length) && decide (s.drop (s.length - p.length) = p)
theorem stepOf_at {rs : List Rule} {i : Nat} {r : Rule} {w s : Str} (ht : (rs.take i).findSome? (made · w) = none) (hr : rs[i]? = some r) (hm : made r w = some s) : zgU rs w = some s := by
 unfold zgU;rw [← List.take_append_drop i rs, List.findSome?_append, ht, zgY hr, List.findSome?_cons, hm];rfl
theorem stepOf_none {rs : List Rule} {i : Nat} {w : Str} (ht : (rs.take i).findSome? (made · w) = none) (hi : rs.length ≤ i) : zgU rs w = none := by
 rw [List.take_of_length_le hi] at ht; exact ht
theorem turn_take {rs : List Rule} {i : Nat} {r : Rule} {w : Str} (ht : (rs.take i).findSome? (made · w) = none) (hr : rs[i]? = some r) (hm : made r w = none) : (rs.take (i + 1)).findSome? (made · w) = none := by
 rw [zbf hr, List.findSome?_append, ht, List.findSome?_cons, hm]; rfl
theorem turnW_len {rs : List Rule} {left : Int} {w : Str} (h : w.length ≤ 12) : (zir rs left w).length ≤ 12 := by
 unfold zir;split
 ·exact h
 cases e : zgU rs w with
 | none => exact h
 | some s =>
  obtain ⟨r, _, hr⟩ := List.exists_of_findSome?_eq_some e;exact made_len hr
theorem made_no {r : Rule} {w : Str} (h : zgA w r.cut = true → r.least ≤ ((w.take (w.length - r.cut.length)).length : Int) ∧ (w.take (w.length - r.cut.length)).length + r.put.length ≤ 12 → False) : made r w = none := by
 unfold made;rw [if_neg];rintro ⟨q1, q2, q3, q4⟩;have hl : (w.take (w.length - r.cut.length)).length = w.length - r.cut.length := by rw [List.length_take]; omega
 exact h (by simp [zgA, q1, q3]) (by rw [hl]; exact ⟨q2, q4⟩)
theorem made_yes {r : Rule} {w : Str} (h : zgA w r.cut = true) (h1 : r.least ≤ ((w.take (w.length - r.cut.length)).length : Int)) (h2 : (w.take (w.length - r.cut.length)).length + r.put.length ≤ 12) : made r w = some (w.take (w.length - r.cut.length) ++ r.put) := by
 simp only [zgA, Bool.and_eq_true, decide_eq_true_eq] at h;have hl : (w.take (w.length - r.cut.length)).length = w.length - r.cut.length := by rw [List.length_take]; omega
 rw [hl] at h1 h2;unfold made;rw [if_pos ⟨h.1, h1, h.2, h2⟩]
theorem turn_true {rs : List Rule} {left : Int} {w : Str} (h : turnB rs left w = true) : ¬ left = 0 ∧ zgU rs w = some (zir rs left w) := by
 unfold turnB at h;unfold zir;split at h
 ·cases h
 rename_i h0;rw [if_neg h0];refine ⟨h0, ?_⟩;cases e : zgU rs w with
 | none => rw [e] at h; cases h
 | some s => rfl
theorem turn_false {rs : List Rule} {left : Int} {n : Nat} {w : Str} (h : turnB rs left w = false) (hn : left = (n : Int)) : zcz rs n w = [w] := by
 unfold turnB at h;split at h
 ·have : n = 0 := by omega
  subst this; rfl
 apply stepsN_none;cases e : zgU rs w with
 | none => rfl
 | some s => rw [e] at h; cases h
theorem zfF {α : Type} {dn rm rm' m : List α} {p : α} (h : (dn ++ rm).Perm m) (q : rm.Perm (p :: rm')) : ((dn ++ [p]) ++ rm').Perm m := by
 refine List.Perm.trans ?_ h;rw [List.append_assoc];exact (List.Perm.append_left dn q).symm
theorem standAt_mem {x : Lexicon} {n : Nat} {d : Decision} : d ∈ zhI x n ↔ d ∈ x.decisions ∧ d.number = (n : Int) + 1 ∧ zdd x d = true := by
 simp only [zhI, List.mem_filter, standP, zdd, Bool.and_eq_true, decide_eq_true_eq]
theorem standing_sorted {x : Lexicon} (hn : (x.decisions.map (·.number)).Nodup) : ∀ n, (((List.range n).flatMap (zhI x)).map (·.number)).Pairwise (fun a b : Int => a < b) ∧ ∀ a ∈ ((List.range n).flatMap (zhI x)).map (·.number), a ≤ (n : Int)
 | 0 => by simp
 | n + 1 => by
  obtain ⟨h1, h2⟩ := standing_sorted hn n;have h3 : ((zhI x n).map (·.number)).Nodup := (List.filter_sublist.map _).nodup hn;have h4 : ∀ a ∈ (zhI x n).map (·.number), a = (n : Int) + 1 := by
   intro a ha;obtain ⟨d, hd, rfl⟩ := List.mem_map.1 ha;exact (standAt_mem.1 hd).2.1
  rw [List.range_succ, List.flatMap_append, List.map_append];simp only [List.flatMap_cons, List.flatMap_nil, List.append_nil];refine ⟨List.pairwise_append.2 ⟨h1, ?_, ?_⟩, ?_⟩
  ·refine List.Pairwise.imp_of_mem ?_ h3;intro a b ha hb hne;exact absurd ((h4 a ha).trans (h4 b hb).symm) hne
  ·intro a ha b hb;have := h2 a ha; have := h4 b hb; omega
  ·intro a ha
   rcases List.mem_append.1 ha with ha | ha
   ·have := h2 a ha; omega
   ·have := h4 a ha; omega
theorem standM_nodup {x : Lexicon} (hx : OkD x) : ((zcL x).map (·.1)).Nodup := by
 have := zhM hx (zdd x);have e : (zcL x).map (·.1) = ((zdc x).filter (zdd x)).map (·.number) := by rw [zcL, List.map_map]; rfl
 rw [e]; exact this
theorem standing_eq {x : Lexicon} (hx : OkD x) {dn : List (Int × Decision)} (hp : dn.Perm (zcL x)) : (dn.map (·.1)).mergeSort (fun a b => decide (a ≤ b)) = (zhQ x).map (·.number) := by
 have hs := (standing_sorted hx.1 999).1;have hnd : ((zhQ x).map (·.number)).Nodup := hs.imp (fun h => by omega);have hperm : (dn.map (·.1)).Perm ((zhQ x).map (·.number)) := by
  refine (hp.map (·.1)).trans ?_;rw [List.perm_ext_iff_of_nodup (standM_nodup hx) hnd];intro a;constructor
  ·intro ha;obtain ⟨p, hp', rfl⟩ := List.mem_map.1 ha;obtain ⟨h1, h2, h3⟩ := zjl hp';have h4 := hx.2 _ h1;refine List.mem_map.2 ⟨p.2, List.mem_flatMap.2 ⟨(p.2.number - 1).toNat, List.mem_range.2 zD, standAt_mem.2 ⟨h1, by omega, h3⟩⟩, h2.symm⟩
  ·intro ha;obtain ⟨d, hd, rfl⟩ := List.mem_map.1 ha;obtain ⟨n, _, hd'⟩ := List.mem_flatMap.1 hd;obtain ⟨h1, _, h3⟩ := standAt_mem.1 hd';exact List.mem_map.2 ⟨zfw d, List.mem_map.2 ⟨d, List.mem_filter.2 ⟨(zdB x).mem_iff.2 h1, h3⟩, rfl⟩, rfl⟩
 refine List.Perm.eq_of_pairwise (le := fun a b : Int => a ≤ b) (fun a b _ _ h1 h2 => by omega) ?_ (hs.imp (fun h => by omega)) ((List.mergeSort_perm _ _).trans hperm);have h := List.pairwise_mergeSort (le := fun a b : Int => decide (a ≤ b)) (by intro a b c h1 h2; simp at *; omega) (by intro a b; simp; omega) (dn.map (·.1));exact h.imp (fun h => by simpa using h)
theorem standM_len {t : Text} {x : Lexicon} (h : zan t x = 0) : (zcL x).length ≤ 20 := by
 have h1 := zci h;have h2 := (zdB x).length_eq;have h3 := List.length_filter_le (zdd x) (zdc x);rw [zcL, List.length_map]; omega
theorem standingN_len (t : Text) (x : Lexicon) : (zeA t x).length ≤ 281474976710656 := by
 unfold zeA;split
 ·rename_i h;have := stand_len 999 (zci h);rw [List.length_map, zhQ]; omega
 simp
def smallW (w : Str) : Bool := decide (w.length ≤ 40)
def ziL (l : List Str) : Bool := decide (l.length ≤ 15) && l.all smallW
def zgV (c : Chapter) : Bool := decide (c.lines.length ≤ 15) && c.lines.all ziL
def ziK (t : Text) : Bool := decide (t.chapters.length ≤ 10) && t.chapters.all zgV
def smallR (r : Rule) : Bool := decide (r.cut.length ≤ 100) && decide (r.put.length ≤ 100)
def smallD (d : Decision) : Bool := decide (d.form.length ≤ 100) && decide (d.to.stem.length ≤ 100)
def zhv (x : Lexicon) : Bool := decide (x.rules.length ≤ 20) && decide (x.decisions.length ≤ 25) && x.rules.all smallR && x.decisions.all smallD
end Go.Pk

namespace Go.Pk
open Go Go.RowKit
def zex (a b : Int) : Int := if a < b then -1 else if b < a then 1 else 0
def cmpL : List Int → List Int → Int
 | [], [] => 0
 | [], _ :: _ => -1
 | _ :: _, [] => 1
 | a :: az, b :: bs => if zex a b ≠ 0 then zex a b else cmpL az bs
def cmpS (a b : Str) : Int := Lib.compareBytes a b
def zeW (a b : Place) : Int := cmpL [a.chapter, a.line, a.word] [b.chapter, b.line, b.word]
def firstI (a b : Decision) : Int := if a.kind ≠ b.kind then a.kind - b.kind else if a.kind = 2 ∧ a.at_ ≠ b.at_ then zeW a.at_ b.at_ else a.number - b.number
def zel (d : Decision) (p : Place) (w : Str) : Bool :=
 if d.kind = 1 then decide (d.form = w) else if d.kind = 2 then decide (d.form = w) && !zdb p d.at_ else if d.kind = 3 then decide (d.at_ = p) else false
def betterB (d e : Decision) : Bool := if d.kind ≠ e.kind then decide (d.kind > e.kind) else decide (d.kind ≠ 2) || !zdb d.at_ e.at_
def cmpHead (a b : Head) : Int := if cmpS a.stem b.stem ≠ 0 then cmpS a.stem b.stem else a.mark - b.mark
def sLt (a b : Str) : Bool := Op.bytesLess a b
def headLt (a b : Head) : Bool := sLt a.stem b.stem || (decide (a.stem = b.stem) && decide (a.mark < b.mark))
theorem cmpL_step {a b : List Int} {k : Nat} {x y : Int} (ha : a[k]? = some x) (hb : b[k]? = some y) : cmpL (a.drop k) (b.drop k) = if zex x y ≠ 0 then zex x y else cmpL (a.drop (k + 1)) (b.drop (k + 1)) := by
 rw [zgY ha, zgY hb]; rfl
theorem cmpL_nil_cons {a b : List Int} (ha : a = []) (hb : b ≠ []) : cmpL a b = -1 := by
 subst ha; cases b with
 | nil => exact absurd rfl hb
 | cons => rfl
theorem cmpL_cons_nil {a b : List Int} (hb : b = []) (ha : a ≠ []) : cmpL a b = 1 := by
 subst hb; cases a with
 | nil => exact absurd rfl ha
 | cons => rfl
theorem ordI_eq (a b : Place) : zeW a b = if zex a.chapter b.chapter ≠ 0 then zex a.chapter b.chapter else if zex a.line b.line ≠ 0 then zex a.line b.line else zex a.word b.word := by
 simp only [zeW, cmpL]; repeat' split
 all_goals simp_all
theorem zhh (a b : Place) : decide (zeW a b ≤ 0) = !zdb b a := by
 rw [ordI_eq]; simp only [zex, zdb]
 by_cases h1 : a.chapter < b.chapter <;> by_cases h2 : b.chapter < a.chapter <;> by_cases h3 : a.line < b.line <;> by_cases h4 : b.line < a.line <;> by_cases h5 : a.word < b.word <;> by_cases h6 : b.word < a.word <;> simp [h1, h2, h3, h4, h5, h6] <;> (try omega) <;> (repeat' split) <;> simp <;> omega
theorem ordI_gt (a b : Place) : decide (zeW a b > 0) = zdb b a := by
 have h := zhh a b;cases e : zdb b a <;> rw [e] at h <;> simp at h ⊢ <;> omega
theorem zes {α : Type} {m : List α → Prop} (nil : m []) (snoc : ∀ l a, m l → m (l ++ [a])) (l : List α) : m l := by
 have h : ∀ r : List α, m r.reverse := by
  intro r
  induction r with
  | nil => exact nil
  | cons a r ih => rw [List.reverse_cons]; exact snoc _ _ ih
 have := h l.reverse;rwa [List.reverse_reverse] at this
def zhs (b d : Decision) : Decision := if b.number = 0 ∨ firstI d b > 0 then d else b
def zaQ (l : List Decision) : Decision := l.foldl zhs zcm
theorem zgp (l : List Decision) (d : Decision) : zaQ (l ++ [d]) = zhs (zaQ l) d := by simp [zaQ]
theorem bestOf_mem (l : List Decision) : zaQ l = zcm ∨ zaQ l ∈ l := by
 induction l using zes with
 | nil => exact .inl rfl
 | snoc l d ih =>
  rw [zgp, zhs];split
  ·exact .inr (by simp)
  ·rcases ih with h | h
   ·exact .inl h
   ·exact .inr (by simp [h])
theorem best_ok {p : Decision → Prop} (hz : p zcm) {l : List Decision} (hp : ∀ y ∈ l, p y) : p (zaQ l) := by
 rcases bestOf_mem l with h | h
 ·rw [h]; exact hz
 exact hp _ h
theorem bestOf_zero {l : List Decision} (hp : ∀ y ∈ l, 1 ≤ y.number) (h : (zaQ l).number = 0) : zaQ l = zcm := by
 rcases bestOf_mem l with h1 | h1
 ·exact h1
 have := hp _ h1; omega
theorem zjH {l : List Decision} (hp : ∀ y ∈ l, 1 ≤ y.number) (hl : l ≠ []) : 1 ≤ (zaQ l).number ∧ zaQ l ∈ l := by
 have key : zaQ l ∈ l := by
  induction l using zes with
  | nil => exact absurd rfl hl
  | snoc l d ih =>
   rw [zgp, zhs];split
   ·simp
   ·rename_i hn
    by_cases hl' : l = []
    ·subst hl'; exact absurd (.inl rfl) hn
    ·have := ih (fun y hy => hp y (by simp [hy])) hl';simp [this]
 exact ⟨hp _ key, key⟩
def lexD (a b : Decision) : Prop := a.kind < b.kind ∨ (a.kind = b.kind ∧ ((a.kind = 2 ∧ (a.at_.chapter < b.at_.chapter ∨ (a.at_.chapter = b.at_.chapter ∧ (a.at_.line < b.at_.line ∨ (a.at_.line = b.at_.line ∧ a.at_.word < b.at_.word))))) ∨ ((a.kind = 2 → a.at_ = b.at_) ∧ a.number < b.number)))
theorem firstI_lex {d e : Decision} : firstI d e > 0 ↔ lexD e d := by
 unfold firstI lexD
 by_cases hk : d.kind = e.kind
 ·have hk' : ¬ d.kind ≠ e.kind := by simp [hk]
  simp only [if_neg hk']
  by_cases h2 : d.kind = 2
  ·have h3 : e.kind = 2 := by omega
   by_cases ha : d.at_ = e.at_
   ·have q : ¬ (d.kind = 2 ∧ d.at_ ≠ e.at_) := by simp [ha]
    simp only [if_neg q, h3, h2, ha];simp
   ·have q : d.kind = 2 ∧ d.at_ ≠ e.at_ := ⟨h2, ha⟩;rw [if_pos q];simp only [h3, h2];have hg := ordI_gt d.at_ e.at_;have h5 : zeW d.at_ e.at_ > 0 ↔ zdb e.at_ d.at_ = true := by rw [← hg]; simp
    rw [h5];have ha' : ¬ e.at_ = d.at_ := fun q => ha q.symm;simp only [ha', Int.lt_irrefl, false_or, true_and, forall_const, false_and, or_false, zdb]
    by_cases q1 : e.at_.chapter = d.at_.chapter <;> by_cases q2 : e.at_.line = d.at_.line <;> simp_all
  ·have h3 : ¬ e.kind = 2 := by omega
   have q : ¬ (d.kind = 2 ∧ d.at_ ≠ e.at_) := by simp [h2]
   simp only [if_neg q, h3]; simp [hk]
 have hk' : d.kind ≠ e.kind := hk;simp only [if_pos hk']; omega
theorem lexD_trans {a b c : Decision} (h1 : lexD a b) (h2 : lexD b c) : lexD a c := by
 rcases a with ⟨n1, k1, f1, ⟨c1, l1, w1⟩, t1, o1⟩; rcases b with ⟨n2, k2, f2, ⟨c2, l2, w2⟩, t2, o2⟩; rcases c with ⟨n3, k3, f3, ⟨c3, l3, w3⟩, t3, o3⟩
 simp only [lexD, Place.mk.injEq] at *;omega
theorem lexD_total {a b : Decision} (h : a.number ≠ b.number) : lexD a b ∨ lexD b a := by
 rcases a with ⟨n1, k1, f1, ⟨c1, l1, w1⟩, t1, o1⟩; rcases b with ⟨n2, k2, f2, ⟨c2, l2, w2⟩, t2, o2⟩
 simp only [lexD, Place.mk.injEq] at *;omega
theorem lexD_irrefl (a : Decision) : ¬ lexD a a := by
 unfold lexD; omega
theorem bestOf_best {l : List Decision} (hp : ∀ y ∈ l, 1 ≤ y.number) (hn : (l.map (·.number)).Nodup) : ∀ y ∈ l, y ≠ zaQ l → lexD y (zaQ l) := by
 induction l using zes with
 | nil => simp
 | snoc l d ih =>
  intro y hy hne;have hn' : (l.map (·.number)).Nodup := by rw [List.map_append] at hn; exact (List.nodup_append.1 hn).1
  have ih := ih (fun y hy => hp y (by simp [hy])) hn';have hd : ∀ z ∈ l, z.number ≠ d.number := by
   intro z hz e;rw [List.map_append] at hn;exact (List.nodup_append.1 hn).2.2 _ (List.mem_map_of_mem hz) _ (List.mem_map.2 ⟨d, by simp, rfl⟩) e
  rw [zgp] at hne ⊢;unfold zhs at hne ⊢;split at hne
  ·rename_i hc;rw [if_pos hc]
   rcases List.mem_append.1 hy with h | h
   ·by_cases hl : l = []
    ·subst hl; cases h
    ·have hb := zjH (fun y hy => hp y (by simp [hy])) hl;have h1 : lexD (zaQ l) d := by
      rcases hc with h0 | h0
      ·omega
      ·exact firstI_lex.1 h0
     by_cases e : y = zaQ l
     ·rw [e]; exact h1
     ·exact lexD_trans (ih y h e) h1
   ·simp at h; exact absurd h hne
  ·rename_i hc;rw [if_neg hc];have hc' : ¬ (zaQ l).number = 0 ∧ ¬ lexD (zaQ l) d := ⟨fun h => hc (.inl h), fun h => hc (.inr (firstI_lex.2 h))⟩
   rcases List.mem_append.1 hy with h | h
   ·exact ih y h hne
   ·simp at h; subst h
    by_cases hl : l = []
    ·subst hl; exact absurd rfl hc'.1
    ·have hb := zjH (fun y hy => hp y (by simp [hy])) hl
     rcases lexD_total (hd _ hb.2) with h1 | h1
     ·exact absurd h1 hc'.2
     ·exact h1
theorem bestOf_perm {xs ys : List Decision} (h : xs.Perm ys) (hp : ∀ y ∈ ys, 1 ≤ y.number) (hn : (ys.map (·.number)).Nodup) : zaQ xs = zaQ ys := by
 by_cases hy : ys = []
 ·subst hy; rw [h.eq_nil]
 have hx : xs ≠ [] := fun e => hy (by subst e; exact h.symm.eq_nil);have hp' : ∀ y ∈ xs, 1 ≤ y.number := fun y hy => hp y (h.mem_iff.1 hy);have hn' : (xs.map (·.number)).Nodup := (h.map _).nodup_iff.2 hn;have h1 := (zjH hp' hx).2;have h2 := (zjH hp hy).2
 by_cases e : zaQ xs = zaQ ys
 ·exact e
 have a := bestOf_best hp hn _ (h.mem_iff.1 h1) e;have b := bestOf_best hp' hn' _ (h.mem_iff.2 h2) (Ne.symm e);exact absurd (lexD_trans a b) (lexD_irrefl _)
def zax (t : Text) (p : Place) : Str := (zgS t p).getD []
def conD (x : Lexicon) (p : Place) (wd : Str) : List Decision := ((zcL x).map (·.2)).filter fun d => zel d p wd
def zcQ (x : Lexicon) (p : Place) (wd : Str) : Decision :=
 if (zaQ (conD x p wd)).number = 0 then { zcm with to := ⟨((zcz x.rules 4 wd).getLast?).getD [], 0⟩ } else zaQ (conD x p wd)
def OkO (o : Office) : Prop := zan o.text o.lex = 0 ∧ o.stands = zcL o.lex
theorem place_at {t : Text} {p : Place} (h : zbH t p = true) : ∃ c ln wd, 0 ≤ p.chapter ∧ t.chapters[p.chapter.toNat]? = some c ∧ 0 ≤ p.line ∧ c.lines[p.line.toNat]? = some ln ∧ 0 ≤ p.word ∧ ln[p.word.toNat]? = some wd ∧ zax t p = wd := by
 unfold zbH at h;unfold zax;unfold zgS zbg at *;split at h
 ·rename_i h1;split at h
  ·rename_i h2;cases hc : t.chapters[p.chapter.toNat]? with
   | none => simp [hc] at h
   | some c =>
    simp only [hc, Option.bind_some] at h;cases hl : c.lines[p.line.toNat]? with
    | none => simp [hl] at h
    | some ln =>
     simp only [hl, Option.bind_some] at h;cases hw : ln[p.word.toNat]? with
     | none => simp [hw] at h
     | some wd => exact ⟨c, ln, wd, h2.1, rfl, h2.2, hl, h1, hw, by simp [if_pos h1, if_pos h2, hc, hl, hw]⟩
  ·simp at h
 simp at h
theorem okO_d {o : Office} (h : OkO o) : OkD o.lex := zdH h.1
theorem standM_ok {t : Text} {x : Lexicon} (h : zan t x = 0) {q : Int × Decision} (hq : q ∈ zcL x) : zaf t q.2 = true ∧ 1 ≤ q.2.number ∧ q.2.number ≤ 999 ∧ 1 ≤ q.2.kind ∧ q.2.kind ≤ 4 := by
 have h1 := (zjl hq).1;have h2 : zco t x = true := by
  unfold zan at h;split at h
  ·cases h
  ·split at h
   ·cases h
   ·rename_i h3; simpa using h3
 simp only [zco, Bool.and_eq_true, List.all_eq_true] at h2;have h3 := h2.1.2 _ h1;have h4 := (zdH h).2 _ h1;refine ⟨h3, h4.1, h4.2.1, ?_⟩;unfold zaf at h3;simp only [Bool.and_eq_true] at h3;have h5 := h3.2;split at h5
 ·omega
 split at h5
 ·omega
 split at h5
 ·omega
 split at h5
 ·omega
 cases h5
theorem standM_nodupD {x : Lexicon} (h : OkD x) : (((zcL x).map (·.2)).map (·.number)).Nodup := by
 have := zhM h (zdd x);simpa [zcL, zfw, List.map_map, Function.comp_def] using this
theorem ziR {t : Text} {p : Place} (ht : zaM t = true) (hp : zbH t p = true) : (zax t p).length ≤ 12 := by
 obtain ⟨c, ln, wd, _, hc, _, hl, _, hw, e⟩ := place_at hp;rw [e];simp only [zaM, Bool.and_eq_true, List.all_eq_true] at ht;have h1 := ht.1.2 _ (List.mem_of_getElem? hc);simp only [zbl, Bool.and_eq_true, List.all_eq_true] at h1;have h2 := h1.2 _ (List.mem_of_getElem? hl);simp only [zfn, Bool.and_eq_true, List.all_eq_true] at h2;exact word_len (h2.2 _ (List.mem_of_getElem? hw))
theorem zdq {t : Text} {x : Lexicon} (h : zan t x = 0) : zaM t = true := by
 unfold zan at h;split at h
 ·cases h
 rename_i h1; simpa using h1
theorem conD_perm {x : Lexicon} {p : Place} {wd : Str} {dn : List (Int × Decision)} (h : OkD x) (hd : dn.Perm (zcL x)) : zaQ ((dn.map (·.2)).filter fun d => zel d p wd) = zaQ (conD x p wd) := by
 refine bestOf_perm ((hd.map _).filter _) ?_ ?_
 ·intro y hy;obtain ⟨q, hq, rfl⟩ := List.mem_map.1 (List.mem_filter.1 hy).1;exact (h.2 _ (zjl hq).1).1
 exact (List.filter_sublist.map _).nodup (standM_nodupD h)
theorem stepsN_ne (rs : List Rule) (n : Nat) (w : Str) : zcz rs n w ≠ [] := by
 cases n with
 | zero => simp [zcz]
 | succ n => simp only [zcz]; split <;> simp
end Go.Pk

namespace Go.Pk
open Go Go.RowKit
def zhL (t : Text) (k : Nat) : List (List Str) := ((t.chapters[k]?).map (·.lines)).getD []
def wordsAt (t : Text) (k n : Nat) : List Str := ((zhL t k)[n]?).getD []
def mkP (k n w : Nat) : Place := ⟨k, n, w⟩
def zfS (t : Text) (k n : Nat) : List Place := (List.range (wordsAt t k n).length).map (mkP k n)
def zfP (t : Text) (k : Nat) : List Place := (List.range (zhL t k).length).flatMap (zfS t k)
def zam (t : Text) : List Place := (List.range t.chapters.length).flatMap (zfP t)
theorem zda {t : Text} {k : Nat} {c : Chapter} (h : t.chapters[k]? = some c) : zhL t k = c.lines := by simp [zhL, h]
theorem zdk {t : Text} {k n : Nat} {c : Chapter} {ln : List Str} (h : t.chapters[k]? = some c) (h2 : c.lines[n]? = some ln) : wordsAt t k n = ln := by simp [wordsAt, zda h, h2]
theorem zcF {α : Type} {f : Nat → List α} {c : Nat} (h : ∀ k, (f k).length ≤ c) (n : Nat) : ((List.range n).flatMap f).length ≤ c * n := by
 induction n with
 | zero => simp
 | succ n ih =>
  rw [List.range_succ, List.flatMap_append, List.length_append];have := h n;simp only [List.flatMap_cons, List.flatMap_nil, List.append_nil];rw [Nat.mul_succ]; omega
theorem zeq {t : Text} (ht : zaM t = true) (k n : Nat) : (wordsAt t k n).length ≤ 10 := by
 unfold wordsAt zhL;simp only [zaM, Bool.and_eq_true, List.all_eq_true] at ht;cases hc : t.chapters[k]? with
 | none => simp
 | some c =>
  have h1 := ht.1.2 _ (List.mem_of_getElem? hc);simp only [zbl, Bool.and_eq_true, List.all_eq_true] at h1;simp only [Option.map_some, Option.getD_some];cases hl : c.lines[n]? with
  | none => simp
  | some ln =>
   have h2 := h1.2 _ (List.mem_of_getElem? hl);simp only [zfn, Bool.and_eq_true, inB, decide_eq_true_eq] at h2;simp only [Option.getD_some]; omega
theorem zev {t : Text} (ht : zaM t = true) (k : Nat) : (zhL t k).length ≤ 10 := by
 unfold zhL;simp only [zaM, Bool.and_eq_true, List.all_eq_true] at ht;cases hc : t.chapters[k]? with
 | none => simp
 | some c =>
  have h1 := ht.1.2 _ (List.mem_of_getElem? hc);simp only [zbl, Bool.and_eq_true, inB, decide_eq_true_eq] at h1;simp only [Option.map_some, Option.getD_some]; omega
theorem zdC {t : Text} (ht : zaM t = true) : t.chapters.length ≤ 6 := by
 simp only [zaM, Bool.and_eq_true, inB, decide_eq_true_eq] at ht; omega
theorem zgX {t : Text} (ht : zaM t = true) (k n : Nat) : (zfS t k n).length ≤ 10 := by
 rw [zfS, List.length_map, List.length_range]; exact zeq ht k n
theorem zfG {t : Text} (ht : zaM t = true) (k : Nat) : (zfP t k).length ≤ 100 := by
 have h1 := zcF (zgX ht k) (zhL t k).length;have h2 := zev ht k;rw [zfP]; omega
theorem zeV {t : Text} (ht : zaM t = true) : (zam t).length ≤ 600 := by
 have h1 := zcF (zfG ht) t.chapters.length;have h2 := zdC ht;rw [zam]; omega
theorem place_mk {t : Text} {k n w : Nat} {c : Chapter} {ln : List Str} (hc : t.chapters[k]? = some c) (hl : c.lines[n]? = some ln) (hw : w < ln.length) : zbH t (mkP k n w) = true := by
 have h0 : ln[w]? = some ln[w] := List.getElem?_eq_getElem hw;simp [zbH, zgS, zbg, mkP, hc, hl, h0]
theorem word_mk {t : Text} {k n w : Nat} {c : Chapter} {ln : List Str} {s : Str} (hc : t.chapters[k]? = some c) (hl : c.lines[n]? = some ln) (hw : ln[w]? = some s) : zax t (mkP k n w) = s := by
 simp [zax, zgS, zbg, mkP, hc, hl, hw]
theorem zjs {t : Text} {k n : Nat} {c : Chapter} {ln : List Str} (hc : t.chapters[k]? = some c) (hl : c.lines[n]? = some ln) {w : Nat} (hw : w = ln.length) : (List.range w).map (mkP k n) = zfS t k n := by
 rw [zfS, zdk hc hl, hw]
theorem zjz {t : Text} {k : Nat} {c : Chapter} (hc : t.chapters[k]? = some c) {n : Nat} (hn : n = c.lines.length) : (List.range n).flatMap (zfS t k) = zfP t k := by
 rw [zfP, zda hc, hn]
theorem zdm {α : Type} (f : Nat → List α) (n : Nat) : (List.range (n + 1)).flatMap f = (List.range n).flatMap f ++ f n := by
 rw [List.range_succ, List.flatMap_append]; simp
theorem zgl {t : Text} {p : Place} (h : p ∈ zam t) : zbH t p = true := by
 obtain ⟨k, hk, h⟩ := List.mem_flatMap.1 h;obtain ⟨n, hn, h⟩ := List.mem_flatMap.1 h;obtain ⟨w, hw, rfl⟩ := List.mem_map.1 h;have hk' := List.mem_range.1 hk;have hc : t.chapters[k]? = some t.chapters[k] := List.getElem?_eq_getElem hk';rw [zda hc] at hn;have hn' := List.mem_range.1 hn;have hl : t.chapters[k].lines[n]? = some t.chapters[k].lines[n] := List.getElem?_eq_getElem hn';rw [zdk hc hl] at hw;exact place_mk hc hl (List.mem_range.1 hw)
def zbO (t : Text) (x : Lexicon) (p : Place) : Head := (zcQ x p (zax t p)).to
def zdN (t : Text) (x : Lexicon) (p : Place) : Entry := ⟨p, zax t p, zbO t x p⟩
def zaB (t : Text) (x : Lexicon) : List Entry := (zam t).map (zdN t x)
def zju (t : Text) (x : Lexicon) : List Head := (zam t).map (zbO t x)
def headR0 (x : Lexicon) (wd : Str) : Decision := { zcm with to := ⟨((zcz x.rules 4 wd).getLast?).getD [], 0⟩ }
def stepR (p : Place) (wd : Str) (b d : Decision) : Decision := if zel d p wd = true ∧ (b.number = 0 ∨ betterB d b = true) then d else b
def headR (x : Lexicon) (l : List Decision) (p : Place) (wd : Str) : Decision := l.foldl (stepR p wd) (headR0 x wd)
def zea (t : Text) (x : Lexicon) (p : Place) : Decision := if zan t x = 0 ∧ zbH t p = true then zcQ x p (zax t p) else zcm
def ziP (t : Text) (x : Lexicon) (p : Place) : Int := if zan t x = 0 then (if zbH t p = true then 0 else 12) else zan t x
theorem stepsN_mem_len {rs : List Rule} : ∀ (n : Nat) (w : Str), w.length ≤ 12 → ∀ s ∈ zcz rs n w, s.length ≤ 12
 | 0, w, h, s, hs => by simp [zcz] at hs; subst hs; exact h
 | n + 1, w, h, s, hs => by
  simp only [zcz] at hs;split at hs
  ·simp at hs; subst hs; exact h
  ·rename_i u hu
   rcases List.mem_cons.1 hs with rfl | hs
   ·exact h
   ·obtain ⟨r, _, hr⟩ := List.exists_of_findSome?_eq_some hu;exact stepsN_mem_len n u (made_len hr) s hs
theorem head_of_valid {h : Head} (hv : zfN h = true) : h.stem.length ≤ 12 ∧ 0 ≤ h.mark ∧ h.mark ≤ 3 := by
 simp only [zfN, Bool.and_eq_true, inB, decide_eq_true_eq] at hv;exact ⟨word_len hv.1, hv.2.1, hv.2.2⟩
theorem dec_head {t : Text} {d : Decision} {p : Place} {wd : Str} (h : zaf t d = true) (hc : zel d p wd = true) : zfN d.to = true := by
 simp only [zaf, Bool.and_eq_true] at h;have h := h.2;unfold zel at hc
 by_cases k1 : d.kind = 1
 ·simp only [k1, if_true, Bool.and_eq_true] at h; exact h.1.2
 by_cases k2 : d.kind = 2
 ·simp [k2] at h; exact h.1.2
 by_cases k3 : d.kind = 3
 ·simp [k3] at h; exact h.1.2
 simp [k1, k2, k3] at hc
theorem winD_ok {t : Text} {x : Lexicon} {p : Place} (hx : zan t x = 0) (hp : zbH t p = true) : (zcQ x p (zax t p)).to.stem.length ≤ 12 ∧ 0 ≤ (zcQ x p (zax t p)).to.mark ∧ (zcQ x p (zax t p)).to.mark ≤ 3 := by
 unfold zcQ;split
 ·refine ⟨?_, by simp, by simp⟩;have hw := ziR (zdq hx) hp;cases e : (zcz x.rules 4 (zax t p)).getLast? with
  | none => simp
  | some s => exact stepsN_mem_len 4 _ hw s (List.mem_of_getLast? e)
 rename_i h0
 rcases bestOf_mem (conD x p (zax t p)) with h | h
 ·rw [h] at h0; exact absurd rfl h0
 obtain ⟨h1, h2⟩ := List.mem_filter.1 h;obtain ⟨q, hq, e⟩ := List.mem_map.1 h1;have h3 := (standM_ok hx hq).1;rw [e] at h3;exact head_of_valid (dec_head h3 h2)
end Go.Pk

namespace Go.Pk
open Go Go.RowKit
section
variable {α : Type}
structure DelF (q : α → Bool) (s ys : List α) (i j : Nat) : Prop where
 len : ys.length = s.length
 le : i ≤ j
 le2 : j ≤ s.length
 head : ys.take i = (s.take j).filter fun x => !q x
 tail : ys.drop j = s.drop j
theorem DelF.get {q : α → Bool} {s ys : List α} {i j : Nat} (d : DelF q s ys i j) {y : α} (h : ys[j]? = some y) : s[j]? = some y := by
 have h1 := congrArg (fun l : List α => l[0]?) d.tail;simp only [List.getElem?_drop, Nat.add_zero] at h1;rw [← h1]; exact h
theorem DelF.start {q : α → Bool} {s : List α} {k : Nat} (h1 : ∀ j x, j < k → s[j]? = some x → q x = false) (h2 : ∀ x, s[k]? = some x → q x = true) (hk : k < s.length) : DelF q s s k (k + 1) := by
 refine ⟨rfl, by omega, by omega, ?_, rfl⟩;have hx : s[k]? = some s[k] := List.getElem?_eq_getElem hk;rw [zbf hx, List.filter_append];have e1 : (s.take k).filter (fun x => !q x) = s.take k := by
  rw [List.filter_eq_self];intro x hx;obtain ⟨j, hj⟩ := List.mem_iff_getElem?.1 hx;rw [List.getElem?_take] at hj;split at hj
  ·rename_i hjk; simp [h1 j x hjk hj]
  ·cases hj
 simp [e1, h2 _ hx]
theorem DelF.keep {q : α → Bool} {s ys : List α} {i j : Nat} (d : DelF q s ys i j) {y : α} (h : ys[j]? = some y) (hq : q y = false) : DelF q s (ys.set i y) (i + 1) (j + 1) := by
 obtain ⟨h1, _⟩ := List.getElem?_eq_some_iff.1 h;have hl := d.len; have hle := d.le;refine ⟨by rw [List.length_set]; exact d.len, by omega, by omega, ?_, ?_⟩
 ·rw [zbf (d.get h), List.filter_append, ← d.head];have e : (ys.set i y)[i]? = some y := by rw [List.getElem?_set]; simp; omega
  rw [zbf e, List.take_set_of_le (Nat.le_refl i)];simp [hq]
 rw [List.drop_set_of_lt zD];have := congrArg (List.drop 1) d.tail;simpa [List.drop_drop] using this
theorem DelF.skip {q : α → Bool} {s ys : List α} {i j : Nat} (d : DelF q s ys i j) {y : α} (h : ys[j]? = some y) (hq : q y = true) : DelF q s ys i (j + 1) := by
 obtain ⟨h1, _⟩ := List.getElem?_eq_some_iff.1 h;have hl := d.len; have hle := d.le;refine ⟨d.len, by omega, by omega, ?_, ?_⟩
 ·rw [zbf (d.get h), List.filter_append, ← d.head];simp [hq]
 have := congrArg (List.drop 1) d.tail;simpa [List.drop_drop] using this
theorem DelF.fin {q : α → Bool} {s ys : List α} {i j : Nat} (d : DelF q s ys i j) (h : s.length ≤ j) : ys.take i = s.filter fun x => !q x := by
 rw [d.head, List.take_of_length_le h]
theorem filter_none {q : α → Bool} {s : List α} (h : ∀ j x, j < s.length → s[j]? = some x → q x = false) : (s.filter fun x => !q x) = s := by
 rw [List.filter_eq_self];intro x hx;obtain ⟨j, hj⟩ := List.mem_iff_getElem?.1 hx;obtain ⟨h1, _⟩ := List.getElem?_eq_some_iff.1 hj;simp [h j x h1 hj]
variable [DecidableEq α]
def zhq (acc : List α) (x : α) : List α := if acc.getLast? = some x then acc else acc ++ [x]
def zcK (l : List α) : List α := l.foldl zhq []
theorem zhj (l : List α) (x : α) : zcK (l ++ [x]) = zhq (zcK l) x := by simp [zcK]
theorem compactL_last (l : List α) : (zcK l).getLast? = l.getLast? := by
 induction l using zes with
 | nil => rfl
 | snoc l d ih =>
  rw [zhj, zhq];split
  ·rename_i h; rw [h]; simp
  ·simp
theorem zhi {s : List α} {k : Nat} {y z : α} (hz : s[k]? = some z) (hy : s[k + 1]? = some y) : zcK (s.take (k + 2)) = if z = y then zcK (s.take (k + 1)) else zcK (s.take (k + 1)) ++ [y] := by
 have e : (s.take (k + 1)).getLast? = some z := by rw [zbf hz]; simp
 rw [zbf hy, zhj, zhq, compactL_last, e];simp only [Option.some.injEq]
theorem comp_more {s : List α} {k : Nat} {y z : α} (hz : s[k - 1]? = some z) (hy : s[k]? = some y) (hk : 1 ≤ k) (h : zcK (s.take k) = s.take k) (hne : ¬ y = z) : zcK (s.take (k + 1)) = s.take (k + 1) := by
 obtain ⟨m, rfl⟩ : ∃ m, k = m + 1 := ⟨k - 1, by omega⟩;rw [Nat.add_sub_cancel] at hz;rw [show m + 1 + 1 = m + 2 from rfl, zhi hz hy, if_neg (fun e => hne e.symm), h, ← zbf hy]
theorem comp_one {s : List α} (h : 1 ≤ s.length) : zcK (s.take 1) = s.take 1 := by
 cases s with
 | nil => simp at h
 | cons a s => simp [zcK, zhq]
theorem comp_short {s : List α} (h : s.length < 2) : zcK s = s := by
 match s, h with
 | [], _ => rfl
 | [a], _ => simp [zcK, zhq]
structure Comp (s ys : List α) (i j : Nat) : Prop where
 len : ys.length = s.length
 le : i + 1 ≤ j
 le2 : j ≤ s.length
 head : ys.take i = zcK (s.take j)
 tail : ys.drop (j - 1) = s.drop (j - 1)
theorem Comp.start {s : List α} {k : Nat} {y z : α} (hz : s[k - 1]? = some z) (hy : s[k]? = some y) (hk : 1 ≤ k) (h : zcK (s.take k) = s.take k) (he : y = z) : Comp s s k (k + 1) := by
 obtain ⟨h1, _⟩ := List.getElem?_eq_some_iff.1 hy;refine ⟨rfl, Nat.le_refl _, by omega, ?_, rfl⟩;obtain ⟨m, rfl⟩ : ∃ m, k = m + 1 := ⟨k - 1, by omega⟩;rw [Nat.add_sub_cancel] at hz;rw [show m + 1 + 1 = m + 2 from rfl, zhi hz hy, if_pos he.symm, h]
theorem Comp.get {s ys : List α} {i j : Nat} (d : Comp s ys i j) {y : α} {n : Nat} (hn : j - 1 ≤ n) (h : ys[n]? = some y) : s[n]? = some y := by
 have h1 := congrArg (fun l : List α => l[n - (j - 1)]?) d.tail;simp only [List.getElem?_drop] at h1;rw [show j - 1 + (n - (j - 1)) = n by omega] at h1;rw [← h1]; exact h
theorem Comp.keep {s ys : List α} {i j : Nat} (d : Comp s ys i j) {y z : α} (h : ys[j]? = some y) (hz : ys[j - 1]? = some z) (hne : ¬ y = z) : Comp s (ys.set i y) (i + 1) (j + 1) := by
 obtain ⟨h1, _⟩ := List.getElem?_eq_some_iff.1 h;have hl := d.len; have hle := d.le; have hle2 := d.le2;have g1 := d.get zD h;have g2 := d.get (Nat.le_refl _) hz;refine ⟨by rw [List.length_set]; exact d.len, by omega, by omega, ?_, ?_⟩
 ·obtain ⟨m, rfl⟩ : ∃ m, j = m + 1 := ⟨j - 1, by omega⟩;rw [Nat.add_sub_cancel] at g2;rw [show m + 1 + 1 = m + 2 from rfl, zhi g2 g1, if_neg (fun e => hne e.symm), ← d.head];have e : (ys.set i y)[i]? = some y := by rw [List.getElem?_set]; simp; omega
  rw [zbf e, List.take_set_of_le (Nat.le_refl i)]
 rw [Nat.add_sub_cancel, List.drop_set_of_lt zD];have := congrArg (List.drop 1) d.tail;rw [List.drop_drop, List.drop_drop, show j - 1 + 1 = j by omega] at this;exact this
theorem Comp.skip {s ys : List α} {i j : Nat} (d : Comp s ys i j) {y z : α} (h : ys[j]? = some y) (hz : ys[j - 1]? = some z) (he : y = z) : Comp s ys i (j + 1) := by
 obtain ⟨h1, _⟩ := List.getElem?_eq_some_iff.1 h;have hl := d.len; have hle := d.le; have hle2 := d.le2;have g1 := d.get zD h;have g2 := d.get (Nat.le_refl _) hz;refine ⟨d.len, by omega, by omega, ?_, ?_⟩
 ·obtain ⟨m, rfl⟩ : ∃ m, j = m + 1 := ⟨j - 1, by omega⟩;rw [Nat.add_sub_cancel] at g2;rw [show m + 1 + 1 = m + 2 from rfl, zhi g2 g1, if_pos he.symm, ← d.head]
 have := congrArg (List.drop 1) d.tail;rw [List.drop_drop, List.drop_drop, show j - 1 + 1 = j by omega] at this;rw [Nat.add_sub_cancel]; exact this
theorem Comp.fin {s ys : List α} {i j : Nat} (d : Comp s ys i j) (h : s.length ≤ j) : ys.take i = zcK s := by
 rw [d.head, List.take_of_length_le h]
end
end Go.Pk
