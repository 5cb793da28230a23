/- MAPS THAT THE WALK ITSELF MAKES. -/
import Derived.Test.YtngmpkoobdkeiaaGreatDoorOwn
import Derived.Scope
import Derived.Laws.IdiomStrings
namespace Go.Pk
open Go Go.RowKit
section
variable {κ υ : Type} {ek : κ → Value} {eu : υ → Value}
/-- entries and what they hold, in the order in which they came -/
def Ent (ek : κ → Value) (eu : υ → Value) : List MapEntry → List (κ × υ) → Prop
  | [], [] => True
  | e :: es, p :: m => e.key = ek p.1 ∧ e.val = eu p.2 ∧ Ent ek eu es m
  | _, _ => False
def OM (ek : κ → Value) (eu : υ → Value) (m : List (κ × υ)) (o : List (Nat × Obj)) (v : Value) : Prop :=
  ∃ b es clock, o = [(b, .map es clock)] ∧ v = .map (some b) ∧ Ent ek eu es.toList m ∧ (∀ e ∈ es.toList, e.born < clock) ∧ (es.toList.map (·.born)).Nodup
def look [DecidableEq κ] (m : List (κ × υ)) (k : κ) : Option υ := (m.find? fun p => decide (p.1 = k)).map (·.2)
def putM [DecidableEq κ] (m : List (κ × υ)) (k : κ) (v : υ) : List (κ × υ) := if (look m k).isSome then m.map fun p => if p.1 = k then (k, v) else p else m ++ [(k, v)]
theorem look_putM [DecidableEq κ] (m : List (κ × υ)) (k k' : κ) (v : υ) : look (putM m k v) k' = if k' = k then some v else look m k' := by
  unfold putM
  split
  · rename_i h
    have key : ∀ l : List (κ × υ), look (l.map fun p => if p.1 = k then (k, v) else p) k' = if k' = k then (if (look l k).isSome then some v else none) else look l k' := by
      intro l
      induction l with
      | nil => simp [look]
      | cons p l ih =>
        simp only [look, List.map_cons, List.find?_cons] at ih ⊢
        by_cases h1 : p.1 = k
        · by_cases h2 : k' = k
          · simp [h1, h2]
          · have h3 : ¬ k = k' := fun e => h2 e.symm
            simp only [h1, if_true, h3, decide_false, h2, if_false] at ih ⊢
            exact ih
        · by_cases h2 : k' = k
          · subst h2
            simp only [h1, if_false, decide_false, if_true] at ih ⊢
            exact ih
          · by_cases h4 : p.1 = k'
            · simp [h1, h4, h2]
            · simp only [h1, if_false, h4, decide_false, h2] at ih ⊢
              exact ih
    rw [key m, h]; simp
  · rename_i h
    have hn : look m k = none := by simpa using h
    simp only [look, List.find?_append] at hn ⊢
    by_cases h2 : k' = k
    · subst h2
      cases h3 : m.find? fun p => decide (p.1 = k') with
      | none => simp
      | some q => rw [h3] at hn; cases hn
    · have h3 : ¬ k = k' := fun e => h2 e.symm
      cases m.find? fun p => decide (p.1 = k') with
      | none => simp [h2, h3]
      | some q => simp [h2]
theorem Ent.len : ∀ {es : List MapEntry} {m : List (κ × υ)}, Ent ek eu es m → es.length = m.length
  | [], [], _ => rfl
  | _ :: _, _ :: _, h => by simp [Ent.len h.2.2]
  | [], _ :: _, h => h.elim
  | _ :: _, [], h => h.elim
def Tells [DecidableEq κ] (kind : TypeDesc) (ek : κ → Value) : Prop := ∀ a b, Instr.sameNow kind (ek a) (ek b) = some (decide (a = b))
theorem find_none [DecidableEq κ] {kind : TypeDesc} (hk : Tells kind ek) {k : κ} : ∀ {es : List MapEntry} {m : List (κ × υ)} (i : Nat), Ent ek eu es m → look m k = none → Instr.findNow kind (ek k) es i = some none
  | [], [], _, _, _ => rfl
  | e :: es, p :: m, i, h, hl => by
    simp only [look, List.find?_cons] at hl
    have hne : ¬ p.1 = k := fun e => by simp [e] at hl
    simp only [hne, decide_false] at hl
    have hne' : ¬ k = p.1 := fun e => hne e.symm
    have e1 : decide (k = p.1) = false := by simp [hne']
    simp only [Instr.findNow, h.1]
    rw [hk k p.1, e1]
    exact find_none hk (i + 1) h.2.2 hl
  | [], _ :: _, _, h, _ => h.elim
  | _ :: _, [], _, h, _ => h.elim
theorem find_some [DecidableEq κ] {kind : TypeDesc} (hk : Tells kind ek) {k : κ} {v : υ} : ∀ {es : List MapEntry} {m : List (κ × υ)} (i : Nat), Ent ek eu es m → look m k = some v →
    ∃ j, j < es.length ∧ m[j]? = some (k, v) ∧ (∀ q, q < j → ∀ p, m[q]? = some p → p.1 ≠ k) ∧ Instr.findNow kind (ek k) es i = some (some (i + j, eu v))
  | [], [], _, _, hl => by cases hl
  | e :: es, p :: m, i, h, hl => by
    by_cases hne : p.1 = k
    · simp only [look, List.find?_cons, hne, decide_true, Option.map_some, Option.some.injEq] at hl
      refine ⟨0, by simp, by rw [← hne, ← hl]; rfl, fun q hq => by omega, ?_⟩
      have e1 : decide (k = p.1) = true := by simp [hne]
      simp only [Instr.findNow, h.1]
      rw [hk k p.1, e1]
      simp only [h.2.1, hl, Nat.add_zero]
    · have hl' : look m k = some v := by simpa only [look, List.find?_cons, hne, decide_false] using hl
      obtain ⟨j, h1, h2, h3, h4⟩ := find_some hk (i + 1) h.2.2 hl'
      have hne' : ¬ k = p.1 := fun e => hne e.symm
      refine ⟨j + 1, by simp [h1], by simpa using h2, fun q hq r hr => ?_, ?_⟩
      · cases q with
        | zero => simp at hr; subst hr; exact hne
        | succ q => exact h3 q (by omega) r (by simpa using hr)
      · have e1 : decide (k = p.1) = false := by simp [hne']
        simp only [Instr.findNow, h.1]
        rw [hk k p.1, e1]
        simp only []
        rw [h4, show i + (j + 1) = i + 1 + j by omega]
  | [], _ :: _, _, h, _ => h.elim
  | _ :: _, [], _, h, _ => h.elim
theorem Ent.snoc : ∀ {es : List MapEntry} {m : List (κ × υ)} {e : MapEntry} {p : κ × υ}, Ent ek eu es m → e.key = ek p.1 → e.val = eu p.2 → Ent ek eu (es ++ [e]) (m ++ [p])
  | [], [], _, _, _, h1, h2 => ⟨h1, h2, trivial⟩
  | _ :: _, _ :: _, _, _, h, h1, h2 => ⟨h.1, h.2.1, h.2.2.snoc h1 h2⟩
  | [], _ :: _, _, _, h, _, _ => h.elim
  | _ :: _, [], _, _, h, _, _ => h.elim
theorem Ent.modify [DecidableEq κ] {k : κ} {v : υ} : ∀ {es : List MapEntry} {m : List (κ × υ)} {j : Nat} {u : υ}, Ent ek eu es m → (m.map (·.1)).Nodup → m[j]? = some (k, u) →
    Ent ek eu (es.modify j fun e => { e with key := ek k, val := eu v }) (m.map fun p => if p.1 = k then (k, v) else p)
  | [], [], _, _, _, _, h => by simp at h
  | e :: es, p :: m, 0, u, h, hn, hj => by
    simp only [List.getElem?_cons_zero, Option.some.injEq] at hj
    subst hj
    simp only [List.map_cons, List.nodup_cons] at hn
    have hid : ∀ (l : List (κ × υ)), k ∉ l.map (·.1) → (l.map fun p => if p.1 = k then (k, v) else p) = l := by
      intro l hl
      conv => rhs; rw [← List.map_id l]
      apply List.map_congr_left
      intro p hp
      have hpk : ¬ p.1 = k := by rintro rfl; exact hl (List.mem_map_of_mem hp)
      rw [if_neg hpk]; rfl
    simp only [List.modify_zero_cons, List.map_cons, if_true]
    rw [hid m hn.1]
    exact ⟨rfl, rfl, h.2.2⟩
  | e :: es, p :: m, j + 1, u, h, hn, hj => by
    simp only [List.map_cons, List.nodup_cons] at hn
    have hj' : m[j]? = some (k, u) := by simpa using hj
    have hne : ¬ p.1 = k := by
      intro e'
      exact hn.1 (e' ▸ List.mem_map.2 ⟨(k, u), List.mem_of_getElem? hj', rfl⟩)
    simp only [List.modify_succ_cons, List.map_cons, if_neg hne]
    exact ⟨h.1, h.2.1, h.2.2.modify hn.2 hj'⟩
  | [], _ :: _, _, _, h, _, _ => h.elim
  | _ :: _, [], _, _, h, _, _ => h.elim
/-- keys that are told apart at once -/
structure Key [DecidableEq κ] (P : Program) (kt : TypeId) (kind : TypeDesc) (ek : κ → Value) : Prop where
  under : P.underlying kt = some kind
  tells : Tells kind ek
  check : ∀ b k w, (Instr.checkKey b 10000 kt (ek k)).run P w = .ok () w
  stays : ∀ k, Instr.sameBits 10000 (ek k) (ek k) = true
end
theorem key_int {P : Program} {kt : TypeId} {ik : IntKind} (hu : P.underlying kt = some (.int ik)) : Key P kt (.int ik) (fun n : Int => .int .i64 n) where
  under := hu
  tells := fun a b => by simp [Instr.sameNow, beq_int]
  check := fun b k w => by
    unfold Instr.checkKey
    simp [run_underlying hu]
  stays := fun k => by simp [Instr.sameBits]
theorem beq_bytes (s t : Str) : ((⟨s.toArray⟩ : ByteArray) == ⟨t.toArray⟩) = decide (s = t) := by
  rw [beq_toListBytes, strV_toList, strV_toList, beq_str]
theorem key_str {P : Program} {kt : TypeId} (hu : P.underlying kt = some .string) : Key P kt .string strV where
  under := hu
  tells := fun a b => by simp only [strV, Instr.sameNow, beq_bytes]
  check := fun b k w => by
    unfold Instr.checkKey strV
    simp [run_underlying hu]
  stays := fun k => by simp [strV, Instr.sameBits, beq_bytes]
section
variable {κ υ : Type} {ek : κ → Value} {eu : υ → Value}
variable {P : Program} {n : Nat} {ops : Array Oper} {rest : List Oper} {K : Env → World → Prop} {σ : Env} {w w0 : World} {h0 h : Heap} {own : Own} {ty : TypeId} {pos : String} {aft : Array Edge} {d : Nat} {dst : Option Tmp} {g : Option (Nat × Bool)}
theorem OpsL.makeMap (st : St h0 w0 h w own) {t : TypeId} (hd : Nat.blt d n = true)
    (hk : ∀ v o w', OM ek eu ([] : List (κ × υ)) o v → St h0 w0 h w' (own ++ [o]) → OpsL P n ops rest K (upd σ d v) w') :
    OpsL P n ops (⟨some d, .makeMap t none, ty, pos, aft, none⟩ :: rest) K σ w := by
  refine OpsL.val rfl hd (v := .map (some w.heap.size)) (w' := w.alloc (.map #[] 0)) ?_ (hk _ [(w.heap.size, .map #[] 0)] _ ⟨_, _, _, rfl, rfl, trivial, by simp, by simp⟩ (st.alloc _))
  simp [Run, execOp, Instr.makeMap]
theorem run_findKey [DecidableEq κ] {kt : TypeId} {kind : TypeDesc} (hK : Key P kt kind ek) (k : κ) (es : List MapEntry) (r : Option (Nat × Value)) (h : Instr.findNow kind (ek k) es 0 = some r) (w : World) : (Instr.findKey kt (ek k) es).run P w = .ok r w := by
  simp [Instr.findKey, run_underlying hK.under, h]
/-- a look-up -/
theorem r_lookup [DecidableEq κ] {t kt et : TypeId} {kind : TypeDesc} {x y : Operand} {m : List (κ × υ)} {o : List (Nat × Obj)} {v zv : Value} {k : κ} (hK : Key P kt kind ek) (ht : P.underlying t = some (.map kt et)) (hM : OM ek eu m o v) (hw : ∀ b ob, o = [(b, ob)] → w.heap[b]? = some ob)
    (hz : ∀ w, (zeroValue et).run P w = .ok zv w) (hx : ev σ x = v) (hy : ev σ y = ek k) :
    Run P σ w ⟨dst, .lookup t x y false, ty, pos, aft, g⟩ (match look m k with | some u => eu u | none => zv) w := by
  obtain ⟨b, es, clock, rfl, rfl, hE, _, _⟩ := hM
  have hb := hw b _ rfl
  have hgo : ∀ r, Instr.findNow kind (ek k) es.toList 0 = some r → (Instr.lookup t (.map (some b)) (ek k) false).run P w = .ok (match r with | some (_, v) => v | none => zv) w := by
    intro r hr
    have hf := run_findKey hK k es.toList r hr w
    have hc := hK.check es.isEmpty k w
    have hg : (getObj b).run P w = .ok (.map es clock) w := by simp [getObj, Sem.run, hb]
    simp only [Instr.lookup, Sem.run_bind, run_underlying ht, Result.andThen_ok, hg, Sem.run_pure, hc, hf]
    cases r with
    | none => simp [hz]
    | some r => simp
  cases hl : look m k with
  | none =>
    have := hgo _ (find_none hK.tells 0 hE hl)
    simp [Run, execOp, hx, hy, this]
  | some u =>
    obtain ⟨j, _, _, _, h4⟩ := find_some hK.tells 0 hE hl
    have := hgo _ h4
    simp [Run, execOp, hx, hy, this]
theorem r_lookup_ok [DecidableEq κ] {t kt et : TypeId} {kind : TypeDesc} {x y : Operand} {m : List (κ × υ)} {o : List (Nat × Obj)} {v zv : Value} {k : κ} (hK : Key P kt kind ek) (ht : P.underlying t = some (.map kt et)) (hM : OM ek eu m o v) (hw : ∀ b ob, o = [(b, ob)] → w.heap[b]? = some ob)
    (hz : ∀ w, (zeroValue et).run P w = .ok zv w) (hx : ev σ x = v) (hy : ev σ y = ek k) :
    Run P σ w ⟨dst, .lookup t x y true, ty, pos, aft, g⟩ (.tuple #[match look m k with | some u => eu u | none => zv, .bool (look m k).isSome]) w := by
  obtain ⟨b, es, clock, rfl, rfl, hE, _, _⟩ := hM
  have hb := hw b _ rfl
  have hgo : ∀ r, Instr.findNow kind (ek k) es.toList 0 = some r → (Instr.lookup t (.map (some b)) (ek k) true).run P w = .ok (.tuple #[match r with | some (_, v) => v | none => zv, .bool r.isSome]) w := by
    intro r hr
    have hf := run_findKey hK k es.toList r hr w
    have hc := hK.check es.isEmpty k w
    have hg : (getObj b).run P w = .ok (.map es clock) w := by simp [getObj, Sem.run, hb]
    simp only [Instr.lookup, Sem.run_bind, run_underlying ht, Result.andThen_ok, hg, Sem.run_pure, hc, hf]
    cases r with
    | none => simp [hz]
    | some r => simp
  cases hl : look m k with
  | none =>
    have := hgo _ (find_none hK.tells 0 hE hl)
    simp [Run, execOp, hx, hy, this]
  | some u =>
    obtain ⟨j, _, _, _, h4⟩ := find_some hK.tells 0 hE hl
    have := hgo _ h4
    simp [Run, execOp, hx, hy, this]
theorem r_look [DecidableEq κ] {t kt et : TypeId} {kind : TypeDesc} {x y : Operand} {m : List (κ × υ)} {o : List (Nat × Obj)} {v zv : Value} {k : κ} {zu : υ} (hK : Key P kt kind ek) (ht : P.underlying t = some (.map kt et)) (hM : OM ek eu m o v) (hw : ∀ b ob, o = [(b, ob)] → w.heap[b]? = some ob)
    (hz : ∀ w, (zeroValue et).run P w = .ok zv w) (hzu : zv = eu zu) (hx : ev σ x = v) (hy : ev σ y = ek k) :
    Run P σ w ⟨dst, .lookup t x y false, ty, pos, aft, g⟩ (eu ((look m k).getD zu)) w := by
  have := r_lookup (P := P) (σ := σ) (w := w) (ty := ty) (pos := pos) (aft := aft) (dst := dst) (g := g) hK ht hM hw hz hx hy
  subst hzu
  cases h : look m k <;> simpa [h] using this
theorem r_look_ok [DecidableEq κ] {t kt et : TypeId} {kind : TypeDesc} {x y : Operand} {m : List (κ × υ)} {o : List (Nat × Obj)} {v zv : Value} {k : κ} {zu : υ} (hK : Key P kt kind ek) (ht : P.underlying t = some (.map kt et)) (hM : OM ek eu m o v) (hw : ∀ b ob, o = [(b, ob)] → w.heap[b]? = some ob)
    (hz : ∀ w, (zeroValue et).run P w = .ok zv w) (hzu : zv = eu zu) (hx : ev σ x = v) (hy : ev σ y = ek k) :
    Run P σ w ⟨dst, .lookup t x y true, ty, pos, aft, g⟩ (.tuple [eu ((look m k).getD zu), .bool (look m k).isSome].toArray) w := by
  have := r_lookup_ok (P := P) (σ := σ) (w := w) (ty := ty) (pos := pos) (aft := aft) (dst := dst) (g := g) hK ht hM hw hz hx hy
  subst hzu
  cases h : look m k <;> simpa [h] using this
theorem St.ent {h0 h : Heap} {w0 w : World} {own : Own} (st : St h0 w0 h w own) {k : Nat} {o : List (Nat × Obj)} (hk : own[k]? = some o) : ∀ b ob, o = [(b, ob)] → w.heap[b]? = some ob := fun _ _ e => st.get (e ▸ hk)
theorem Cls.ent {h : Heap} {w w' : World} (hc : Cls h w w') {o : List (Nat × Obj)} (hw : ∀ b ob, o = [(b, ob)] → w.heap[b]? = some ob) : ∀ b ob, o = [(b, ob)] → w'.heap[b]? = some ob := fun b ob e => hc.block (hw b ob e)
/-- a store into a map -/
theorem OpsL.mapUpdate [DecidableEq κ] {t kt et : TypeId} {kind : TypeDesc} {x y z : Operand} {m : List (κ × υ)} {o : List (Nat × Obj)} {v : Value} {k : κ} {u : υ} {i : Nat} (st : St h0 w0 h w own) (hM : OM ek eu m o v) (hi : own[i]? = some o) (hn : (m.map (·.1)).Nodup) (hK : Key P kt kind ek) (ht : P.underlying t = some (.map kt et))
    (hx : ev σ x = v) (hy : ev σ y = ek k) (hz : ev σ z = eu u)
    (hk : ∀ o' w' own', own' = own.set i o' → OM ek eu (putM m k u) o' v → ((putM m k u).map (·.1)).Nodup → St h0 w0 h w' own' → OpsL P n ops rest K σ w') :
    OpsL P n ops (⟨none, .mapUpdate t x y z, ty, pos, aft, none⟩ :: rest) K σ w := by
  obtain ⟨b, es, clock, rfl, rfl, hE, hB, hD⟩ := hM
  have hb := st.get hi
  have hg : (getObj b).run P w = .ok (.map es clock) w := by simp [getObj, Sem.run, hb]
  have hset : ∀ es' c', (setObj b (.map es' c')).run P w = .ok () { w with heap := w.heap.setIfInBounds b (.map es' c') } := by
    intro es' c'
    simp [setObj, Sem.run, hb]
  have hc := hK.check false k w
  cases hl : look m k with
  | none =>
    have hf := run_findKey hK k es.toList none (find_none hK.tells 0 hE hl) w
    have hp : putM m k u = m ++ [(k, u)] := by simp [putM, hl]
    refine OpsL.eff rfl rfl (w' := { w with heap := w.heap.setIfInBounds b (.map (es.push { key := ek k, val := eu u, born := clock }) (clock + 1)) }) ?_ (hk _ _ _ rfl ⟨b, es.push { key := ek k, val := eu u, born := clock }, clock + 1, rfl, rfl, ?_, ?_, ?_⟩ ?_ (st.set _ hi))
    · simp only [execOp, hx, hy, hz, Instr.mapUpdate, Sem.run_bind, run_underlying ht, Result.andThen_ok, hg, hc, hf, hset, Sem.run_pure]
    · rw [hp, Array.toList_push]; exact hE.snoc rfl rfl
    · intro e he
      rw [Array.toList_push, List.mem_append] at he
      rcases he with he | he
      · exact Nat.lt_succ_of_lt (hB e he)
      · simp at he; subst he; exact Nat.lt_succ_self _
    · rw [Array.toList_push, List.map_append, List.nodup_append]
      refine ⟨hD, by simp, fun a ha c hc' => ?_⟩
      simp at hc'
      subst hc'
      obtain ⟨e, he, rfl⟩ := List.mem_map.1 ha
      exact Nat.ne_of_lt (hB e he)
    · rw [hp, List.map_append, List.nodup_append]
      refine ⟨hn, by simp, fun a ha c hc' => ?_⟩
      simp at hc'
      subst hc'
      rintro rfl
      obtain ⟨p, hp', rfl⟩ := List.mem_map.1 ha
      have : (m.find? fun q => decide (q.1 = p.1)).isSome = true := by
        rw [List.find?_isSome]; exact ⟨p, hp', by simp⟩
      simp only [look, Option.map_eq_none_iff] at hl
      rw [hl] at this; cases this
  | some q =>
    obtain ⟨j, h1, h2, _, h4⟩ := find_some hK.tells 0 hE hl
    have hf := run_findKey hK k es.toList _ h4 w
    simp only [Nat.zero_add] at hf
    have hlen := hE.len
    have hp : putM m k u = m.map fun p => if p.1 = k then (k, u) else p := by simp [putM, hl]
    have hkey : ((es[j]?).map (·.key)).getD (ek k) = ek k := by
      have h5 : ∀ {es : List MapEntry} {m : List (κ × υ)} {j : Nat} {p : κ × υ}, Ent ek eu es m → m[j]? = some p → ∃ e, es[j]? = some e ∧ e.key = ek p.1 := by
        intro es
        induction es with
        | nil => intro m j p hE hj; cases m with
          | nil => simp at hj
          | cons => exact hE.elim
        | cons e es ih => intro m j p hE hj; cases m with
          | nil => exact hE.elim
          | cons r m => cases j with
            | zero => simp at hj; subst hj; exact ⟨e, rfl, hE.1⟩
            | succ j => obtain ⟨e', h6, h7⟩ := ih hE.2.2 (by simpa using hj); exact ⟨e', by simpa using h6, h7⟩
      obtain ⟨e, h6, h7⟩ := h5 hE h2
      rw [← Array.getElem?_toList, h6]; simpa using h7
    refine OpsL.eff rfl rfl (w' := { w with heap := w.heap.setIfInBounds b (.map (es.modify j fun e => { e with key := ek k, val := eu u }) clock) }) ?_ (hk _ _ _ rfl ⟨b, es.modify j fun e => { e with key := ek k, val := eu u }, clock, rfl, rfl, ?_, ?_, ?_⟩ ?_ (st.set _ hi))
    · simp only [execOp, hx, hy, hz, Instr.mapUpdate, Sem.run_bind, run_underlying ht, Result.andThen_ok, hg, hc, hf, hkey, Instr.keyThatStays, hK.stays, if_true, hset, Sem.run_pure]
    · rw [hp, Array.toList_modify]; exact hE.modify hn h2
    · intro e he
      rw [Array.toList_modify] at he
      obtain ⟨i', hi'⟩ := List.mem_iff_getElem?.1 he
      rw [List.getElem?_modify] at hi'
      cases h8 : es.toList[i']? with
      | none => simp [h8] at hi'
      | some e' =>
        simp only [h8, Option.map_some] at hi'
        have := hB e' (List.mem_of_getElem? h8)
        split at hi' <;> (cases hi'; exact this)
    · have h9 : ((es.modify j fun e => { e with key := ek k, val := eu u }).toList.map (·.born)) = es.toList.map (·.born) := by
        rw [Array.toList_modify]
        apply List.ext_getElem?
        intro i'
        rw [List.getElem?_map, List.getElem?_map, List.getElem?_modify]
        cases es.toList[i']? with
        | none => rfl
        | some e' => simp only [Option.map_some]; split <;> rfl
      rw [h9]; exact hD
    · have h10 : (putM m k u).map (·.1) = m.map (·.1) := by
        rw [hp, List.map_map]
        apply List.map_congr_left
        intro p _
        simp only [Function.comp]
        split
        · rename_i e; exact e.symm
        · rfl
      rw [h10]; exact hn
end
section
variable {P : Program} {n : Nat} {Q : Exit → Env → World → Prop} {σ : Env} {w : World}
def NoGo (Q : Exit → Env → World → Prop) : Exit → Env → World → Prop
  | .goto _, _, _ => False
  | e, σ, w => Q e σ w
theorem W.scope {c : Code} (h : W P n c (NoGo Q) σ w) : W P n (.scope c) Q σ w := by
  intro a ha
  refine wp_scope_straight (Code.wp_mono ?_ (h a ha))
  rintro e a' w' ⟨σ', hf, q⟩
  cases e <;> first | exact ⟨σ', hf, q⟩ | exact q.elim
theorem NoGo.norm (h : Q .normal σ w) : NoGo Q .normal σ w := h
theorem NoGo.exit {id : Nat} (h : Q (.exit id) σ w) : NoGo Q (.exit id) σ w := h
theorem NoGo.ret (h : Q .ret σ w) : NoGo Q .ret σ w := h
end
/-- the bytes of a string, in a slice of its own -/
theorem OpsL.strBytes {P : Program} {n : Nat} {ops : Array Oper} {rest : List Oper} {K : Env → World → Prop} {σ : Env} {w w0 : World} {h0 h : Heap} {own : Own} {ty : TypeId} {pos : String} {aft : Array Edge} {d : Nat} {x : Operand} {s : Str} {sT dT e : TypeId} (st : St h0 w0 h w own) (hx : ev σ x = strV s) (hl : s.length ≤ 281474976710656) (hd : Nat.blt d n = true)
    (hs : P.underlying sT = some .string) (ht : P.underlying dT = some (.slice e)) (he : P.underlying e = some (.int .u8)) (hsz : ∀ w, (sizeOf e).run P w = .ok 1 w)
    (hk : ∀ v w' h', Le h h' → Sl LU8 h' v (s.map fun c => (c.toNat : Int)) → St h0 w0 h' w' own → OpsL P n ops rest K (upd σ d v) w') :
    OpsL P n ops (⟨some d, .convert sT dT x, ty, pos, aft, none⟩ :: rest) K σ w := by
  have hr := run_bytes_of_string (P := P) w sT dT e ⟨s.toArray⟩ hs ht he
  generalize hcap : grownCap w (⟨s.toArray⟩ : ByteArray).size 0 e = cap at hr
  generalize hrow : bytesRow ⟨s.toArray⟩ cap = row at hr
  have st' := (st.drew).alloc (.cells row e (row.size, row.size + 1))
  obtain ⟨h', hl', hb, st''⟩ := st'.freeze (k := own.length) (b := w.heap.size) (o := .cells row e (row.size, row.size + 1)) (by simp)
  have e1 : (own ++ [[(w.drew.heap.size, Obj.cells row e (row.size, row.size + 1))]]).set own.length [] = own ++ [[]] := by simp
  rw [e1] at st''
  have st3 : St h0 w0 h' (w.drew.alloc (.cells row e (row.size, row.size + 1))) own := ⟨st''.le, st''.new, st''.sub, st''.below, fun p hp => st''.mine p (by simpa using hp), by simpa using st''.nodup⟩
  refine OpsL.val rfl hd (v := .slice (some ⟨w.heap.size, 0, none⟩) (⟨s.toArray⟩ : ByteArray).size cap) (w' := w.drew.alloc (.cells row e (row.size, row.size + 1))) ?_ (hk _ _ h' hl' ?_ st3)
  · simp only [strV] at hx
    simp [Run, execOp, hx, hr]
  · refine ⟨_, cap, by simp [ByteArray.size], by simpa [big] using hl, .inr ⟨w.heap.size, 0, rfl, fun i x hi => ⟨_, ⟨row, e, _, hb, fun j u hj => ?_⟩, ⟨rfl, ?_⟩⟩⟩⟩
    · cases j with
      | zero =>
        simp only [List.getElem?_cons_zero, Option.some.injEq] at hj
        subst hj
        simp only [List.getElem?_map, Option.map_eq_some_iff] at hi
        obtain ⟨c, hc, rfl⟩ := hi
        obtain ⟨h1, h2⟩ := List.getElem?_eq_some_iff.1 hc
        have := bytesRow_at ⟨s.toArray⟩ cap i (by simpa using h1)
        rw [← hrow]
        simp only [LU8, Nat.mul_one, Nat.zero_add, Nat.add_zero]
        rw [this]
        simp [h2]
      | succ j => simp at hj
    · simp only [List.getElem?_map, Option.map_eq_some_iff] at hi
      obtain ⟨c, _, rfl⟩ := hi
      have := c.toNat_lt
      omega
end Go.Pk
