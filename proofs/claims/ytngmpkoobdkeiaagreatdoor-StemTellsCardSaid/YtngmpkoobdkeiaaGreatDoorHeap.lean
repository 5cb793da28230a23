/- MEMORY: what is frozen (a partial heap that never turns), what is the walk's own; layouts of data. -/
import Derived.Test.YtngmpkoobdkeiaaGreatDoorEnv
namespace Go.Pk
open Go Go.RowKit

abbrev Heap := Nat → Option Obj
def Sub (h : Heap) (w : World) : Prop := ∀ b o, h b = some o → w.heap[b]? = some o
def Le (h h' : Heap) : Prop := ∀ b o, h b = some o → h' b = some o
theorem Le.refl (h : Heap) : Le h h := fun _ _ e => e
theorem Le.trans {a b c : Heap} (x : Le a b) (y : Le b c) : Le a c := fun k o e => y k o (x k o e)
def Heap.put (h : Heap) (b : Nat) (o : Obj) : Heap := fun i => bif Nat.beq i b then some o else h i
theorem Heap.put_same (h : Heap) (b : Nat) (o : Obj) : h.put b o b = some o := by simp [Heap.put]
theorem Heap.put_ne (h : Heap) (b i : Nat) (o : Obj) (e : i ≠ b) : h.put b o i = h i := by
  have : Nat.beq i b = false := by
    cases q : Nat.beq i b with
    | true => exact absurd (Nat.eq_of_beq_eq_true q) e
    | false => rfl
  simp [Heap.put, this]
abbrev Own := List (List (Nat × Obj))
/-- what a walk leaves of a world: all blocks below B; it may have drawn -/
structure Bel (B : Nat) (w w' : World) : Prop where
  os : w'.os = w.os
  tape : w'.tape = w.tape
  output : w'.output = w.output
  size : w.heap.size ≤ w'.heap.size
  block : ∀ k, k < B → w'.heap[k]? = w.heap[k]?
  drawn : w.drawn ≤ w'.drawn
theorem Bel.refl (B : Nat) (w : World) : Bel B w w := ⟨rfl, rfl, rfl, Nat.le_refl _, fun _ _ => rfl, Nat.le_refl _⟩
theorem Bel.trans {B : Nat} {a b c : World} (h : Bel B a b) (k : Bel B b c) : Bel B a c :=
  ⟨k.os.trans h.os, k.tape.trans h.tape, k.output.trans h.output, Nat.le_trans h.size k.size, fun i hi => (k.block i hi).trans (h.block i hi), Nat.le_trans h.drawn k.drawn⟩
theorem Bel.mono {B B' : Nat} {w w' : World} (h : Bel B w w') (hB : B' ≤ B) : Bel B' w w' := ⟨h.os, h.tape, h.output, h.size, fun k hk => h.block k (Nat.lt_of_lt_of_le hk hB), h.drawn⟩
theorem Bel.alloc {B : Nat} {a w : World} (h : Bel B a w) (hB : B ≤ w.heap.size) (o : Obj) : Bel B a (w.alloc o) :=
  h.trans ⟨rfl, rfl, rfl, by simp, fun k hk => Below.heap_alloc _ _ _ (by omega), Nat.le_refl _⟩
structure St (h0 : Heap) (w0 : World) (h : Heap) (w : World) (own : Own) : Prop where
  le : Le h0 h
  new : ∀ b, b < w0.heap.size → h b = h0 b
  sub : Sub h w
  below : Bel w0.heap.size w0 w
  mine : ∀ p ∈ own.flatten, w.heap[p.1]? = some p.2 ∧ h p.1 = none ∧ w0.heap.size ≤ p.1
  nodup : (own.flatten.map (·.1)).Nodup
section
variable {h0 h h' : Heap} {w0 w w' : World} {own own' : Own}
theorem St.start (hs : Sub h w) : St h w h w [] := ⟨Le.refl h, fun _ _ => rfl, hs, Bel.refl _ _, by simp, by simp⟩
theorem lt_of_some {w : World} {b : Nat} {o : Obj} (h : w.heap[b]? = some o) : b < w.heap.size := by
  rcases Nat.lt_or_ge b w.heap.size with h1 | h1
  · exact h1
  · rw [Array.getElem?_eq_none h1] at h; cases h
theorem St.call (st : St h0 w0 h w own) (s : St h w h' w' own') : St h0 w0 h' w' (own ++ own') := by
  refine ⟨st.le.trans s.le, fun b hb => ?_, s.sub, st.below.trans (s.below.mono st.below.size), ?_, ?_⟩
  · rw [s.new b (Nat.lt_of_lt_of_le hb st.below.size), st.new b hb]
  · intro p hp
    rw [List.flatten_append, List.mem_append] at hp
    rcases hp with hp | hp
    · obtain ⟨a1, a2, a3⟩ := st.mine p hp
      have hlt := lt_of_some a1
      exact ⟨by rw [s.below.block _ hlt]; exact a1, by rw [s.new _ hlt]; exact a2, a3⟩
    · obtain ⟨a1, a2, a3⟩ := s.mine p hp
      exact ⟨a1, a2, Nat.le_trans st.below.size a3⟩
  · rw [List.flatten_append, List.map_append, List.nodup_append]
    refine ⟨st.nodup, s.nodup, ?_⟩
    intro a ha b hb e
    subst e
    simp only [List.mem_map] at ha hb
    obtain ⟨p, hp, rfl⟩ := ha
    obtain ⟨q, hq, e⟩ := hb
    have h1 := lt_of_some (st.mine p hp).1
    have h2 := (s.mine q hq).2.2
    omega
theorem St.call0 (st : St h0 w0 h w own) (s : St h w h' w' []) : St h0 w0 h' w' own := by
  have := st.call s; rwa [List.append_nil] at this
theorem St.same (st : St h0 w0 h w own) (e : w'.heap = w.heap) (e1 : w'.os = w.os) (e2 : w'.tape = w.tape) (e3 : w'.output = w.output) (e4 : w.drawn ≤ w'.drawn) : St h0 w0 h w' own := by
  refine ⟨st.le, st.new, fun b o hb => by rw [e]; exact st.sub b o hb, st.below.trans ⟨e1, e2, e3, by rw [e]; exact Nat.le_refl _, fun k _ => by rw [e], e4⟩, fun p hp => by rw [e]; exact st.mine p hp, st.nodup⟩
theorem St.drew (st : St h0 w0 h w own) : St h0 w0 h w.drew own := st.same rfl rfl rfl rfl (Nat.le_succ _)
theorem none_of_ge (hs : Sub h w) {b : Nat} (hb : w.heap.size ≤ b) : h b = none := by
  cases e : h b with
  | none => rfl
  | some o => have := lt_of_some (hs b o e); omega
theorem heap_alloc_old (w : World) (o : Obj) (k : Nat) (h : k < w.heap.size) : (w.alloc o).heap[k]? = w.heap[k]? := Below.heap_alloc w o k h
theorem heap_alloc_new (w : World) (o : Obj) : (w.alloc o).heap[w.heap.size]? = some o := by
  show (w.heap.push o)[w.heap.size]? = _
  simp
/-- a new block, the walk's own -/
theorem St.alloc (st : St h0 w0 h w own) (o : Obj) : St h0 w0 h (w.alloc o) (own ++ [[(w.heap.size, o)]]) := by
  refine st.call ⟨Le.refl h, fun _ _ => rfl, fun b o hb => ?_, (Bel.refl _ _).alloc (Nat.le_refl _) o, ?_, by simp⟩
  · rw [heap_alloc_old _ _ _ (lt_of_some (st.sub b o hb))]; exact st.sub b o hb
  · intro p hp
    simp at hp
    subst hp
    exact ⟨heap_alloc_new w o, none_of_ge st.sub (Nat.le_refl _), Nat.le_refl _⟩
/-- what is the walk's own may be frozen -/
theorem St.freeze (st : St h0 w0 h w own) {k : Nat} {b : Nat} {o : Obj} (hk : own[k]? = some [(b, o)]) :
    ∃ h', Le h h' ∧ h' b = some o ∧ St h0 w0 h' w (own.set k []) := by
  have hmem : (b, o) ∈ own.flatten := List.mem_flatten.2 ⟨_, List.mem_of_getElem? hk, by simp⟩
  obtain ⟨a1, a2, a3⟩ := st.mine _ hmem
  simp only at a1 a2 a3
  have hle : Le h (h.put b o) := fun i q hq => by
    by_cases e : i = b
    · subst e; rw [a2] at hq; cases hq
    · rw [Heap.put_ne _ _ _ _ e]; exact hq
  have hlt : k < own.length := by
    rcases Nat.lt_or_ge k own.length with h1 | h1
    · exact h1
    · rw [List.getElem?_eq_none h1] at hk; cases hk
  have hsplit : own = own.take k ++ [(b, o)] :: own.drop (k + 1) := by
    have h1 : own[k] = [(b, o)] := by rw [List.getElem?_eq_getElem hlt] at hk; simpa using hk
    rw [← h1, List.getElem_cons_drop hlt, List.take_append_drop]
  have hset : own.set k [] = own.take k ++ [] :: own.drop (k + 1) := by
    rw [List.set_eq_take_append_cons_drop, if_pos hlt]
  have hflat : (own.set k []).flatten = (own.take k).flatten ++ (own.drop (k + 1)).flatten := by rw [hset]; simp
  have hflat' : own.flatten = (own.take k).flatten ++ (b, o) :: (own.drop (k + 1)).flatten := by
    conv => lhs; rw [hsplit]
    simp
  have hnd := st.nodup
  rw [hflat'] at hnd
  simp only [List.map_append, List.map_cons] at hnd
  rw [List.nodup_append] at hnd
  obtain ⟨n1, n2, n3⟩ := hnd
  rw [List.nodup_cons] at n2
  refine ⟨h.put b o, hle, Heap.put_same _ _ _, st.le.trans hle, fun i hi => ?_, fun i q hq => ?_, st.below, ?_, ?_⟩
  · rw [Heap.put_ne _ _ _ _ (by omega)]; exact st.new i hi
  · by_cases e : i = b
    · subst e; rw [Heap.put_same] at hq; cases hq; exact a1
    · rw [Heap.put_ne _ _ _ _ e] at hq; exact st.sub i q hq
  · intro p hp
    rw [hflat] at hp
    have hp' : p ∈ own.flatten := by
      rw [hflat']; simp only [List.mem_append, List.mem_cons] at hp ⊢
      rcases hp with hp | hp
      · exact .inl hp
      · exact .inr (.inr hp)
    obtain ⟨c1, c2, c3⟩ := st.mine p hp'
    refine ⟨c1, ?_, c3⟩
    have hne : p.1 ≠ b := by
      rintro e
      rw [List.mem_append] at hp
      rcases hp with hp | hp
      · exact n3 _ (List.mem_map_of_mem hp) _ (List.mem_cons_self ..) e
      · exact n2.1 (e ▸ List.mem_map_of_mem hp)
    rw [Heap.put_ne _ _ _ _ hne]; exact c2
  · rw [hflat, List.map_append, List.nodup_append]
    exact ⟨n1, n2.2, fun a ha c hc => n3 a ha c (List.mem_cons_of_mem _ hc)⟩
theorem St.drop (st : St h0 w0 h w own) (k : Nat) : St h0 w0 h w (own.set k []) := by
  have hsub : (own.set k []).flatten.Sublist own.flatten := by
    by_cases hlt : k < own.length
    · have hset : own.set k [] = own.take k ++ [] :: own.drop (k + 1) := by
        rw [List.set_eq_take_append_cons_drop, if_pos hlt]
      have hsplit : own = own.take k ++ own[k] :: own.drop (k + 1) := by
        rw [List.getElem_cons_drop hlt, List.take_append_drop]
      have hf : own.flatten = (own.take k).flatten ++ (own[k] ++ (own.drop (k + 1)).flatten) := by
        have e := congrArg List.flatten hsplit
        rw [List.flatten_append, List.flatten_cons] at e
        exact e
      rw [hset, hf]
      simp only [List.flatten_append, List.flatten_cons, List.nil_append]
      exact (List.Sublist.refl _).append (List.sublist_append_right _ _)
    · rw [List.set_eq_of_length_le (by omega)]
      exact List.Sublist.refl _
  exact ⟨st.le, st.new, st.sub, st.below, fun p hp => st.mine p (hsub.subset hp), (hsub.map _).nodup st.nodup⟩
theorem St.get (st : St h0 w0 h w own) {k b : Nat} {o : Obj} (hk : own[k]? = some [(b, o)]) : w.heap[b]? = some o :=
  (st.mine (b, o) (List.mem_flatten.2 ⟨_, List.mem_of_getElem? hk, by simp⟩)).1
theorem setBlock_get {w : World} {b : Nat} {o : Obj} (hb : b < w.heap.size) : ({ w with heap := w.heap.setIfInBounds b o } : World).heap[b]? = some o := by
  simp [hb]
/-- one of the walk's own blocks, turned -/
theorem St.set (st : St h0 w0 h w own) {k b : Nat} {o : Obj} (o' : Obj) (hk : own[k]? = some [(b, o)]) :
    St h0 w0 h { w with heap := w.heap.setIfInBounds b o' } (own.set k [(b, o')]) := by
  have hmem : (b, o) ∈ own.flatten := List.mem_flatten.2 ⟨_, List.mem_of_getElem? hk, by simp⟩
  obtain ⟨a1, a2, a3⟩ := st.mine _ hmem
  simp only at a1 a2 a3
  have hlt : k < own.length := by
    rcases Nat.lt_or_ge k own.length with h1 | h1
    · exact h1
    · rw [List.getElem?_eq_none h1] at hk; cases hk
  have hsplit : own = own.take k ++ [(b, o)] :: own.drop (k + 1) := by
    have h1 : own[k] = [(b, o)] := by rw [List.getElem?_eq_getElem hlt] at hk; simpa using hk
    rw [← h1, List.getElem_cons_drop hlt, List.take_append_drop]
  have hset : own.set k [(b, o')] = own.take k ++ [(b, o')] :: own.drop (k + 1) := by
    rw [List.set_eq_take_append_cons_drop, if_pos hlt]
  have hflat' : own.flatten = (own.take k).flatten ++ (b, o) :: (own.drop (k + 1)).flatten := by
    conv => lhs; rw [hsplit]
    simp
  have hflat : (own.set k [(b, o')]).flatten = (own.take k).flatten ++ (b, o') :: (own.drop (k + 1)).flatten := by rw [hset]; simp
  have hnd := st.nodup
  have hnd' := hnd
  rw [hflat'] at hnd'
  simp only [List.map_append, List.map_cons] at hnd'
  have hn3 := (List.nodup_append.1 hnd').2.2
  have hn2 := (List.nodup_cons.1 (List.nodup_append.1 hnd').2.1).1
  have hbs := lt_of_some a1
  have hother : ∀ i, i ≠ b → ({ w with heap := w.heap.setIfInBounds b o' } : World).heap[i]? = w.heap[i]? := fun i hi => by
    simp only [Array.getElem?_setIfInBounds_ne (Ne.symm hi)]
  refine ⟨st.le, st.new, fun i q hq => ?_, ⟨st.below.os, st.below.tape, st.below.output, by simpa using st.below.size, fun i hi => ?_, st.below.drawn⟩, ?_, ?_⟩
  · rw [hother i (by rintro rfl; rw [a2] at hq; cases hq)]; exact st.sub i q hq
  · rw [hother i (by omega)]; exact st.below.block i hi
  · intro p hp
    rw [hflat, List.mem_append, List.mem_cons] at hp
    rcases hp with hp | rfl | hp
    · have hne : p.1 ≠ b := fun e => hn3 _ (List.mem_map_of_mem hp) _ (List.mem_cons_self ..) e
      rw [hother _ hne]
      exact st.mine p (by rw [hflat']; exact List.mem_append_left _ hp)
    · exact ⟨setBlock_get hbs, a2, a3⟩
    · have hne : p.1 ≠ b := fun e => hn2 (e ▸ List.mem_map_of_mem hp)
      rw [hother _ hne]
      exact st.mine p (by rw [hflat']; exact List.mem_append_right _ (List.mem_cons_of_mem _ hp))
  · rw [hflat]; simpa using hnd'
theorem setCell_eq {w : World} {b off : Nat} {c : Array Value} {T : TypeId} {fr : Nat × Nat} {v : Value} (hb : w.heap[b]? = some (.cells c T fr)) :
    w.setCell ⟨b, off, none⟩ v = { w with heap := w.heap.setIfInBounds b (.cells (c.setIfInBounds off v) T fr) } := by
  have hlt := lt_of_some hb
  have hb' : w.heap[b] = .cells c T fr := by rw [Array.getElem?_eq_getElem hlt] at hb; simpa using hb
  simp only [World.setCell, Option.isSome_none, Bool.false_eq_true, if_false]
  congr 1
  apply Array.ext_getElem?
  intro i
  rw [Array.getElem?_modify, Array.getElem?_setIfInBounds]
  by_cases e : b = i
  · subst e; simp [hlt, hb']
  · simp [e]
end

/-- how a thing lies in cells -/
structure Lay (α : Type) where
  size : Nat
  R : Heap → List Value → α → Prop
  up : ∀ {h h' : Heap} {vs : List Value} {x : α}, R h vs x → Le h h' → R h' vs x
  len : ∀ {h : Heap} {vs : List Value} {x : α}, R h vs x → vs.length = size
  one : ∀ {h : Heap} {vs : List Value} {x : α}, R h vs x → ∀ u ∈ vs, u.oneCell' = true
def Cells (h : Heap) (b off : Nat) (vs : List Value) : Prop := ∃ c T fr, h b = some (.cells c T fr) ∧ ∀ j v, vs[j]? = some v → c[off + j]? = some v
theorem Cells.up {h h' : Heap} {b off : Nat} {vs : List Value} (hc : Cells h b off vs) (hl : Le h h') : Cells h' b off vs := by
  obtain ⟨c, T, fr, hb, hv⟩ := hc
  exact ⟨c, T, fr, hl _ _ hb, hv⟩
theorem Cells.cell {h : Heap} {w : World} {b off : Nat} {vs : List Value} (hc : Cells h b off vs) (hs : Sub h w) {j : Nat} {v : Value} (hv : vs[j]? = some v) : w.cell? ⟨b, off + j, none⟩ = some v := by
  obtain ⟨c, T, fr, hb, hcv⟩ := hc
  simp only [World.cell?, hs _ _ hb, Option.isSome_none, Bool.false_eq_true, if_false]
  exact hcv j v hv
def big : Nat := 2 ^ 48
/-- a slice whose elements are frozen -/
def Sl {α : Type} (L : Lay α) (h : Heap) (v : Value) (xs : List α) : Prop :=
  ∃ p c, v = .slice p xs.length c ∧ xs.length ≤ big ∧ (xs = [] ∨ ∃ b off, p = some ⟨b, off, none⟩ ∧ ∀ i x, xs[i]? = some x → ∃ vs, Cells h b (off + i * L.size) vs ∧ L.R h vs x)
theorem Sl.up {α : Type} {L : Lay α} {h h' : Heap} {v : Value} {xs : List α} (hs : Sl L h v xs) (hl : Le h h') : Sl L h' v xs := by
  obtain ⟨p, c, hv, hb, he⟩ := hs
  refine ⟨p, c, hv, hb, ?_⟩
  rcases he with he | ⟨b, off, hp, hx⟩
  · exact .inl he
  · exact .inr ⟨b, off, hp, fun i x hi => let ⟨vs, h1, h2⟩ := hx i x hi; ⟨vs, h1.up hl, L.up h2 hl⟩⟩
theorem Sl.nil {α : Type} (L : Lay α) (h : Heap) : Sl L h (.slice none 0 0) [] := ⟨none, 0, rfl, Nat.zero_le _, .inl rfl⟩
theorem Sl.le {α : Type} {L : Lay α} {h : Heap} {v : Value} {xs : List α} (hs : Sl L h v xs) : xs.length ≤ 281474976710656 := hs.choose_spec.choose_spec.2.1
abbrev Str := List UInt8
def strV (s : Str) : Value := .string ⟨s.toArray⟩
def LInt : Lay Int := { size := 1, R := fun _ vs x => vs = [.int .i64 x], up := fun h _ => h, len := by rintro _ _ _ rfl; rfl, one := by rintro _ _ _ rfl u hu; simp at hu; subst hu; rfl }
def LU8 : Lay Int := { size := 1, R := fun _ vs x => vs = [.int .u8 x] ∧ 0 ≤ x ∧ x ≤ 255, up := fun h _ => h, len := by rintro _ _ _ ⟨rfl, _⟩; rfl, one := by rintro _ _ _ ⟨rfl, _⟩ u hu; simp at hu; subst hu; rfl }
def LStr : Lay Str := { size := 1, R := fun _ vs x => vs = [strV x] ∧ x.length ≤ big, up := fun h _ => h, len := by rintro _ _ _ ⟨rfl, _⟩; rfl, one := by rintro _ _ _ ⟨rfl, _⟩ u hu; simp at hu; subst hu; rfl }
theorem Sl.one {α : Type} {L : Lay α} {h : Heap} {v : Value} {xs : List α} (hs : Sl L h v xs) : v.oneCell' = true := by
  obtain ⟨p, c, rfl, _⟩ := hs
  rfl
def LSl {α : Type} (L : Lay α) : Lay (List α) := { size := 1, R := fun h vs xs => ∃ v, vs = [v] ∧ Sl L h v xs, up := fun ⟨v, e, h⟩ hl => ⟨v, e, h.up hl⟩, len := by rintro _ _ _ ⟨v, rfl, _⟩; rfl, one := by rintro _ _ _ ⟨v, rfl, hs⟩ u hu; simp at hu; subst hu; exact hs.one }
theorem addr_add (b off k : Nat) : (⟨b, off, none⟩ : Addr).add k = ⟨b, off + k, none⟩ := by
  unfold Addr.add; split
  · rename_i h; subst h; rfl
  · rfl
end Go.Pk
