/- SORTING: the library's contract of slices.SortFunc at structs, over memory that the walk owns. -/
import Derived.Test.YtngmpkoobdkeiaaGreatDoorMap
import Derived.Shelf.SlSortCmp.NoneTotal
namespace Go.Pk
open Go Go.RowKit Go.Proofs Go.Shelf Go.Lib Go.Sort
theorem bel_grow {W w' : World} (b : Bel W.heap.size W w') : ∃ q os', w' = grow (W.drewN q) os' := by
  refine ⟨w'.drawn - W.drawn, w'.heap.extract W.heap.size w'.heap.size, ?_⟩
  obtain ⟨h1, h2, h3, h4, h5, h6⟩ := b
  cases w'; cases W
  simp only at h1 h2 h3 h4 h5 h6
  subst h1; subst h2; subst h3
  simp only [grow, World.drewN, World.mk.injEq, true_and, and_true]
  refine ⟨?_, by omega⟩
  apply Array.ext_getElem?
  intro i
  rw [Array.getElem?_append]
  split
  · rename_i hi; exact h5 i hi
  · rename_i hi
    rw [Array.getElem?_extract]
    split
    · congr 1; omega
    · rw [Array.getElem?_eq_none (by omega)]
theorem Bel.grow {B : Nat} {a w : World} (b : Bel B a w) (hB : B ≤ w.heap.size) (os : Array Obj) : Bel B a (grow w os) :=
  b.trans ⟨rfl, rfl, rfl, by simp [Go.Sort.grow], fun k hk => by simp only [Go.Sort.grow]; rw [Array.getElem?_append_left (by omega)], Nat.le_refl _⟩
theorem St.grow {h0 h : Heap} {w0 w : World} {own : Own} (st : St h0 w0 h w own) (os : Array Obj) : St h0 w0 h (grow w os) own := by
  have e : ∀ b o, w.heap[b]? = some o → (Go.Sort.grow w os).heap[b]? = some o := fun b o hb => by
    simp only [Go.Sort.grow]; rw [Array.getElem?_append_left (lt_of_some hb)]; exact hb
  exact ⟨st.le, st.new, fun b o hb => e b o (st.sub b o hb), st.below.grow st.below.size os, fun p hp => ⟨e _ _ (st.mine p hp).1, (st.mine p hp).2⟩, st.nodup⟩
theorem putRow_own {w : World} {b : Nat} {cur : Array Value} {T : TypeId} {F : Array Value} (hb : w.heap[b]? = some (.cells cur T)) (n : Nat) :
    putRow id (Go.Sort.ahead w n) b 0 F = { w with drawn := w.drawn + n, heap := w.heap.setIfInBounds b (.cells (putCells id 0 F cur) T) } := by
  have hlt := lt_of_some hb
  have hb' : w.heap[b] = .cells cur T := by rw [Array.getElem?_eq_getElem hlt] at hb; simpa using hb
  simp only [putRow, mapBlock, Go.Sort.ahead, World.mk.injEq, and_true, true_and]
  apply Array.ext_getElem?
  intro i
  rw [Array.getElem?_modify, Array.getElem?_setIfInBounds]
  by_cases e : b = i
  · subst e; simp [hlt, hb', onCells]
  · simp [e]
theorem putCells_take {F cur : Array Value} (h : F.size ≤ cur.size) : (putCells id 0 F cur).toList.take F.size = F.toList := by
  apply List.ext_getElem?
  intro i
  rw [List.getElem?_take]
  split
  · rename_i hi
    simp only [putCells, Array.getElem?_toList, Array.getElem?_mapIdx]
    rw [Array.getElem?_eq_getElem (show i < cur.size by omega), Array.getElem?_eq_getElem hi]
    simp [hi]
  · rename_i hi
    rw [List.getElem?_eq_none (by simpa using hi)]
theorem flatK_enc {α : Type} [Inhabited α] {L : Lay α} {h : Heap} {enc : α → List Value} (d : Array α) (hk : ∀ x, (enc x).length = L.size) (hR : ∀ x ∈ d.toList, L.R h (enc x) x) : Enc L h (flatK enc L.size d).toList d.toList := by
  refine ⟨by simp, fun i x hi => ?_⟩
  obtain ⟨h1, h2⟩ := List.getElem?_eq_some_iff.1 hi
  have h1' : i < d.size := by simpa using h1
  have e : ((flatK enc L.size d).toList.drop (i * L.size)).take L.size = enc x := by
    apply List.ext_getElem?
    intro j
    rw [List.getElem?_take]
    by_cases hj : j < L.size
    · rw [if_pos hj, List.getElem?_drop]
      have ht : i * L.size + j < d.size * L.size := by
        have : (i + 1) * L.size ≤ d.size * L.size := Nat.mul_le_mul_right _ h1'
        rw [Nat.add_mul, Nat.one_mul] at this; omega
      have h3 := get_flatK enc L.size d _ ht
      have hd : (i * L.size + j) / L.size = i := by rw [Nat.mul_comm, Nat.mul_add_div (by omega), Nat.div_eq_of_lt hj]; rfl
      have hm : (i * L.size + j) % L.size = j := by rw [Nat.mul_comm, Nat.mul_add_mod, Nat.mod_eq_of_lt hj]
      rw [hd, hm, getElem!_pos d i h1', getElem!_pos (flatK enc L.size d) _ (by simpa using ht)] at h3
      have hx : d[i] = x := by simpa using h2
      rw [hx, getElem!_pos (enc x) j (by rw [hk]; exact hj)] at h3
      rw [List.getElem?_eq_getElem (by simpa using ht), List.getElem?_eq_getElem (by rw [hk]; exact hj)]
      simpa using h3
    · rw [if_neg hj, List.getElem?_eq_none (by rw [hk]; omega)]
  rw [e]
  exact hR x (List.mem_of_getElem? hi)
theorem enc_flatK {α : Type} [Inhabited α] {L : Lay α} {h : Heap} {enc : α → List Value} (hpos : 0 < L.size) (d : Array α) (hE : ∀ {vs x}, L.R h vs x → vs = enc x) {cs : List Value} (e : Enc L h cs d.toList) {j : Nat} (hj : j < d.size * L.size) : cs[j]? = some (flatK enc L.size d)[j]! := by
  have hi : j / L.size < d.size := Nat.div_lt_of_lt_mul (by rwa [Nat.mul_comm])
  have hr := hE (e.2 (j / L.size) d[j / L.size] (by simp [hi]))
  rw [get_flatK enc L.size d j hj, getElem!_pos d _ hi, ← hr]
  have hlen : cs.length = d.size * L.size := by simpa using e.1
  have hm := Nat.mod_lt j hpos
  have hdm := Nat.div_add_mod j L.size
  rw [Nat.mul_comm] at hdm
  have hl : j % L.size < ((cs.drop (j / L.size * L.size)).take L.size).length := by
    simp only [List.length_take, List.length_drop]; omega
  rw [getElem!_pos ((cs.drop (j / L.size * L.size)).take L.size) (j % L.size) hl]
  simp only [List.getElem_take, List.getElem_drop, hdm]
  rw [List.getElem?_eq_getElem (by omega)]
/-- slices.SortFunc, at structs that hold no memory -/
theorem sortFunc {α : Type} {L : Lay α} {T : TypeId} {P : Program} {ρ : Ren} (LL : SlLaysF0.n6 P ρ) (aE : ∀ w, (isAgg (ρ.t 24)).run P w = .ok true w) (zE : ∀ w, (Go.sizeOf (ρ.t 24)).run P w = .ok L.size w) (hpos : 0 < L.size)
    (enc : α → List Value) (hE : ∀ {h vs x}, L.R h vs x → vs = enc x) (cf : α → α → Int) (hS : SWO (ltOf cf)) {g : Nat} {caps : List Value} {h0 h : Heap} {w0 w : World} {own : Own} {i : Nat} {v : Value} {xs : List α} {o : List (Nat × Obj)}
    (st : St h0 w0 h w own) (hO : OSl L T h v xs o) (hi : own[i]? = some o) (hlen : xs.length < 4611686018427387904) (eg : ∀ a w, (callFunc g a).run P w = .ok (.enter g a) w)
    (hcmp : ∀ x ∈ xs, ∀ y ∈ xs, ∀ w', Sub h w' → Calls P g (.agg (enc x).toArray :: .agg (enc y).toArray :: caps).toArray w' (Rets h w' fun _ _ r => r = .int .i64 (cf x y))) :
    Calls P (ρ.f 6) #[v, .func (.func g) #[] caps.toArray] w fun e w' => e = .returned (.tuple #[]) ∧ ∃ ys o' own', own' = own.set i o' ∧ ys.Perm xs ∧ ys.Pairwise (fun a b => ¬ cf b a < 0) ∧ OSl L T h v ys o' ∧ St h0 w0 h w' own' := by
  by_cases hx : xs = []
  · subst hx
    obtain ⟨p, c, rfl⟩ := hO.form
    refine (AnyF.slices_SortFunc_none LL p c _ w).mono ?_
    rintro e w' ⟨he, rfl⟩
    refine ⟨he, [], o, _, rfl, List.Perm.refl _, List.Pairwise.nil, hO, ?_⟩
    have e3 : own.set i o = own := by
      apply List.ext_getElem?
      intro j
      rw [List.getElem?_set]
      split
      · rename_i e4; subst e4
        split
        · exact hi.symm
        · rename_i h5; rw [List.getElem?_eq_none (by omega)]
      · rfl
    rw [e3]; exact st
  obtain ⟨cs, e1, ⟨⟨p, rfl⟩, rfl, rfl⟩ | ⟨b, cap, cur, rfl, rfl, hnc, hcm, hsz, htk⟩⟩ := hO
  · exact absurd rfl hx
  -- the elements, each with its place in the list
  let β := { x : α // x ∈ xs }
  haveI : Inhabited β := ⟨⟨xs.head hx, List.head_mem hx⟩⟩
  let enc' : β → List Value := fun x => enc x.1
  let cf' : β → β → Int := fun x y => cf x.1 y.1
  let d : Array β := xs.attach.toArray
  have hdl : d.size = xs.length := by show xs.attach.toArray.size = xs.length; rw [List.size_toArray]; exact List.length_attach
  have hmap : d.toList.map (·.1) = xs := by show xs.attach.map (·.1) = xs; exact List.attach_map_subtype_val xs
  have hRx : ∀ x : β, L.R h (enc x.1) x.1 := by
    intro x
    obtain ⟨j, hj⟩ := List.mem_iff_getElem?.1 x.2
    have := e1.2 j x.1 hj
    rwa [hE this] at this
  have hk : ∀ x : β, (enc' x).length = L.size := fun x => L.len (hRx x)
  let L' : Lay β := { size := L.size, R := fun h vs x => L.R h vs x.1, up := fun a b => L.up a b, len := fun a => L.len a, one := fun a => L.one a }
  have hb := st.get hi
  have hcsl : cs.length = xs.length * L.size := e1.1
  have e1' : Enc L' h cs d.toList := ⟨by rw [hcsl, ← hdl]; rfl, fun j x hj => e1.2 j x.1 (by
    have := congrArg (Option.map (·.1)) hj
    rw [← List.getElem?_map, hmap] at this
    simpa using this)⟩
  have hH : HoldsK enc' L.size w b 0 d := by
    intro j hj
    have hj' : j < d.size * L.size := by simpa using hj
    have hcj := enc_flatK (L := L') (enc := enc') hpos d (fun h => hE h) e1' hj'
    have hjc : j < cs.length := by rw [hcsl, ← hdl]; exact hj'
    have hcur : cur[j]? = some (flatK enc' L.size d)[j]! := by
      rw [← htk, List.getElem?_take] at hcj
      split at hcj
      · simpa using hcj
      · cases hcj
    refine ⟨?_, ?_⟩
    · simp only [World.cell?, hb, Option.isSome_none, Bool.false_eq_true, if_false, Nat.zero_add, id]
      exact hcur
    · simp [World.frozen?, hb]
  have hlt := lt_of_some hb
  have hsubs : ∀ m (os : Array Obj) (dk : Array β), Sub h (sortWorldK enc' L.size w b 0 m dk os) := by
    intro m os dk
    unfold sortWorldK putRowK
    rw [putRow_own hb]
    have := (((st.set (.cells (putCells id 0 (flatK enc' L.size dk) cur) T) hi).same (w' := { w with drawn := w.drawn + m, heap := w.heap.setIfInBounds b (.cells (putCells id 0 (flatK enc' L.size dk) cur) T) }) rfl rfl rfl rfl (Nat.le_add_right _ _)).grow os).sub
    exact this
  have hC : CmpLays P g caps.toArray enc' L.size cf' b 0 d.size w := by
    intro m os dk hdk x y
    have c : Calls P g (#[.agg (enc' x).toArray, .agg (enc' y).toArray] ++ caps.toArray) (sortWorldK enc' L.size w b 0 m dk os) (Rets h (sortWorldK enc' L.size w b 0 m dk os) fun _ _ r => r = .int .i64 (cf x.1 y.1)) := by
      simpa using hcmp x.1 x.2 y.1 y.2 _ (hsubs m os dk)
    refine c.mono ?_
    rintro e w' ⟨h', r, rfl, s, rfl⟩
    exact ⟨rfl, bel_grow s.below⟩
  have hS' : SWO (ltOf cf') := ⟨fun x => hS.irrefl x.1, fun x y z => hS.trans x.1 y.1 z.1, fun x y z => hS.ntrans x.1 y.1 z.1⟩
  have con := AnyQ.slices_SortFunc LL L.size aE zE enc' hk (fun x => L.one (hRx x)) cf' hS' g caps.toArray b 0 cap d w eg hC hH hlt (by rw [hdl]; exact hlen)
  rw [hdl] at con
  refine con.mono ?_
  rintro e w' ⟨he, d', n, os, ⟨p1, p2, p3⟩, hsort, rfl⟩
  have hd' : d'.size = xs.length := by rw [p1, hdl]
  refine ⟨he, d'.toList.map (·.1), [(b, .cells (putCells id 0 (flatK enc' L.size d') cur) T)], _, rfl, ?_, ?_, ?_, ?_⟩
  · have e3 : d'.extract 0 xs.length = d' := by rw [← hd']; simp
    have e4 : d.extract 0 xs.length = d := by rw [← hdl]; simp
    rw [e3, e4] at p3
    have := p3.map (fun x : β => x.1)
    rwa [hmap] at this
  · rw [List.pairwise_map, List.pairwise_iff_getElem]
    intro q r hq hr hqr
    have := hsort q r (Nat.zero_le _) hqr (by simpa [hd'] using hr)
    rw [getElem!_pos d' r (by simpa using hr), getElem!_pos d' q (by simpa using hq)] at this
    simp only [ltOf, decide_eq_false_iff_not, cf'] at this
    simpa using this
  · have hsf : (flatK enc' L.size d').size = xs.length * L.size := by simp [hd']
    have hfc : (flatK enc' L.size d').size ≤ cur.size := by rw [hsf, hsz]; exact Nat.mul_le_mul_right _ hnc
    refine ⟨(flatK enc' L.size d').toList, ?_, .inr ⟨b, cap, _, by simp [hd'], rfl, by simpa [hd'] using hnc, hcm, by simpa [putCells] using hsz, ?_⟩⟩
    · have := flatK_enc (L := L') (h := h) (enc := enc') d' hk (fun x _ => hRx x)
      refine ⟨by simp [hd'], fun j x hj => ?_⟩
      rw [List.getElem?_map] at hj
      obtain ⟨y, hy, rfl⟩ := Option.map_eq_some_iff.1 hj
      exact this.2 j y hy
    · have := putCells_take hfc
      rw [hsf] at this
      simpa [hd'] using this
  · unfold sortWorldK putRowK
    rw [putRow_own hb]
    exact ((st.set (.cells (putCells id 0 (flatK enc' L.size d') cur) T) hi).same (w' := { w with drawn := w.drawn + n, heap := w.heap.setIfInBounds b (.cells (putCells id 0 (flatK enc' L.size d') cur) T) }) rfl rfl rfl rfl (Nat.le_add_right _ _)).grow os
theorem swo_asc {α : Type} (f : α → Int) : SWO (ltOf fun a b => f a - f b) := by
  refine ⟨fun x => ?_, fun x y z h1 h2 => ?_, fun x y z h1 h2 => ?_⟩ <;> simp only [ltOf, decide_eq_true_eq, decide_eq_false_iff_not] at * <;> omega
theorem swo_desc {α : Type} (f : α → Int) : SWO (ltOf fun a b => f b - f a) := by
  refine ⟨fun x => ?_, fun x y z h1 h2 => ?_, fun x y z h1 h2 => ?_⟩ <;> simp only [ltOf, decide_eq_true_eq, decide_eq_false_iff_not] at * <;> omega
theorem OSl.memR {α : Type} {L : Lay α} {T : TypeId} {h : Heap} {v : Value} {xs : List α} {o : List (Nat × Obj)} (hO : OSl L T h v xs o) {x : α} (hx : x ∈ xs) : ∃ vs, L.R h vs x := by
  obtain ⟨cs, e, _⟩ := hO
  obtain ⟨j, hj⟩ := List.mem_iff_getElem?.1 hx
  exact ⟨_, e.2 j x hj⟩
theorem Sl.memR {α : Type} {L : Lay α} {h : Heap} {v : Value} {xs : List α} (hs : Sl L h v xs) {x : α} (hx : x ∈ xs) : ∃ vs, L.R h vs x := by
  obtain ⟨p, c, _, _, rfl | ⟨b, off, _, hh⟩⟩ := hs
  · cases hx
  · obtain ⟨j, hj⟩ := List.mem_iff_getElem?.1 hx
    obtain ⟨vs, _, hr⟩ := hh j x hj
    exact ⟨vs, hr⟩
theorem putRow_own1 {α : Type} [Inhabited α] {enc : α → Value} {w : World} {b : Nat} {cur : Array Value} {T : TypeId} {F : Array α} (hb : w.heap[b]? = some (.cells cur T)) (n : Nat) :
    putRow enc (Go.Sort.ahead w n) b 0 F = { w with drawn := w.drawn + n, heap := w.heap.setIfInBounds b (.cells (putCells enc 0 F cur) T) } := by
  have hlt := lt_of_some hb
  have hb' : w.heap[b] = .cells cur T := by rw [Array.getElem?_eq_getElem hlt] at hb; simpa using hb
  simp only [putRow, mapBlock, Go.Sort.ahead, World.mk.injEq, and_true, true_and]
  apply Array.ext_getElem?
  intro i
  rw [Array.getElem?_modify, Array.getElem?_setIfInBounds]
  by_cases e : b = i
  · subst e; simp [hlt, hb', onCells]
  · simp [e]
theorem putCells_take1 {α : Type} [Inhabited α] {enc : α → Value} {F : Array α} {cur : Array Value} (h : F.size ≤ cur.size) : (putCells enc 0 F cur).toList.take F.size = F.toList.map enc := by
  apply List.ext_getElem?
  intro i
  rw [List.getElem?_take, List.getElem?_map]
  split
  · rename_i hi
    simp only [putCells, Array.getElem?_toList, Array.getElem?_mapIdx]
    rw [Array.getElem?_eq_getElem (show i < cur.size by omega), Array.getElem?_eq_getElem hi]
    simp [hi]
  · rename_i hi
    rw [List.getElem?_eq_none (by simpa using hi)]; rfl
/-- slices.Sort at elements of one cell -/
theorem sort1 {α : Type} [Inhabited α] {L : Lay α} {T : TypeId} {P : Program} {f : FuncId} (enc : α → Value) (hE : ∀ {h vs x}, L.R h vs x → vs = [enc x]) (hz : L.size = 1) (srt : List α → List α) (hp : ∀ l, (srt l).Perm l)
    (hc : ∀ blk off cap (zs : List α) w, Holds enc w blk off zs.toArray → blk < w.heap.size → zs.length < 4611686018427387904 → Calls P f #[.slice (some ⟨blk, off, none⟩) zs.length cap] w fun e w' => e = .returned (.tuple #[]) ∧ ∃ n os, w' = Go.Sort.grow (putRow enc (Go.Sort.ahead w n) blk off (srt zs).toArray) os)
    (hn : ∀ p cap w, Calls P f #[.slice p 0 cap] w fun e w' => e = .returned (.tuple #[]) ∧ w' = w)
    {h0 h : Heap} {w0 w : World} {own : Own} {i : Nat} {v : Value} {xs : List α} {o : List (Nat × Obj)} (st : St h0 w0 h w own) (hO : OSl L T h v xs o) (hi : own[i]? = some o) (hlen : xs.length < 4611686018427387904) :
    Calls P f #[v] w fun e w' => e = .returned (.tuple #[]) ∧ ∃ o' own', own' = own.set i o' ∧ OSl L T h v (srt xs) o' ∧ St h0 w0 h w' own' := by
  obtain ⟨cs, e1, ⟨⟨p, rfl⟩, rfl, rfl⟩ | ⟨b, cap, cur, rfl, rfl, hnc, hcm, hsz, htk⟩⟩ := hO
  · refine (hn p 0 w).mono ?_
    rintro e w' ⟨he, rfl⟩
    have e0 : srt [] = [] := (hp []).eq_nil
    rw [e0]
    exact ⟨he, [], _, rfl, OSl.nil0 L T h ⟨p, rfl⟩, st.drop i⟩
  have hb := st.get hi
  have hlt := lt_of_some hb
  have hcs : cs = xs.map enc := by
    apply List.ext_getElem?
    intro j
    rw [List.getElem?_map]
    by_cases hj : j < xs.length
    · have hr := hE (e1.2 j xs[j] (List.getElem?_eq_getElem hj))
      rw [hz, Nat.mul_one] at hr
      have hjc : j < cs.length := by rw [e1.1, hz]; omega
      rw [List.getElem?_eq_getElem hj, List.getElem?_eq_getElem hjc]
      have h1 := congrArg (·[0]?) hr
      simp only [List.getElem?_take, List.getElem?_drop, List.getElem?_cons_zero] at h1
      simp only [Nat.zero_lt_one, if_true, Nat.add_zero] at h1
      rw [List.getElem?_eq_getElem hjc] at h1
      simpa using h1
    · rw [List.getElem?_eq_none (by rw [e1.1, hz]; omega), List.getElem?_eq_none (by omega)]; rfl
  have hH : Holds enc w b 0 xs.toArray := by
    intro j hj
    have hj' : j < xs.length := by simpa using hj
    have h2 : cs[j]? = some (enc xs[j]) := by rw [hcs, List.getElem?_map, List.getElem?_eq_getElem hj']; rfl
    have hcur : cur[j]? = some (enc xs[j]) := by
      rw [← htk, List.getElem?_take] at h2
      split at h2
      · simpa using h2
      · cases h2
    refine ⟨?_, by simp [World.frozen?, hb]⟩
    simp only [World.cell?, hb, Option.isSome_none, Bool.false_eq_true, if_false, Nat.zero_add]
    rw [hcur, getElem!_pos xs.toArray j (by simpa using hj')]
    simp
  refine (hc b 0 cap xs w hH hlt hlen).mono ?_
  rintro e w' ⟨he, n, os, rfl⟩
  have hl : (srt xs).length = xs.length := (hp xs).length_eq
  refine ⟨he, [(b, .cells (putCells enc 0 (srt xs).toArray cur) T)], _, rfl, ?_, ?_⟩
  · have hfc : (srt xs).toArray.size ≤ cur.size := by rw [List.size_toArray, hl, hsz, hz]; omega
    refine ⟨(srt xs).map enc, ⟨by simp [hz], fun j x hj => ?_⟩, .inr ⟨b, cap, _, by rw [hl], rfl, by omega, hcm, by simpa [putCells] using hsz, ?_⟩⟩
    · have hm : x ∈ xs := (hp xs).mem_iff.1 (List.mem_of_getElem? hj)
      obtain ⟨q, hq⟩ := List.mem_iff_getElem?.1 hm
      have hr := e1.2 q x hq
      rw [hE hr] at hr
      obtain ⟨h1, h2⟩ := List.getElem?_eq_some_iff.1 hj
      have e3 : (((srt xs).map enc).drop (j * L.size)).take L.size = [enc x] := by
        rw [hz, Nat.mul_one, List.drop_eq_getElem_cons (by simpa using h1)]
        simp [h2]
      rw [e3]; exact hr
    · have := putCells_take1 (enc := enc) hfc
      rw [hz, Nat.mul_one]
      simpa using this
  · rw [putRow_own1 hb]
    exact ((st.set (.cells (putCells enc 0 (srt xs).toArray cur) T) hi).same (w' := { w with drawn := w.drawn + n, heap := w.heap.setIfInBounds b (.cells (putCells enc 0 (srt xs).toArray cur) T) }) rfl rfl rfl rfl (Nat.le_add_right _ _)).grow os
end Go.Pk
