/- A PART OF THE PROOF: contracts of functions, each walked once (much of it printed by a program of the author's own). -/
import Derived.Test.YtjdbapoodefncaaGreatDoorT0
import Derived.Shelf.SlSortCmp.NoneTotal
import Derived.Test.YtjdbapoodefncaaGreatDoorT2
import Derived.Test.YtjdbapoodefncaaGreatDoorT1
import Derived.Lib.Bytealg
import Derived.Sort.Walk0
set_option linter.unusedSimpArgs false
set_option linter.unusedVariables false
set_option maxRecDepth 4000
namespace Go.Pk
open Go Go.RowKit Go.Proofs Go.Shelf Go.Lib Go.Sort
theorem bel_grow {W w' : World} (b : Bel W.heap.size W w') : ∃ q os', w' = grow (W.drewN q) os' := by
 refine ⟨w'.drawn - W.drawn, w'.heap.extract W.heap.size w'.heap.size, ?_⟩;obtain ⟨h1, h2, h3, h4, h5, h6⟩ := b;cases w'; cases W;simp only at h1 h2 h3 h4 h5 h6;subst h1; subst h2; subst h3;simp only [grow, World.drewN, World.mk.injEq, true_and, and_true];refine ⟨?_, by omega⟩;apply Array.ext_getElem?;intro i;rw [Array.getElem?_append];split
 ·rename_i hi; exact h5 i hi
 rename_i hi;rw [Array.getElem?_extract];split
 ·congr 1; omega
 rw [Array.getElem?_eq_none zr]
theorem Bel.grow {B : Nat} {a w : World} (b : Bel B a w) (hB : B ≤ w.heap.size) (os : Array Obj) : Bel B a (grow w os) :=
 b.trans ⟨rfl, rfl, rfl, by simp [Go.Sort.grow], fun k hk => by simp only [Go.Sort.grow]; rw [Array.getElem?_append_left zr], Nat.le_refl _⟩
theorem St.grow {h0 h : Heap} {w0 w : World} {own : Own} (st : St h0 w0 h w own) (os : Array Obj) : St h0 w0 h (grow w os) own := by
 have e : ∀ b o, w.heap[b]? = some o → (Go.Sort.grow w os).heap[b]? = some o := fun b o hb => by
  simp only [Go.Sort.grow]; rw [Array.getElem?_append_left (zcy hb)]; exact hb
 exact ⟨st.le, st.new, fun b o hb => e b o (st.sub b o hb), st.below.grow st.below.size os, fun p hp => ⟨e _ _ (st.mine p hp).1, (st.mine p hp).2⟩, st.nodup⟩
theorem putRow_own {w : World} {b : Nat} {cur : Array Value} {T : TypeId} {F : Array Value} (hb : w.heap[b]? = some (.cells cur T)) (n : Nat) :
  putRow id (Go.Sort.ahead w n) b 0 F = { w with drawn := w.drawn + n, heap := w.heap.setIfInBounds b (.cells (putCells id 0 F cur) T) } := by
 have hlt := zcy hb;have hb' : w.heap[b] = .cells cur T := by rw [Array.getElem?_eq_getElem hlt] at hb; simpa using hb
 simp only [putRow, mapBlock, Go.Sort.ahead, World.mk.injEq, and_true, true_and];apply Array.ext_getElem?;intro i;rw [Array.getElem?_modify, Array.getElem?_setIfInBounds]
 by_cases e : b = i
 ·subst e; simp [hlt, hb', onCells]
 ·simp [e]
theorem putCells_take {F cur : Array Value} (h : F.size ≤ cur.size) : (putCells id 0 F cur).toList.take F.size = F.toList := by
 apply List.ext_getElem?;intro i;rw [List.getElem?_take];split
 ·rename_i hi;simp only [putCells, Array.getElem?_toList, Array.getElem?_mapIdx];rw [Array.getElem?_eq_getElem (show i < cur.size by omega), Array.getElem?_eq_getElem hi];simp [hi]
 rename_i hi;rw [List.getElem?_eq_none (by simpa using hi)]
theorem flatK_enc {α : Type} [Inhabited α] {L : Lay α} {h : Heap} {enc : α → List Value} (d : Array α) (hk : ∀ x, (enc x).length = L.size) (hR : ∀ x ∈ d.toList, L.R h (enc x) x) : Enc L h (flatK enc L.size d).toList d.toList := by
 refine ⟨by simp, fun i x hi => ?_⟩;obtain ⟨h1, h2⟩ := List.getElem?_eq_some_iff.1 hi;have h1' : i < d.size := by simpa using h1
 have e : ((flatK enc L.size d).toList.drop (i * L.size)).take L.size = enc x := by
  apply List.ext_getElem?;intro j;rw [List.getElem?_take]
  by_cases hj : j < L.size
  ·rw [if_pos hj, List.getElem?_drop];have ht : i * L.size + j < d.size * L.size := by
    have : (i + 1) * L.size ≤ d.size * L.size := Nat.mul_le_mul_right _ h1';rw [Nat.add_mul, Nat.one_mul] at this; omega
   have h3 := get_flatK enc L.size d _ ht;have hd : (i * L.size + j) / L.size = i := by rw [Nat.mul_comm, Nat.mul_add_div zr, Nat.div_eq_of_lt hj]; rfl
   have hm : (i * L.size + j) % L.size = j := by rw [Nat.mul_comm, Nat.mul_add_mod, Nat.mod_eq_of_lt hj]
   rw [hd, hm, getElem!_pos d i h1', getElem!_pos (flatK enc L.size d) _ (by simpa using ht)] at h3;have hx : d[i] = x := by simpa using h2
   rw [hx, getElem!_pos (enc x) j (by rw [hk]; exact hj)] at h3;rw [List.getElem?_eq_getElem (by simpa using ht), List.getElem?_eq_getElem (by rw [hk]; exact hj)];simpa using h3
  ·rw [if_neg hj, List.getElem?_eq_none (by rw [hk]; omega)]
 rw [e];exact hR x (List.mem_of_getElem? hi)
theorem enc_flatK {α : Type} [Inhabited α] {L : Lay α} {h : Heap} {enc : α → List Value} (hpos : 0 < L.size) (d : Array α) (hE : ∀ {vs x}, L.R h vs x → vs = enc x) {cs : List Value} (e : Enc L h cs d.toList) {j : Nat} (hj : j < d.size * L.size) : cs[j]? = some (flatK enc L.size d)[j]! := by
 have hi : j / L.size < d.size := Nat.div_lt_of_lt_mul (by rwa [Nat.mul_comm]);have hr := hE (e.2 (j / L.size) d[j / L.size] (by simp [hi]));rw [get_flatK enc L.size d j hj, getElem!_pos d _ hi, ← hr];have hlen : cs.length = d.size * L.size := by simpa using e.1
 have hm := Nat.mod_lt j hpos;have hdm := Nat.div_add_mod j L.size;rw [Nat.mul_comm] at hdm;have hl : j % L.size < ((cs.drop (j / L.size * L.size)).take L.size).length := by
  simp only [List.length_take, List.length_drop]; omega
 rw [getElem!_pos ((cs.drop (j / L.size * L.size)).take L.size) (j % L.size) hl];simp only [List.getElem_take, List.getElem_drop, hdm];rw [List.getElem?_eq_getElem zr]
theorem sortFunc {α : Type} {L : Lay α} {T : TypeId} {P : Program} {ρ : Ren} (LL : SlLaysF0.n6 P ρ) (aE : ∀ w, (isAgg (ρ.t 24)).run P w = .ok true w) (zE : ∀ w, (Go.sizeOf (ρ.t 24)).run P w = .ok L.size w) (hpos : 0 < L.size)
  (enc : α → List Value) (hE : ∀ {h vs x}, L.R h vs x → vs = enc x) (cf : α → α → Int) (hS : SWO (ltOf cf)) {g : Nat} {caps : List Value} {h0 h : Heap} {w0 w : World} {own : Own} {i : Nat} {v : Value} {xs : List α} {o : List (Nat × Obj)}
  (st : St h0 w0 h w own) (hO : OSl L T h v xs o) (hi : own[i]? = some o) (hlen : xs.length < 4611686018427387904) (eg : ∀ a w, (callFunc g a).run P w = .ok (.enter g a) w)
  (hcmp : ∀ x ∈ xs, ∀ y ∈ xs, ∀ w', Sub h w' → Calls P g (.agg (enc x).toArray :: .agg (enc y).toArray :: caps).toArray w' (Rets h w' fun _ _ r => r = .int .i64 (cf x y))) :
  Calls P (ρ.f 6) #[v, .func (.func g) #[] caps.toArray] w fun e w' => e = .returned (.tuple #[]) ∧ ∃ ys o' own', own' = own.set i o' ∧ ys.Perm xs ∧ ys.Pairwise (fun a b => ¬ cf b a < 0) ∧ OSl L T h v ys o' ∧ St h0 w0 h w' own' := by
 by_cases hx : xs = []
 ·subst hx;obtain ⟨p, c, rfl⟩ := hO.form;refine (AnyF.slices_SortFunc_none LL p c _ w).mono ?_;rintro e w' ⟨he, rfl⟩;refine ⟨he, [], o, _, rfl, List.Perm.refl _, List.Pairwise.nil, hO, ?_⟩;have e3 : own.set i o = own := by
   apply List.ext_getElem?;intro j;rw [List.getElem?_set];split
   ·rename_i e4; subst e4;split
    ·exact hi.symm
    ·rename_i h5; rw [List.getElem?_eq_none zr]
   ·rfl
  rw [e3]; exact st
 obtain ⟨cs, e1, ⟨⟨p, rfl⟩, rfl, rfl⟩ | ⟨b, cap, cur, rfl, rfl, hnc, hcm, hsz, htk⟩⟩ := hO
 ·exact absurd rfl hx
 -- the elements, each with its place in the list
 let β := { x : α // x ∈ xs }
 haveI : Inhabited β := ⟨⟨xs.head hx, List.head_mem hx⟩⟩
 let enc' : β → List Value := fun x => enc x.1
 let cf' : β → β → Int := fun x y => cf x.1 y.1
 let d : Array β := xs.attach.toArray
 have hdl : d.size = xs.length := by show xs.attach.toArray.size = xs.length; rw [List.size_toArray]; exact List.length_attach
 have hmap : d.toList.map (·.1) = xs := by show xs.attach.map (·.1) = xs; exact List.attach_map_subtype_val xs
 have hRx : ∀ x : β, L.R h (enc x.1) x.1 := by
  intro x;obtain ⟨j, hj⟩ := List.mem_iff_getElem?.1 x.2;have := e1.2 j x.1 hj;rwa [hE this] at this
 have hk : ∀ x : β, (enc' x).length = L.size := fun x => L.len (hRx x)
 let L' : Lay β := { size := L.size, R := fun h vs x => L.R h vs x.1, up := fun a b => L.up a b, len := fun a => L.len a, one := fun a => L.one a }
 have hb := st.get hi;have hcsl : cs.length = xs.length * L.size := e1.1;have e1' : Enc L' h cs d.toList := ⟨by rw [hcsl, ← hdl]; rfl, fun j x hj => e1.2 j x.1 (by
  have := congrArg (Option.map (·.1)) hj;rw [← List.getElem?_map, hmap] at this;simpa using this)⟩
 have hH : HoldsK enc' L.size w b 0 d := by
  intro j hj;have hj' : j < d.size * L.size := by simpa using hj
  have hcj := enc_flatK (L := L') (enc := enc') hpos d (fun h => hE h) e1' hj';have hjc : j < cs.length := by rw [hcsl, ← hdl]; exact hj'
  have hcur : cur[j]? = some (flatK enc' L.size d)[j]! := by
   rw [← htk, List.getElem?_take] at hcj;split at hcj
   ·simpa using hcj
   ·cases hcj
  refine ⟨?_, ?_⟩
  ·simp only [World.cell?, hb, Option.isSome_none, Bool.false_eq_true, if_false, Nat.zero_add, id];exact hcur
  ·simp [World.frozen?, hb]
 have hlt := zcy hb;have hsubs : ∀ m (os : Array Obj) (dk : Array β), Sub h (sortWorldK enc' L.size w b 0 m dk os) := by
  intro m os dk;unfold sortWorldK putRowK;rw [putRow_own hb];have := (((st.set (.cells (putCells id 0 (flatK enc' L.size dk) cur) T) hi).same (w' := { w with drawn := w.drawn + m, heap := w.heap.setIfInBounds b (.cells (putCells id 0 (flatK enc' L.size dk) cur) T) }) rfl rfl rfl rfl (Nat.le_add_right _ _)).grow os).sub;exact this
 have hC : CmpLays P g caps.toArray enc' L.size cf' b 0 d.size w := by
  intro m os dk hdk x y;have c : Calls P g (#[.agg (enc' x).toArray, .agg (enc' y).toArray] ++ caps.toArray) (sortWorldK enc' L.size w b 0 m dk os) (Rets h (sortWorldK enc' L.size w b 0 m dk os) fun _ _ r => r = .int .i64 (cf x.1 y.1)) := by
   simpa using hcmp x.1 x.2 y.1 y.2 _ (hsubs m os dk)
  refine c.mono ?_;rintro e w' ⟨h', r, rfl, s, rfl⟩;exact ⟨rfl, bel_grow s.below⟩
 have hS' : SWO (ltOf cf') := ⟨fun x => hS.irrefl x.1, fun x y z => hS.trans x.1 y.1 z.1, fun x y z => hS.ntrans x.1 y.1 z.1⟩;have con := AnyQ.slices_SortFunc LL L.size aE zE enc' hk (fun x => L.one (hRx x)) cf' hS' g caps.toArray b 0 cap d w eg hC hH hlt (by rw [hdl]; exact hlen);rw [hdl] at con;refine con.mono ?_;rintro e w' ⟨he, d', n, os, ⟨p1, p2, p3⟩, hsort, rfl⟩;have hd' : d'.size = xs.length := by rw [p1, hdl]
 refine ⟨he, d'.toList.map (·.1), [(b, .cells (putCells id 0 (flatK enc' L.size d') cur) T)], _, rfl, ?_, ?_, ?_, ?_⟩
 ·have e3 : d'.extract 0 xs.length = d' := by rw [← hd']; simp
  have e4 : d.extract 0 xs.length = d := by rw [← hdl]; simp
  rw [e3, e4] at p3;have := p3.map (fun x : β => x.1);rwa [hmap] at this
 ·rw [List.pairwise_map, List.pairwise_iff_getElem];intro q r hq hr hqr;have := hsort q r (Nat.zero_le _) hqr (by simpa [hd'] using hr);rw [getElem!_pos d' r (by simpa using hr), getElem!_pos d' q (by simpa using hq)] at this;simp only [ltOf, decide_eq_false_iff_not, cf'] at this;simpa using this
 ·have hsf : (flatK enc' L.size d').size = xs.length * L.size := by simp [hd']
  have hfc : (flatK enc' L.size d').size ≤ cur.size := by rw [hsf, hsz]; exact Nat.mul_le_mul_right _ hnc
  refine ⟨(flatK enc' L.size d').toList, ?_, .inr ⟨b, cap, _, by simp [hd'], rfl, by simpa [hd'] using hnc, hcm, by simpa [putCells] using hsz, ?_⟩⟩
  ·have := flatK_enc (L := L') (h := h) (enc := enc') d' hk (fun x _ => hRx x);refine ⟨by simp [hd'], fun j x hj => ?_⟩;rw [List.getElem?_map] at hj;obtain ⟨y, hy, rfl⟩ := Option.map_eq_some_iff.1 hj;exact this.2 j y hy
  ·have := putCells_take hfc;rw [hsf] at this;simpa [hd'] using this
 ·unfold sortWorldK putRowK;rw [putRow_own hb];exact ((st.set (.cells (putCells id 0 (flatK enc' L.size d') cur) T) hi).same (w' := { w with drawn := w.drawn + n, heap := w.heap.setIfInBounds b (.cells (putCells id 0 (flatK enc' L.size d') cur) T) }) rfl rfl rfl rfl (Nat.le_add_right _ _)).grow os
theorem swo_asc {α : Type} (f : α → Int) : SWO (ltOf fun a b => f a - f b) := by
 refine ⟨fun x => ?_, fun x y z h1 h2 => ?_, fun x y z h1 h2 => ?_⟩ <;> simp only [ltOf, decide_eq_true_eq, decide_eq_false_iff_not] at * <;> omega
theorem swo_desc {α : Type} (f : α → Int) : SWO (ltOf fun a b => f b - f a) := by
 refine ⟨fun x => ?_, fun x y z h1 h2 => ?_, fun x y z h1 h2 => ?_⟩ <;> simp only [ltOf, decide_eq_true_eq, decide_eq_false_iff_not] at * <;> omega
theorem OSl.memR {α : Type} {L : Lay α} {T : TypeId} {h : Heap} {v : Value} {xs : List α} {o : List (Nat × Obj)} (hO : OSl L T h v xs o) {x : α} (hx : x ∈ xs) : ∃ vs, L.R h vs x := by
 obtain ⟨cs, e, _⟩ := hO;obtain ⟨j, hj⟩ := List.mem_iff_getElem?.1 hx;exact ⟨_, e.2 j x hj⟩
theorem Sl.memR {α : Type} {L : Lay α} {h : Heap} {v : Value} {xs : List α} (hs : Sl L h v xs) {x : α} (hx : x ∈ xs) : ∃ vs, L.R h vs x := by
 obtain ⟨p, c, _, _, rfl | ⟨b, off, _, hh⟩⟩ := hs
 ·cases hx
 obtain ⟨j, hj⟩ := List.mem_iff_getElem?.1 hx;obtain ⟨vs, _, hr⟩ := hh j x hj;exact ⟨vs, hr⟩
theorem putRow_own1 {α : Type} [Inhabited α] {enc : α → Value} {w : World} {b : Nat} {cur : Array Value} {T : TypeId} {F : Array α} (hb : w.heap[b]? = some (.cells cur T)) (n : Nat) :
  putRow enc (Go.Sort.ahead w n) b 0 F = { w with drawn := w.drawn + n, heap := w.heap.setIfInBounds b (.cells (putCells enc 0 F cur) T) } := by
 have hlt := zcy hb;have hb' : w.heap[b] = .cells cur T := by rw [Array.getElem?_eq_getElem hlt] at hb; simpa using hb
 simp only [putRow, mapBlock, Go.Sort.ahead, World.mk.injEq, and_true, true_and];apply Array.ext_getElem?;intro i;rw [Array.getElem?_modify, Array.getElem?_setIfInBounds]
 by_cases e : b = i
 ·subst e; simp [hlt, hb', onCells]
 ·simp [e]
theorem putCells_take1 {α : Type} [Inhabited α] {enc : α → Value} {F : Array α} {cur : Array Value} (h : F.size ≤ cur.size) : (putCells enc 0 F cur).toList.take F.size = F.toList.map enc := by
 apply List.ext_getElem?;intro i;rw [List.getElem?_take, List.getElem?_map];split
 ·rename_i hi;simp only [putCells, Array.getElem?_toList, Array.getElem?_mapIdx];rw [Array.getElem?_eq_getElem (show i < cur.size by omega), Array.getElem?_eq_getElem hi];simp [hi]
 rename_i hi;rw [List.getElem?_eq_none (by simpa using hi)]; rfl
theorem sort1 {α : Type} [Inhabited α] {L : Lay α} {T : TypeId} {P : Program} {f : FuncId} (enc : α → Value) (hE : ∀ {h vs x}, L.R h vs x → vs = [enc x]) (hz : L.size = 1) (srt : List α → List α) (hp : ∀ l, (srt l).Perm l)
  (hc : ∀ blk off cap (zs : List α) w, Holds enc w blk off zs.toArray → blk < w.heap.size → zs.length < 4611686018427387904 → Calls P f #[.slice (some ⟨blk, off, none⟩) zs.length cap] w fun e w' => e = .returned (.tuple #[]) ∧ ∃ n os, w' = Go.Sort.grow (putRow enc (Go.Sort.ahead w n) blk off (srt zs).toArray) os)
  (hn : ∀ p cap w, Calls P f #[.slice p 0 cap] w fun e w' => e = .returned (.tuple #[]) ∧ w' = w)
  {h0 h : Heap} {w0 w : World} {own : Own} {i : Nat} {v : Value} {xs : List α} {o : List (Nat × Obj)} (st : St h0 w0 h w own) (hO : OSl L T h v xs o) (hi : own[i]? = some o) (hlen : xs.length < 4611686018427387904) :
  Calls P f #[v] w fun e w' => e = .returned (.tuple #[]) ∧ ∃ o' own', own' = own.set i o' ∧ OSl L T h v (srt xs) o' ∧ St h0 w0 h w' own' := by
 obtain ⟨cs, e1, ⟨⟨p, rfl⟩, rfl, rfl⟩ | ⟨b, cap, cur, rfl, rfl, hnc, hcm, hsz, htk⟩⟩ := hO
 ·refine (hn p 0 w).mono ?_;rintro e w' ⟨he, rfl⟩;have e0 : srt [] = [] := (hp []).eq_nil;rw [e0];exact ⟨he, [], _, rfl, OSl.nil0 L T h ⟨p, rfl⟩, st.drop i⟩
 have hb := st.get hi;have hlt := zcy hb;have hcs : cs = xs.map enc := by
  apply List.ext_getElem?;intro j;rw [List.getElem?_map]
  by_cases hj : j < xs.length
  ·have hr := hE (e1.2 j xs[j] (List.getElem?_eq_getElem hj));rw [hz, Nat.mul_one] at hr;have hjc : j < cs.length := by rw [e1.1, hz]; omega
   rw [List.getElem?_eq_getElem hj, List.getElem?_eq_getElem hjc];have h1 := congrArg (·[0]?) hr;simp only [List.getElem?_take, List.getElem?_drop, List.getElem?_cons_zero] at h1;simp only [Nat.zero_lt_one, if_true, Nat.add_zero] at h1;rw [List.getElem?_eq_getElem hjc] at h1;simpa using h1
  ·rw [List.getElem?_eq_none (by rw [e1.1, hz]; omega), List.getElem?_eq_none zr]; rfl
 have hH : Holds enc w b 0 xs.toArray := by
  intro j hj;have hj' : j < xs.length := by simpa using hj
  have h2 : cs[j]? = some (enc xs[j]) := by rw [hcs, List.getElem?_map, List.getElem?_eq_getElem hj']; rfl
  have hcur : cur[j]? = some (enc xs[j]) := by
   rw [← htk, List.getElem?_take] at h2;split at h2
   ·simpa using h2
   ·cases h2
  refine ⟨?_, by simp [World.frozen?, hb]⟩;simp only [World.cell?, hb, Option.isSome_none, Bool.false_eq_true, if_false, Nat.zero_add];rw [hcur, getElem!_pos xs.toArray j (by simpa using hj')];simp
 refine (hc b 0 cap xs w hH hlt hlen).mono ?_;rintro e w' ⟨he, n, os, rfl⟩;have hl : (srt xs).length = xs.length := (hp xs).length_eq;refine ⟨he, [(b, .cells (putCells enc 0 (srt xs).toArray cur) T)], _, rfl, ?_, ?_⟩
 ·have hfc : (srt xs).toArray.size ≤ cur.size := by rw [List.size_toArray, hl, hsz, hz]; omega
  refine ⟨(srt xs).map enc, ⟨by simp [hz], fun j x hj => ?_⟩, .inr ⟨b, cap, _, by rw [hl], rfl, by omega, hcm, by simpa [putCells] using hsz, ?_⟩⟩
  ·have hm : x ∈ xs := (hp xs).mem_iff.1 (List.mem_of_getElem? hj);obtain ⟨q, hq⟩ := List.mem_iff_getElem?.1 hm;have hr := e1.2 q x hq;rw [hE hr] at hr;obtain ⟨h1, h2⟩ := List.getElem?_eq_some_iff.1 hj;have e3 : (((srt xs).map enc).drop (j * L.size)).take L.size = [enc x] := by
    rw [hz, Nat.mul_one, List.drop_eq_getElem_cons (by simpa using h1)];simp [h2]
   rw [e3]; exact hr
  ·have := putCells_take1 (enc := enc) hfc;rw [hz, Nat.mul_one];simpa using this
 ·rw [putRow_own1 hb];exact ((st.set (.cells (putCells enc 0 (srt xs).toArray cur) T) hi).same (w' := { w with drawn := w.drawn + n, heap := w.heap.setIfInBounds b (.cells (putCells enc 0 (srt xs).toArray cur) T) }) rfl rfl rfl rfl (Nat.le_add_right _ _)).grow os
end Go.Pk

namespace Go.Pk
open Go Go.RowKit
def zdh (x : Lexicon) : List Decision := x.decisions.mergeSort fun a b => decide (b.number ≤ a.number)
def zfQ (d : Decision) : Int × Decision := (d.number, d)
def zfd (x : Lexicon) : List (Int × Decision) := ((zdh x).filter (zcH x)).map zfQ
def OkD (x : Lexicon) : Prop := (x.decisions.map (·.number)).Nodup ∧ ∀ v ∈ x.decisions, 1 ≤ v.number ∧ v.number ≤ 999 ∧ (v.kind = 4 → v.of_ < v.number)
theorem zdP (x : Lexicon) : (zdh x).Perm x.decisions := List.mergeSort_perm _ _
theorem downD_sorted (x : Lexicon) : (zdh x).Pairwise fun a b => b.number ≤ a.number := by
 have h := List.pairwise_mergeSort (le := fun a b : Decision => decide (b.number ≤ a.number)) (by intro a b c h1 h2; simp at *; omega) (by intro a b; simp; omega) x.decisions;exact h.imp (fun h => by simpa using h)
theorem zjd {α : Type} {f : α → Int} {xs : List α} (hn : (xs.map f).Nodup) {a b : α} (ha : a ∈ xs) (hb : b ∈ xs) (e : f a = f b) : a = b := by
 obtain ⟨i, hi⟩ := List.mem_iff_getElem?.1 ha;obtain ⟨j, hj⟩ := List.mem_iff_getElem?.1 hb
 rcases Nat.lt_trichotomy i j with h | h | h
 ·exact absurd hn (zjc hi hj h e)
 ·subst h; rw [hi] at hj; exact Option.some.inj hj
 exact absurd hn (zjc hj hi h e.symm)
theorem downD_eq {x : Lexicon} {ys : List Decision} (hp : ys.Perm x.decisions) (hs : ys.Pairwise fun a b => ¬ a.number - b.number < 0) (hn : (x.decisions.map (·.number)).Nodup) : ys = zdh x := by
 refine List.Perm.eq_of_pairwise (le := fun a b : Decision => b.number ≤ a.number) ?_ (hs.imp (fun h => by omega)) (downD_sorted x) (hp.trans (zdP x).symm);intro a b ha hb h1 h2;exact zjd hn (hp.mem_iff.1 ha) ((zdP x).mem_iff.1 hb) zr
theorem ziK {x : Lexicon} (hn : (x.decisions.map (·.number)).Nodup) : ((zdh x).map (·.number)).Nodup := ((zdP x).map _).nodup_iff.2 hn
theorem putM_new {κ υ : Type} [DecidableEq κ] {m : List (κ × υ)} {k : κ} {u : υ} (h : zbH m k = none) : zgJ m k u = m ++ [(k, u)] := by simp [zgJ, h]
theorem look_pair {l : List Decision} {n : Int} (hn : (l.map (·.number)).Nodup) {d : Decision} : zbH (l.map zfQ) n = some d ↔ d ∈ l ∧ d.number = n := by
 induction l with
 | nil => simp [zbH]
 | cons e l ih =>
  simp only [List.map_cons, List.nodup_cons] at hn;have ih := ih hn.2;simp only [zbH, List.map_cons, List.find?_cons, zfQ] at ih ⊢
  by_cases h : e.number = n
  ·simp only [h, decide_true, Option.map_some, Option.some.injEq, List.mem_cons];constructor
   ·rintro rfl; exact ⟨.inl rfl, h⟩
   ·rintro ⟨rfl | h1, h2⟩
    ·rfl
    ·exact absurd (List.mem_map.2 ⟨d, h1, h2.trans h.symm⟩) hn.1
  ·simp only [h, decide_false, List.mem_cons];rw [ih];constructor
   ·rintro ⟨h1, h2⟩; exact ⟨.inr h1, h2⟩
   ·rintro ⟨rfl | h1, h2⟩
    ·exact absurd h2 h
    ·exact ⟨h1, h2⟩
theorem look_pair_none {l : List Decision} {n : Int} (h : n ∉ l.map (·.number)) : zbH (l.map zfQ) n = none := by
 simp only [zbH, Option.map_eq_none_iff, List.find?_eq_none];intro p hp;obtain ⟨d, hd, rfl⟩ := List.mem_map.1 hp;intro e;have e' : d.number = n := of_decide_eq_true e;exact h (e' ▸ List.mem_map_of_mem hd)
theorem map_fill {l : List Decision} {k : Nat} {d : Decision} (hn : (l.map (·.number)).Nodup) (hd : l[k]? = some d) : zgJ ((l.take k).map zfQ) d.number d = (l.take (k + 1)).map zfQ := by
 rw [putM_new (look_pair_none ?_), zbh hd, List.map_append]
 ·rfl
 intro h;exact ziS (f := (·.number)) hd h hn
def zgu (x : Lexicon) (k : Nat) (d : Decision) : Bool := ((zdh x).take k).all fun v => !(decide (v.kind = 4) && decide (v.of_ = d.number) && zcH x v)
theorem standsB_eq {x : Lexicon} (hx : OkD x) {d : Decision} (hd : 1 ≤ d.number) : zcH x d = x.decisions.all fun v => !(decide (v.kind = 4) && decide (v.of_ = d.number) && zcH x v) := by
 have hv : ∀ v ∈ x.decisions, v.number ≤ 999 ∧ (v.kind = 4 → v.of_ < v.number) := fun v h => (hx.2 v h).2;unfold zcH;rw [standsF_eq hv zr];rw [Bool.eq_iff_iff, List.all_eq_true, List.all_eq_true];refine forall_congr' fun v => forall_congr' fun hm => ?_;have h1 := (hx.2 v hm).1;have e : zed x (1000 - 1) v = zed x 1000 v := by
  rw [standsF_eq hv (show 999 < v.number + ((1000 - 1 : Nat) : Int) by omega), standsF_eq hv (show 999 < v.number + ((1000 : Nat) : Int) by omega)]
  -- both say the same of what makes v void
  rw [Bool.eq_iff_iff, List.all_eq_true, List.all_eq_true];refine forall_congr' fun u => forall_congr' fun hu => ?_
  by_cases hk : u.kind = 4
  ·by_cases ho : u.of_ = v.number
   ·have h2 := (hx.2 u hu).2.2 hk;have : zed x (1000 - 1 - 1) u = zed x (1000 - 1) u := by
     have h3 : 2 ≤ u.number := by omega
     have key : ∀ (n m : Nat) (w : Decision), 999 < w.number + (n : Int) → 999 < w.number + (m : Int) → zed x n w = zed x m w := by
      intro n
      induction n with
      | zero =>
       intro m w hw hm';cases m with
       | zero => rfl
       | succ m =>
        simp only [zed]
        symm
        rw [List.all_eq_true];intro y hy;have hy' := hx.2 y hy
        by_cases hk' : y.kind = 4
        ·have : ¬ y.of_ = w.number := by have := hy'.2.2 hk'; omega
         simp [this]
        ·simp [hk']
      | succ n ih =>
       intro m w hw hm';cases m with
       | zero =>
        simp only [zed];rw [List.all_eq_true];intro y hy;have hy' := hx.2 y hy
        by_cases hk' : y.kind = 4
        ·have : ¬ y.of_ = w.number := by have := hy'.2.2 hk'; omega
         simp [this]
        ·simp [hk']
       | succ m =>
        simp only [zed];rw [Bool.eq_iff_iff, List.all_eq_true, List.all_eq_true];refine forall_congr' fun y => forall_congr' fun hy => ?_;have hy' := hx.2 y hy
        by_cases hk' : y.kind = 4
        ·by_cases ho' : y.of_ = w.number
         ·have := hy'.2.2 hk';rw [ih m y zr zr]
         ·simp [ho']
        ·simp [hk']
     exact key _ _ u zr zr
    simp only [voids, this]
   ·simp [voids, ho]
  ·simp [voids, hk]
 simp only [voids, e]
theorem leftK_at {x : Lexicon} (hx : OkD x) {k : Nat} {d : Decision} (hd : (zdh x)[k]? = some d) : zgu x k d = zcH x d := by
 have hm : d ∈ x.decisions := (zdP x).mem_iff.1 (List.mem_of_getElem? hd);rw [standsB_eq hx (hx.2 d hm).1];rw [Bool.eq_iff_iff, zgu, List.all_eq_true, List.all_eq_true];constructor
 ·intro h v hv
  by_cases hk : v.kind = 4
  ·by_cases ho : v.of_ = d.number
   ·have h1 := (hx.2 v hv).2.2 hk;obtain ⟨j, hj⟩ := List.mem_iff_getElem?.1 ((zdP x).mem_iff.2 hv);have hjk : j < k := by
     rcases Nat.lt_or_ge j k with h2 | h2
     ·exact h2
     ·rcases Nat.eq_or_lt_of_le h2 with h3 | h3
      ·subst h3; rw [hj] at hd; cases hd; omega
      ·obtain ⟨a1, a2⟩ := List.getElem?_eq_some_iff.1 hd;obtain ⟨b1, b2⟩ := List.getElem?_eq_some_iff.1 hj;have := List.pairwise_iff_getElem.1 (downD_sorted x) k j a1 b1 h3;rw [a2, b2] at this; omega
    exact h v (List.mem_of_getElem? (by rw [List.getElem?_take, if_pos hjk]; exact hj))
   ·simp [ho]
  ·simp [hk]
 intro h v hv;exact h v ((zdP x).mem_iff.1 (List.mem_of_mem_take hv))
theorem leftK_zero (x : Lexicon) : ((zdh x).filter (zgu x 0)).map zfQ = (zdh x).map zfQ := by
 congr 1;rw [List.filter_eq_self];intro d _; simp [zgu]
theorem leftK_end {x : Lexicon} (hx : OkD x) : ((zdh x).filter (zgu x (zdh x).length)).map zfQ = zfd x := by
 unfold zfd;congr 1;apply List.filter_congr;intro d hd;have hm : d ∈ x.decisions := (zdP x).mem_iff.1 hd;rw [standsB_eq hx (hx.2 d hm).1, zgu, List.take_length, Bool.eq_iff_iff, List.all_eq_true, List.all_eq_true];exact ⟨fun h v hv => h v ((zdP x).mem_iff.2 hv), fun h v hv => h v ((zdP x).mem_iff.1 hv)⟩
theorem zjz {x : Lexicon} (hx : OkD x) (p : Decision → Bool) : (((zdh x).filter p).map (·.number)).Nodup := (List.filter_sublist.map _).nodup (ziK hx.1)
theorem look_left {x : Lexicon} (hx : OkD x) {k : Nat} {d : Decision} (hd : (zdh x)[k]? = some d) : (zbH (((zdh x).filter (zgu x k)).map zfQ) d.number).isSome = zcH x d := by
 rw [← leftK_at hx hd];have hm := List.mem_of_getElem? hd;cases h : zgu x k d with
 | true =>
  have := (look_pair (zjz hx (zgu x k))).2 ⟨List.mem_filter.2 ⟨hm, h⟩, rfl⟩;rw [this]; rfl
 | false =>
  cases hl : zbH (((zdh x).filter (zgu x k)).map zfQ) d.number with
  | none => rfl
  | some e =>
   obtain ⟨h1, h2⟩ := (look_pair (zjz hx (zgu x k))).1 hl;have h3 := List.mem_filter.1 h1;have : e = d := zjd (ziK hx.1) h3.1 hm h2;subst this;rw [h] at h3; cases h3.2
theorem leftK_succ {x : Lexicon} {k : Nat} {d e : Decision} (hd : (zdh x)[k]? = some d) : zgu x (k + 1) e = (zgu x k e && !(decide (d.kind = 4) && decide (d.of_ = e.number) && zcH x d)) := by
 simp only [zgu, zbh hd, List.all_append, List.all_cons, List.all_nil, Bool.and_true]
theorem map_void {x : Lexicon} {k : Nat} {d : Decision} (hd : (zdh x)[k]? = some d) (h : d.kind = 4 ∧ zcH x d = true) :
  delM (((zdh x).filter (zgu x k)).map zfQ) d.of_ = ((zdh x).filter (zgu x (k + 1))).map zfQ := by
 rw [delM, List.filter_map, List.filter_filter];congr 1;apply List.filter_congr;intro e _;rw [leftK_succ hd, h.1, h.2];simp only [Function.comp, zfQ, decide_true, Bool.and_true, Bool.true_and];rw [Bool.and_comm];congr 2;exact decide_eq_decide.2 eq_comm
theorem map_stay {x : Lexicon} {k : Nat} {d : Decision} (hd : (zdh x)[k]? = some d) (h : ¬ (d.kind = 4 ∧ zcH x d = true)) :
  ((zdh x).filter (zgu x k)).map zfQ = ((zdh x).filter (zgu x (k + 1))).map zfQ := by
 congr 1;apply List.filter_congr;intro e _;rw [leftK_succ hd]
 by_cases h1 : d.kind = 4
 ·have h2 : zcH x d = false := by
   cases q : zcH x d with
   | false => rfl
   | true => exact absurd ⟨h1, q⟩ h
  simp [h2]
 ·simp [h1]
theorem standM_mem {x : Lexicon} {p : Int × Decision} (h : p ∈ zfd x) : p.2 ∈ x.decisions ∧ p.1 = p.2.number ∧ zcH x p.2 = true := by
 obtain ⟨d, hd, rfl⟩ := List.mem_map.1 h;obtain ⟨h1, h2⟩ := List.mem_filter.1 hd;exact ⟨(zdP x).mem_iff.1 h1, rfl, h2⟩
theorem zgK {t : Text} {x : Lexicon} (h : zaE t x = 0) : OkD x := by
 have h1 := lexicon_v h;have h2 := lexicon_v1 h;refine ⟨?_, fun v hv => ⟨h2 v hv, h1 v hv⟩⟩;unfold zaE at h;split at h
 ·cases h
 split at h
 ·cases h
 rename_i h3;simp only [Bool.not_eq_false] at h3;simp only [zcl, Bool.and_eq_true, decide_eq_true_eq] at h3;exact h3.2
def ziC (rs : List Rule) (left : Int) (w : Str) : Str := if left = 0 then w else (zhc rs w).getD w
def turnB (rs : List Rule) (left : Int) (w : Str) : Bool := if left = 0 then false else (zhc rs w).isSome
def turnL (left : Int) : Int := if left = 0 then 0 else left - 1
def zgL (s p : Str) : Bool := decide (p.length ≤ s.length) && decide (s.drop (s.length - p.length) = p)
theorem stepOf_at {rs : List Rule} {i : Nat} {r : Rule} {w s : Str} (ht : (rs.take i).findSome? (made · w) = none) (hr : rs[i]? = some r) (hm : made r w = some s) : zhc rs w = some s := by
 unfold zhc;rw [← List.take_append_drop i rs, List.findSome?_append, ht, zhm hr, List.findSome?_cons, hm];rfl
theorem stepOf_none {rs : List Rule} {i : Nat} {w : Str} (ht : (rs.take i).findSome? (made · w) = none) (hi : rs.length ≤ i) : zhc rs w = none := by
 rw [List.take_of_length_le hi] at ht; exact ht
theorem turn_take {rs : List Rule} {i : Nat} {r : Rule} {w : Str} (ht : (rs.take i).findSome? (made · w) = none) (hr : rs[i]? = some r) (hm : made r w = none) : (rs.take (i + 1)).findSome? (made · w) = none := by
 rw [zbh hr, List.findSome?_append, ht, List.findSome?_cons, hm]; rfl
theorem turnW_len {rs : List Rule} {left : Int} {w : Str} (h : w.length ≤ 12) : (ziC rs left w).length ≤ 12 := by
 unfold ziC;split
 ·exact h
 cases e : zhc rs w with
 | none => exact h
 | some s =>
  obtain ⟨r, _, hr⟩ := List.exists_of_findSome?_eq_some e;exact made_len hr
theorem made_no {r : Rule} {w : Str} (h : zgL w r.cut = true → r.least ≤ ((w.take (w.length - r.cut.length)).length : Int) ∧ (w.take (w.length - r.cut.length)).length + r.put.length ≤ 12 → False) : made r w = none := by
 unfold made;rw [if_neg];rintro ⟨q1, q2, q3, q4⟩;have hl : (w.take (w.length - r.cut.length)).length = w.length - r.cut.length := by rw [List.length_take]; omega
 exact h (by simp [zgL, q1, q3]) (by rw [hl]; exact ⟨q2, q4⟩)
theorem made_yes {r : Rule} {w : Str} (h : zgL w r.cut = true) (h1 : r.least ≤ ((w.take (w.length - r.cut.length)).length : Int)) (h2 : (w.take (w.length - r.cut.length)).length + r.put.length ≤ 12) : made r w = some (w.take (w.length - r.cut.length) ++ r.put) := by
 simp only [zgL, Bool.and_eq_true, decide_eq_true_eq] at h;have hl : (w.take (w.length - r.cut.length)).length = w.length - r.cut.length := by rw [List.length_take]; omega
 rw [hl] at h1 h2;unfold made;rw [if_pos ⟨h.1, h1, h.2, h2⟩]
theorem turn_true {rs : List Rule} {left : Int} {w : Str} (h : turnB rs left w = true) : ¬ left = 0 ∧ zhc rs w = some (ziC rs left w) := by
 unfold turnB at h;unfold ziC;split at h
 ·cases h
 rename_i h0;rw [if_neg h0];refine ⟨h0, ?_⟩;cases e : zhc rs w with
 | none => rw [e] at h; cases h
 | some s => rfl
theorem turn_false {rs : List Rule} {left : Int} {n : Nat} {w : Str} (h : turnB rs left w = false) (hn : left = (n : Int)) : zdN rs n w = [w] := by
 unfold turnB at h;split at h
 ·have : n = 0 := by omega
  subst this; rfl
 apply stepsN_none;cases e : zhc rs w with
 | none => rfl
 | some s => rw [e] at h; cases h
theorem zgr {α : Type} {dn rm rm' m : List α} {p : α} (h : (dn ++ rm).Perm m) (q : rm.Perm (p :: rm')) : ((dn ++ [p]) ++ rm').Perm m := by
 refine List.Perm.trans ?_ h;rw [List.append_assoc];exact (List.Perm.append_left dn q).symm
theorem standAt_mem {x : Lexicon} {n : Nat} {d : Decision} : d ∈ standAt x n ↔ d ∈ x.decisions ∧ d.number = (n : Int) + 1 ∧ zcH x d = true := by
 simp only [standAt, List.mem_filter, standP, zcH, Bool.and_eq_true, decide_eq_true_eq]
def smallW (w : Str) : Bool := decide (w.length ≤ 40)
def ziR (l : List Str) : Bool := decide (l.length ≤ 15) && l.all smallW
def zhe (c : Chapter) : Bool := decide (c.lines.length ≤ 15) && c.lines.all ziR
def ziQ (t : Text) : Bool := decide (t.chapters.length ≤ 10) && t.chapters.all zhe
def smallR (r : Rule) : Bool := decide (r.cut.length ≤ 100) && decide (r.put.length ≤ 100)
def smallD (d : Decision) : Bool := decide (d.form.length ≤ 100) && decide (d.to.stem.length ≤ 100)
def zfq (x : Lexicon) : Bool := decide (x.rules.length ≤ 20) && decide (x.decisions.length ≤ 25) && x.rules.all smallR && x.decisions.all smallD
theorem smallX_len {x : Lexicon} (h : zfq x = true) : x.rules.length ≤ 20 ∧ x.decisions.length ≤ 25 := by
 simp only [zfq, Bool.and_eq_true, decide_eq_true_eq] at h; exact h.1.1
end Go.Pk

namespace Go.Pk
open Go Go.RowKit
def zcU (a b : Int) : Int := if a < b then -1 else if b < a then 1 else 0
def cmpL : List Int → List Int → Int
 | [], [] => 0
 | [], _ :: _ => -1
 | _ :: _, [] => 1
 | a :: az, b :: bs => if zcU a b ≠ 0 then zcU a b else cmpL az bs
def cmpS (a b : Str) : Int := Lib.compareBytes a b
def ordI (a b : Place) : Int := cmpL [a.chapter, a.line, a.word] [b.chapter, b.line, b.word]
def firstI (a b : Decision) : Int := if a.kind ≠ b.kind then a.kind - b.kind else if a.kind = 2 ∧ a.at_ ≠ b.at_ then ordI a.at_ b.at_ else a.number - b.number
def zdC (d : Decision) (p : Place) (w : Str) : Bool :=
 if d.kind = 1 then decide (d.form = w) else if d.kind = 2 then decide (d.form = w) && !zdi p d.at_ else if d.kind = 3 then decide (d.at_ = p) else false
def betterB (d e : Decision) : Bool := if d.kind ≠ e.kind then decide (d.kind > e.kind) else decide (d.kind ≠ 2) || !zdi d.at_ e.at_
def cmpHead (a b : Head) : Int := if cmpS a.stem b.stem ≠ 0 then cmpS a.stem b.stem else a.mark - b.mark
def sLt (a b : Str) : Bool := Op.bytesLess a b
def headLt (a b : Head) : Bool := sLt a.stem b.stem || (decide (a.stem = b.stem) && decide (a.mark < b.mark))
theorem cmpL_step {a b : List Int} {k : Nat} {x y : Int} (ha : a[k]? = some x) (hb : b[k]? = some y) : cmpL (a.drop k) (b.drop k) = if zcU x y ≠ 0 then zcU x y else cmpL (a.drop (k + 1)) (b.drop (k + 1)) := by
 rw [zhm ha, zhm hb]; rfl
theorem cmpL_nil_cons {a b : List Int} (ha : a = []) (hb : b ≠ []) : cmpL a b = -1 := by
 subst ha; cases b with
 | nil => exact absurd rfl hb
 | cons => rfl
theorem cmpL_cons_nil {a b : List Int} (hb : b = []) (ha : a ≠ []) : cmpL a b = 1 := by
 subst hb; cases a with
 | nil => exact absurd rfl ha
 | cons => rfl
theorem ordI_eq (a b : Place) : ordI a b = if zcU a.chapter b.chapter ≠ 0 then zcU a.chapter b.chapter else if zcU a.line b.line ≠ 0 then zcU a.line b.line else zcU a.word b.word := by
 simp only [ordI, cmpL]; repeat' split
 all_goals simp_all
theorem zhR (a b : Place) : decide (ordI a b ≤ 0) = !zdi b a := by
 rw [ordI_eq]; simp only [zcU, zdi]
 by_cases h1 : a.chapter < b.chapter <;> by_cases h2 : b.chapter < a.chapter <;> by_cases h3 : a.line < b.line <;> by_cases h4 : b.line < a.line <;> by_cases h5 : a.word < b.word <;> by_cases h6 : b.word < a.word <;> simp [h1, h2, h3, h4, h5, h6] <;> (try omega) <;> (repeat' split) <;> simp <;> omega
theorem ordI_gt (a b : Place) : decide (ordI a b > 0) = zdi b a := by
 have h := zhR a b;cases e : zdi b a <;> rw [e] at h <;> simp at h ⊢ <;> omega
theorem zgF {α : Type} {m : List α → Prop} (nil : m []) (snoc : ∀ l a, m l → m (l ++ [a])) (l : List α) : m l := by
 have h : ∀ r : List α, m r.reverse := by
  intro r
  induction r with
  | nil => exact nil
  | cons a r ih => rw [List.reverse_cons]; exact snoc _ _ ih
 have := h l.reverse;rwa [List.reverse_reverse] at this
def zhF (b d : Decision) : Decision := if b.number = 0 ∨ firstI d b > 0 then d else b
def zaH (l : List Decision) : Decision := l.foldl zhF zcu
theorem zgw (l : List Decision) (d : Decision) : zaH (l ++ [d]) = zhF (zaH l) d := by simp [zaH]
theorem bestOf_mem (l : List Decision) : zaH l = zcu ∨ zaH l ∈ l := by
 induction l using zgF with
 | nil => exact .inl rfl
 | snoc l d ih =>
  rw [zgw, zhF];split
  ·exact .inr (by simp)
  ·rcases ih with h | h
   ·exact .inl h
   ·exact .inr (by simp [h])
theorem best_ok {p : Decision → Prop} (hz : p zcu) {l : List Decision} (hp : ∀ y ∈ l, p y) : p (zaH l) := by
 rcases bestOf_mem l with h | h
 ·rw [h]; exact hz
 exact hp _ h
theorem bestOf_zero {l : List Decision} (hp : ∀ y ∈ l, 1 ≤ y.number) (h : (zaH l).number = 0) : zaH l = zcu := by
 rcases bestOf_mem l with h1 | h1
 ·exact h1
 have := hp _ h1; omega
theorem ziv {l : List Decision} (hp : ∀ y ∈ l, 1 ≤ y.number) (hl : l ≠ []) : 1 ≤ (zaH l).number ∧ zaH l ∈ l := by
 have key : zaH l ∈ l := by
  induction l using zgF with
  | nil => exact absurd rfl hl
  | snoc l d ih =>
   rw [zgw, zhF];split
   ·simp
   ·rename_i hn
    by_cases hl' : l = []
    ·subst hl'; exact absurd (.inl rfl) hn
    ·have := ih (fun y hy => hp y (by simp [hy])) hl';simp [this]
 exact ⟨hp _ key, key⟩
def lexD (a b : Decision) : Prop := a.kind < b.kind ∨ (a.kind = b.kind ∧ ((a.kind = 2 ∧ (a.at_.chapter < b.at_.chapter ∨ (a.at_.chapter = b.at_.chapter ∧ (a.at_.line < b.at_.line ∨ (a.at_.line = b.at_.line ∧ a.at_.word < b.at_.word))))) ∨ ((a.kind = 2 → a.at_ = b.at_) ∧ a.number < b.number)))
theorem firstI_lex {d e : Decision} : firstI d e > 0 ↔ lexD e d := by
 unfold firstI lexD
 by_cases hk : d.kind = e.kind
 ·have hk' : ¬ d.kind ≠ e.kind := by simp [hk]
  simp only [if_neg hk']
  by_cases h2 : d.kind = 2
  ·have h3 : e.kind = 2 := by omega
   by_cases ha : d.at_ = e.at_
   ·have q : ¬ (d.kind = 2 ∧ d.at_ ≠ e.at_) := by simp [ha]
    simp only [if_neg q, h3, h2, ha];simp
   ·have q : d.kind = 2 ∧ d.at_ ≠ e.at_ := ⟨h2, ha⟩;rw [if_pos q];simp only [h3, h2];have hg := ordI_gt d.at_ e.at_;have h5 : ordI d.at_ e.at_ > 0 ↔ zdi e.at_ d.at_ = true := by rw [← hg]; simp
    rw [h5];have ha' : ¬ e.at_ = d.at_ := fun q => ha q.symm;simp only [ha', Int.lt_irrefl, false_or, true_and, forall_const, false_and, or_false, zdi]
    by_cases q1 : e.at_.chapter = d.at_.chapter <;> by_cases q2 : e.at_.line = d.at_.line <;> simp_all
  ·have h3 : ¬ e.kind = 2 := by omega
   have q : ¬ (d.kind = 2 ∧ d.at_ ≠ e.at_) := by simp [h2]
   simp only [if_neg q, h3]; simp [hk]
 have hk' : d.kind ≠ e.kind := hk;simp only [if_pos hk']; omega
theorem lexD_trans {a b c : Decision} (h1 : lexD a b) (h2 : lexD b c) : lexD a c := by
 rcases a with ⟨n1, k1, f1, ⟨c1, l1, w1⟩, t1, o1⟩; rcases b with ⟨n2, k2, f2, ⟨c2, l2, w2⟩, t2, o2⟩; rcases c with ⟨n3, k3, f3, ⟨c3, l3, w3⟩, t3, o3⟩
 simp only [lexD, Place.mk.injEq] at *;omega
theorem lexD_total {a b : Decision} (h : a.number ≠ b.number) : lexD a b ∨ lexD b a := by
 rcases a with ⟨n1, k1, f1, ⟨c1, l1, w1⟩, t1, o1⟩; rcases b with ⟨n2, k2, f2, ⟨c2, l2, w2⟩, t2, o2⟩
 simp only [lexD, Place.mk.injEq] at *;omega
theorem lexD_irrefl (a : Decision) : ¬ lexD a a := by
 unfold lexD; omega
theorem bestOf_best {l : List Decision} (hp : ∀ y ∈ l, 1 ≤ y.number) (hn : (l.map (·.number)).Nodup) : ∀ y ∈ l, y ≠ zaH l → lexD y (zaH l) := by
 induction l using zgF with
 | nil => simp
 | snoc l d ih =>
  intro y hy hne;have hn' : (l.map (·.number)).Nodup := by rw [List.map_append] at hn; exact (List.nodup_append.1 hn).1
  have ih := ih (fun y hy => hp y (by simp [hy])) hn';have hd : ∀ z ∈ l, z.number ≠ d.number := by
   intro z hz e;rw [List.map_append] at hn;exact (List.nodup_append.1 hn).2.2 _ (List.mem_map_of_mem hz) _ (List.mem_map.2 ⟨d, by simp, rfl⟩) e
  rw [zgw] at hne ⊢;unfold zhF at hne ⊢;split at hne
  ·rename_i hc;rw [if_pos hc]
   rcases List.mem_append.1 hy with h | h
   ·by_cases hl : l = []
    ·subst hl; cases h
    ·have hb := ziv (fun y hy => hp y (by simp [hy])) hl;have h1 : lexD (zaH l) d := by
      rcases hc with h0 | h0
      ·omega
      ·exact firstI_lex.1 h0
     by_cases e : y = zaH l
     ·rw [e]; exact h1
     ·exact lexD_trans (ih y h e) h1
   ·simp at h; exact absurd h hne
  ·rename_i hc;rw [if_neg hc];have hc' : ¬ (zaH l).number = 0 ∧ ¬ lexD (zaH l) d := ⟨fun h => hc (.inl h), fun h => hc (.inr (firstI_lex.2 h))⟩
   rcases List.mem_append.1 hy with h | h
   ·exact ih y h hne
   ·simp at h; subst h
    by_cases hl : l = []
    ·subst hl; exact absurd rfl hc'.1
    ·have hb := ziv (fun y hy => hp y (by simp [hy])) hl
     rcases lexD_total (hd _ hb.2) with h1 | h1
     ·exact absurd h1 hc'.2
     ·exact h1
theorem bestOf_perm {xs ys : List Decision} (h : xs.Perm ys) (hp : ∀ y ∈ ys, 1 ≤ y.number) (hn : (ys.map (·.number)).Nodup) : zaH xs = zaH ys := by
 by_cases hy : ys = []
 ·subst hy; rw [h.eq_nil]
 have hx : xs ≠ [] := fun e => hy (by subst e; exact h.symm.eq_nil);have hp' : ∀ y ∈ xs, 1 ≤ y.number := fun y hy => hp y (h.mem_iff.1 hy);have hn' : (xs.map (·.number)).Nodup := (h.map _).nodup_iff.2 hn;have h1 := (ziv hp' hx).2;have h2 := (ziv hp hy).2
 by_cases e : zaH xs = zaH ys
 ·exact e
 have a := bestOf_best hp hn _ (h.mem_iff.1 h1) e;have b := bestOf_best hp' hn' _ (h.mem_iff.2 h2) (Ne.symm e);exact absurd (lexD_trans a b) (lexD_irrefl _)
def zbx (t : Text) (p : Place) : Str := (zgZ t p).getD []
def conD (x : Lexicon) (p : Place) (wd : Str) : List Decision := ((zfd x).map (·.2)).filter fun d => zdC d p wd
def zcY (x : Lexicon) (p : Place) (wd : Str) : Decision :=
 if (zaH (conD x p wd)).number = 0 then { zcu with to := ⟨((zdN x.rules 4 wd).getLast?).getD [], 0⟩ } else zaH (conD x p wd)
def OkO (o : Office) : Prop := zaE o.text o.lex = 0 ∧ o.stands = zfd o.lex
theorem place_at {t : Text} {p : Place} (h : zbm t p = true) : ∃ c ln wd, 0 ≤ p.chapter ∧ t.chapters[p.chapter.toNat]? = some c ∧ 0 ≤ p.line ∧ c.lines[p.line.toNat]? = some ln ∧ 0 ≤ p.word ∧ ln[p.word.toNat]? = some wd ∧ zbx t p = wd := by
 unfold zbm at h;unfold zbx;unfold zgZ zcV at *;split at h
 ·rename_i h1;split at h
  ·rename_i h2;cases hc : t.chapters[p.chapter.toNat]? with
   | none => simp [hc] at h
   | some c =>
    simp only [hc, Option.bind_some] at h;cases hl : c.lines[p.line.toNat]? with
    | none => simp [hl] at h
    | some ln =>
     simp only [hl, Option.bind_some] at h;cases hw : ln[p.word.toNat]? with
     | none => simp [hw] at h
     | some wd => exact ⟨c, ln, wd, h2.1, rfl, h2.2, hl, h1, hw, by simp [if_pos h1, if_pos h2, hc, hl, hw]⟩
  ·simp at h
 simp at h
theorem okO_d {o : Office} (h : OkO o) : OkD o.lex := zgK h.1
theorem standM_ok {t : Text} {x : Lexicon} (h : zaE t x = 0) {q : Int × Decision} (hq : q ∈ zfd x) : zak t q.2 = true ∧ 1 ≤ q.2.number ∧ q.2.number ≤ 999 ∧ 1 ≤ q.2.kind ∧ q.2.kind ≤ 4 := by
 have h1 := (standM_mem hq).1;have h2 : zcl t x = true := by
  unfold zaE at h;split at h
  ·cases h
  ·split at h
   ·cases h
   ·rename_i h3; simpa using h3
 simp only [zcl, Bool.and_eq_true, List.all_eq_true] at h2;have h3 := h2.1.2 _ h1;have h4 := (zgK h).2 _ h1;refine ⟨h3, h4.1, h4.2.1, ?_⟩;unfold zak at h3;simp only [Bool.and_eq_true] at h3;have h5 := h3.2;split at h5
 ·omega
 split at h5
 ·omega
 split at h5
 ·omega
 split at h5
 ·omega
 cases h5
theorem standM_nodupD {x : Lexicon} (h : OkD x) : (((zfd x).map (·.2)).map (·.number)).Nodup := by
 have := zjz h (zcH x);simpa [zfd, zfQ, List.map_map, Function.comp_def] using this
theorem wordD_len {t : Text} {p : Place} (ht : zbc t = true) (hp : zbm t p = true) : (zbx t p).length ≤ 12 := by
 obtain ⟨c, ln, wd, _, hc, _, hl, _, hw, e⟩ := place_at hp;rw [e];simp only [zbc, Bool.and_eq_true, List.all_eq_true] at ht;have h1 := ht.1.2 _ (List.mem_of_getElem? hc);simp only [zbB, Bool.and_eq_true, List.all_eq_true] at h1;have h2 := h1.2 _ (List.mem_of_getElem? hl);simp only [zgs, Bool.and_eq_true, List.all_eq_true] at h2;exact zie (h2.2 _ (List.mem_of_getElem? hw))
theorem zdQ {t : Text} {x : Lexicon} (h : zaE t x = 0) : zbc t = true := by
 unfold zaE at h;split at h
 ·cases h
 rename_i h1; simpa using h1
theorem conD_perm {x : Lexicon} {p : Place} {wd : Str} {dn : List (Int × Decision)} (h : OkD x) (hd : dn.Perm (zfd x)) : zaH ((dn.map (·.2)).filter fun d => zdC d p wd) = zaH (conD x p wd) := by
 refine bestOf_perm ((hd.map _).filter _) ?_ ?_
 ·intro y hy;obtain ⟨q, hq, rfl⟩ := List.mem_map.1 (List.mem_filter.1 hy).1;exact (h.2 _ (standM_mem hq).1).1
 exact (List.filter_sublist.map _).nodup (standM_nodupD h)
theorem stepsN_ne (rs : List Rule) (n : Nat) (w : Str) : zdN rs n w ≠ [] := by
 cases n with
 | zero => simp [zdN]
 | succ n => simp only [zdN]; split <;> simp
end Go.Pk

namespace Go.Pk
open Go Go.RowKit
def zhS (t : Text) (k : Nat) : List (List Str) := ((t.chapters[k]?).map (·.lines)).getD []
def wordsAt (t : Text) (k n : Nat) : List Str := ((zhS t k)[n]?).getD []
def mkP (k n w : Nat) : Place := ⟨k, n, w⟩
def zhA (t : Text) (k n : Nat) : List Place := (List.range (wordsAt t k n).length).map (mkP k n)
def zhK (t : Text) (k : Nat) : List Place := (List.range (zhS t k).length).flatMap (zhA t k)
def zbI (t : Text) : List Place := (List.range t.chapters.length).flatMap (zhK t)
theorem zem {t : Text} {k : Nat} {c : Chapter} (h : t.chapters[k]? = some c) : zhS t k = c.lines := by simp [zhS, h]
theorem zeI {t : Text} {k n : Nat} {c : Chapter} {ln : List Str} (h : t.chapters[k]? = some c) (h2 : c.lines[n]? = some ln) : wordsAt t k n = ln := by simp [wordsAt, zem h, h2]
theorem zfu {α : Type} {f : Nat → List α} {c : Nat} (h : ∀ k, (f k).length ≤ c) (n : Nat) : ((List.range n).flatMap f).length ≤ c * n := by
 induction n with
 | zero => simp
 | succ n ih =>
  rw [List.range_succ, List.flatMap_append, List.length_append];have := h n;simp only [List.flatMap_cons, List.flatMap_nil, List.append_nil];rw [Nat.mul_succ]; omega
theorem ziz {t : Text} (ht : zbc t = true) (k n : Nat) : (wordsAt t k n).length ≤ 10 := by
 unfold wordsAt zhS;simp only [zbc, Bool.and_eq_true, List.all_eq_true] at ht;cases hc : t.chapters[k]? with
 | none => simp
 | some c =>
  have h1 := ht.1.2 _ (List.mem_of_getElem? hc);simp only [zbB, Bool.and_eq_true, List.all_eq_true] at h1;simp only [Option.map_some, Option.getD_some];cases hl : c.lines[n]? with
  | none => simp
  | some ln =>
   have h2 := h1.2 _ (List.mem_of_getElem? hl);simp only [zgs, Bool.and_eq_true, inB, decide_eq_true_eq] at h2;simp only [Option.getD_some]; omega
theorem ziH {t : Text} (ht : zbc t = true) (k : Nat) : (zhS t k).length ≤ 10 := by
 unfold zhS;simp only [zbc, Bool.and_eq_true, List.all_eq_true] at ht;cases hc : t.chapters[k]? with
 | none => simp
 | some c =>
  have h1 := ht.1.2 _ (List.mem_of_getElem? hc);simp only [zbB, Bool.and_eq_true, inB, decide_eq_true_eq] at h1;simp only [Option.map_some, Option.getD_some]; omega
theorem zgN {t : Text} (ht : zbc t = true) : t.chapters.length ≤ 6 := by
 simp only [zbc, Bool.and_eq_true, inB, decide_eq_true_eq] at ht; omega
theorem lineP_len {t : Text} (ht : zbc t = true) (k n : Nat) : (zhA t k n).length ≤ 10 := by
 rw [zhA, List.length_map, List.length_range]; exact ziz ht k n
theorem chapP_len {t : Text} (ht : zbc t = true) (k : Nat) : (zhK t k).length ≤ 100 := by
 have h1 := zfu (lineP_len ht k) (zhS t k).length;have h2 := ziH ht k;rw [zhK]; omega
theorem zjv {t : Text} (ht : zbc t = true) : (zbI t).length ≤ 600 := by
 have h1 := zfu (chapP_len ht) t.chapters.length;have h2 := zgN ht;rw [zbI]; omega
theorem place_mk {t : Text} {k n w : Nat} {c : Chapter} {ln : List Str} (hc : t.chapters[k]? = some c) (hl : c.lines[n]? = some ln) (hw : w < ln.length) : zbm t (mkP k n w) = true := by
 have h0 : ln[w]? = some ln[w] := List.getElem?_eq_getElem hw;simp [zbm, zgZ, zcV, mkP, hc, hl, h0]
theorem word_mk {t : Text} {k n w : Nat} {c : Chapter} {ln : List Str} {s : Str} (hc : t.chapters[k]? = some c) (hl : c.lines[n]? = some ln) (hw : ln[w]? = some s) : zbx t (mkP k n w) = s := by
 simp [zbx, zgZ, zcV, mkP, hc, hl, hw]
theorem lineP_snoc {t : Text} {k n : Nat} {c : Chapter} {ln : List Str} (hc : t.chapters[k]? = some c) (hl : c.lines[n]? = some ln) {w : Nat} (hw : w = ln.length) : (List.range w).map (mkP k n) = zhA t k n := by
 rw [zhA, zeI hc hl, hw]
theorem chapP_snoc {t : Text} {k : Nat} {c : Chapter} (hc : t.chapters[k]? = some c) {n : Nat} (hn : n = c.lines.length) : (List.range n).flatMap (zhA t k) = zhK t k := by
 rw [zhK, zem hc, hn]
theorem zeR {α : Type} (f : Nat → List α) (n : Nat) : (List.range (n + 1)).flatMap f = (List.range n).flatMap f ++ f n := by
 rw [List.range_succ, List.flatMap_append]; simp
theorem placesT_mem {t : Text} {p : Place} (h : p ∈ zbI t) : zbm t p = true := by
 obtain ⟨k, hk, h⟩ := List.mem_flatMap.1 h;obtain ⟨n, hn, h⟩ := List.mem_flatMap.1 h;obtain ⟨w, hw, rfl⟩ := List.mem_map.1 h;have hk' := List.mem_range.1 hk;have hc : t.chapters[k]? = some t.chapters[k] := List.getElem?_eq_getElem hk';rw [zem hc] at hn;have hn' := List.mem_range.1 hn;have hl : t.chapters[k].lines[n]? = some t.chapters[k].lines[n] := List.getElem?_eq_getElem hn';rw [zeI hc hl] at hw;exact place_mk hc hl (List.mem_range.1 hw)
def ziT (t : Text) (x : Lexicon) (p : Place) : Head := (zcY x p (zbx t p)).to
def entryAt (t : Text) (x : Lexicon) (p : Place) : Entry := ⟨p, zbx t p, ziT t x p⟩
def zbA (t : Text) (x : Lexicon) : List Entry := (zbI t).map (entryAt t x)
def headsL (t : Text) (x : Lexicon) : List Head := (zbI t).map (ziT t x)
def headR0 (x : Lexicon) (wd : Str) : Decision := { zcu with to := ⟨((zdN x.rules 4 wd).getLast?).getD [], 0⟩ }
def stepR (p : Place) (wd : Str) (b d : Decision) : Decision := if zdC d p wd = true ∧ (b.number = 0 ∨ betterB d b = true) then d else b
def headR (x : Lexicon) (l : List Decision) (p : Place) (wd : Str) : Decision := l.foldl (stepR p wd) (headR0 x wd)
theorem nodup_of_map {α β : Type} (f : α → β) {l : List α} (h : (l.map f).Nodup) : l.Nodup := (List.pairwise_map.1 h).imp (fun h e => h (by rw [e]))
def zfI (t : Text) (x : Lexicon) (p : Place) : Decision := if zaE t x = 0 ∧ zbm t p = true then zcY x p (zbx t p) else zcu
def askE (t : Text) (x : Lexicon) (p : Place) : Int := if zaE t x = 0 then (if zbm t p = true then 0 else 12) else zaE t x
theorem stepsN_mem_len {rs : List Rule} : ∀ (n : Nat) (w : Str), w.length ≤ 12 → ∀ s ∈ zdN rs n w, s.length ≤ 12
 | 0, w, h, s, hs => by simp [zdN] at hs; subst hs; exact h
 | n + 1, w, h, s, hs => by
  simp only [zdN] at hs;split at hs
  ·simp at hs; subst hs; exact h
  ·rename_i u hu
   rcases List.mem_cons.1 hs with rfl | hs
   ·exact h
   ·obtain ⟨r, _, hr⟩ := List.exists_of_findSome?_eq_some hu;exact stepsN_mem_len n u (made_len hr) s hs
theorem head_of_valid {h : Head} (hv : zee h = true) : h.stem.length ≤ 12 ∧ 0 ≤ h.mark ∧ h.mark ≤ 3 := by
 simp only [zee, Bool.and_eq_true, inB, decide_eq_true_eq] at hv;exact ⟨zie hv.1, hv.2.1, hv.2.2⟩
theorem dec_head {t : Text} {d : Decision} {p : Place} {wd : Str} (h : zak t d = true) (hc : zdC d p wd = true) : zee d.to = true := by
 simp only [zak, Bool.and_eq_true] at h;have h := h.2;unfold zdC at hc
 by_cases k1 : d.kind = 1
 ·simp only [k1, if_true, Bool.and_eq_true] at h; exact h.1.2
 by_cases k2 : d.kind = 2
 ·simp [k2] at h; exact h.1.2
 by_cases k3 : d.kind = 3
 ·simp [k3] at h; exact h.1.2
 simp [k1, k2, k3] at hc
theorem winD_ok {t : Text} {x : Lexicon} {p : Place} (hx : zaE t x = 0) (hp : zbm t p = true) : (zcY x p (zbx t p)).to.stem.length ≤ 12 ∧ 0 ≤ (zcY x p (zbx t p)).to.mark ∧ (zcY x p (zbx t p)).to.mark ≤ 3 := by
 unfold zcY;split
 ·refine ⟨?_, by simp, by simp⟩;have hw := wordD_len (zdQ hx) hp;cases e : (zdN x.rules 4 (zbx t p)).getLast? with
  | none => simp
  | some s => exact stepsN_mem_len 4 _ hw s (List.mem_of_getLast? e)
 rename_i h0
 rcases bestOf_mem (conD x p (zbx t p)) with h | h
 ·rw [h] at h0; exact absurd rfl h0
 obtain ⟨h1, h2⟩ := List.mem_filter.1 h;obtain ⟨q, hq, e⟩ := List.mem_map.1 h1;have h3 := (standM_ok hx hq).1;rw [e] at h3;exact head_of_valid (dec_head h3 h2)
end Go.Pk

namespace Go.Pk
open Go Go.RowKit
section
variable {α : Type}
structure DelF (q : α → Bool) (s ys : List α) (i j : Nat) : Prop where
 len : ys.length = s.length
 le : i ≤ j
 le2 : j ≤ s.length
 head : ys.take i = (s.take j).filter fun x => !q x
 tail : ys.drop j = s.drop j
theorem DelF.get {q : α → Bool} {s ys : List α} {i j : Nat} (d : DelF q s ys i j) {y : α} (h : ys[j]? = some y) : s[j]? = some y := by
 have h1 := congrArg (fun l : List α => l[0]?) d.tail;simp only [List.getElem?_drop, Nat.add_zero] at h1;rw [← h1]; exact h
theorem DelF.start {q : α → Bool} {s : List α} {k : Nat} (h1 : ∀ j x, j < k → s[j]? = some x → q x = false) (h2 : ∀ x, s[k]? = some x → q x = true) (hk : k < s.length) : DelF q s s k (k + 1) := by
 refine ⟨rfl, by omega, by omega, ?_, rfl⟩;have hx : s[k]? = some s[k] := List.getElem?_eq_getElem hk;rw [zbh hx, List.filter_append];have e1 : (s.take k).filter (fun x => !q x) = s.take k := by
  rw [List.filter_eq_self];intro x hx;obtain ⟨j, hj⟩ := List.mem_iff_getElem?.1 hx;rw [List.getElem?_take] at hj;split at hj
  ·rename_i hjk; simp [h1 j x hjk hj]
  ·cases hj
 simp [e1, h2 _ hx]
theorem DelF.keep {q : α → Bool} {s ys : List α} {i j : Nat} (d : DelF q s ys i j) {y : α} (h : ys[j]? = some y) (hq : q y = false) : DelF q s (ys.set i y) (i + 1) (j + 1) := by
 obtain ⟨h1, _⟩ := List.getElem?_eq_some_iff.1 h;have hl := d.len; have hle := d.le;refine ⟨by rw [List.length_set]; exact d.len, by omega, by omega, ?_, ?_⟩
 ·rw [zbh (d.get h), List.filter_append, ← d.head];have e : (ys.set i y)[i]? = some y := by rw [List.getElem?_set]; simp; omega
  rw [zbh e, List.take_set_of_le (Nat.le_refl i)];simp [hq]
 rw [List.drop_set_of_lt zr];have := congrArg (List.drop 1) d.tail;simpa [List.drop_drop] using this
theorem DelF.skip {q : α → Bool} {s ys : List α} {i j : Nat} (d : DelF q s ys i j) {y : α} (h : ys[j]? = some y) (hq : q y = true) : DelF q s ys i (j + 1) := by
 obtain ⟨h1, _⟩ := List.getElem?_eq_some_iff.1 h;have hl := d.len; have hle := d.le;refine ⟨d.len, by omega, by omega, ?_, ?_⟩
 ·rw [zbh (d.get h), List.filter_append, ← d.head];simp [hq]
 have := congrArg (List.drop 1) d.tail;simpa [List.drop_drop] using this
theorem DelF.fin {q : α → Bool} {s ys : List α} {i j : Nat} (d : DelF q s ys i j) (h : s.length ≤ j) : ys.take i = s.filter fun x => !q x := by
 rw [d.head, List.take_of_length_le h]
theorem filter_none {q : α → Bool} {s : List α} (h : ∀ j x, j < s.length → s[j]? = some x → q x = false) : (s.filter fun x => !q x) = s := by
 rw [List.filter_eq_self];intro x hx;obtain ⟨j, hj⟩ := List.mem_iff_getElem?.1 hx;obtain ⟨h1, _⟩ := List.getElem?_eq_some_iff.1 hj;simp [h j x h1 hj]
variable [DecidableEq α]
def zhD (acc : List α) (x : α) : List α := if acc.getLast? = some x then acc else acc ++ [x]
def zcm (l : List α) : List α := l.foldl zhD []
theorem zhw (l : List α) (x : α) : zcm (l ++ [x]) = zhD (zcm l) x := by simp [zcm]
theorem compactL_last (l : List α) : (zcm l).getLast? = l.getLast? := by
 induction l using zgF with
 | nil => rfl
 | snoc l d ih =>
  rw [zhw, zhD];split
  ·rename_i h; rw [h]; simp
  ·simp
theorem zhv {s : List α} {k : Nat} {y z : α} (hz : s[k]? = some z) (hy : s[k + 1]? = some y) : zcm (s.take (k + 2)) = if z = y then zcm (s.take (k + 1)) else zcm (s.take (k + 1)) ++ [y] := by
 have e : (s.take (k + 1)).getLast? = some z := by rw [zbh hz]; simp
 rw [zbh hy, zhw, zhD, compactL_last, e];simp only [Option.some.injEq]
theorem comp_more {s : List α} {k : Nat} {y z : α} (hz : s[k - 1]? = some z) (hy : s[k]? = some y) (hk : 1 ≤ k) (h : zcm (s.take k) = s.take k) (hne : ¬ y = z) : zcm (s.take (k + 1)) = s.take (k + 1) := by
 obtain ⟨m, rfl⟩ : ∃ m, k = m + 1 := ⟨k - 1, by omega⟩;rw [Nat.add_sub_cancel] at hz;rw [show m + 1 + 1 = m + 2 from rfl, zhv hz hy, if_neg (fun e => hne e.symm), h, ← zbh hy]
theorem comp_one {s : List α} (h : 1 ≤ s.length) : zcm (s.take 1) = s.take 1 := by
 cases s with
 | nil => simp at h
 | cons a s => simp [zcm, zhD]
theorem comp_short {s : List α} (h : s.length < 2) : zcm s = s := by
 match s, h with
 | [], _ => rfl
 | [a], _ => simp [zcm, zhD]
structure Comp (s ys : List α) (i j : Nat) : Prop where
 len : ys.length = s.length
 le : i + 1 ≤ j
 le2 : j ≤ s.length
 head : ys.take i = zcm (s.take j)
 tail : ys.drop (j - 1) = s.drop (j - 1)
theorem Comp.start {s : List α} {k : Nat} {y z : α} (hz : s[k - 1]? = some z) (hy : s[k]? = some y) (hk : 1 ≤ k) (h : zcm (s.take k) = s.take k) (he : y = z) : Comp s s k (k + 1) := by
 obtain ⟨h1, _⟩ := List.getElem?_eq_some_iff.1 hy;refine ⟨rfl, Nat.le_refl _, by omega, ?_, rfl⟩;obtain ⟨m, rfl⟩ : ∃ m, k = m + 1 := ⟨k - 1, by omega⟩;rw [Nat.add_sub_cancel] at hz;rw [show m + 1 + 1 = m + 2 from rfl, zhv hz hy, if_pos he.symm, h]
theorem Comp.get {s ys : List α} {i j : Nat} (d : Comp s ys i j) {y : α} {n : Nat} (hn : j - 1 ≤ n) (h : ys[n]? = some y) : s[n]? = some y := by
 have h1 := congrArg (fun l : List α => l[n - (j - 1)]?) d.tail;simp only [List.getElem?_drop] at h1;rw [show j - 1 + (n - (j - 1)) = n by omega] at h1;rw [← h1]; exact h
theorem Comp.keep {s ys : List α} {i j : Nat} (d : Comp s ys i j) {y z : α} (h : ys[j]? = some y) (hz : ys[j - 1]? = some z) (hne : ¬ y = z) : Comp s (ys.set i y) (i + 1) (j + 1) := by
 obtain ⟨h1, _⟩ := List.getElem?_eq_some_iff.1 h;have hl := d.len; have hle := d.le; have hle2 := d.le2;have g1 := d.get zr h;have g2 := d.get (Nat.le_refl _) hz;refine ⟨by rw [List.length_set]; exact d.len, by omega, by omega, ?_, ?_⟩
 ·obtain ⟨m, rfl⟩ : ∃ m, j = m + 1 := ⟨j - 1, by omega⟩;rw [Nat.add_sub_cancel] at g2;rw [show m + 1 + 1 = m + 2 from rfl, zhv g2 g1, if_neg (fun e => hne e.symm), ← d.head];have e : (ys.set i y)[i]? = some y := by rw [List.getElem?_set]; simp; omega
  rw [zbh e, List.take_set_of_le (Nat.le_refl i)]
 rw [Nat.add_sub_cancel, List.drop_set_of_lt zr];have := congrArg (List.drop 1) d.tail;rw [List.drop_drop, List.drop_drop, show j - 1 + 1 = j by omega] at this;exact this
theorem Comp.skip {s ys : List α} {i j : Nat} (d : Comp s ys i j) {y z : α} (h : ys[j]? = some y) (hz : ys[j - 1]? = some z) (he : y = z) : Comp s ys i (j + 1) := by
 obtain ⟨h1, _⟩ := List.getElem?_eq_some_iff.1 h;have hl := d.len; have hle := d.le; have hle2 := d.le2;have g1 := d.get zr h;have g2 := d.get (Nat.le_refl _) hz;refine ⟨d.len, by omega, by omega, ?_, ?_⟩
 ·obtain ⟨m, rfl⟩ : ∃ m, j = m + 1 := ⟨j - 1, by omega⟩;rw [Nat.add_sub_cancel] at g2;rw [show m + 1 + 1 = m + 2 from rfl, zhv g2 g1, if_pos he.symm, ← d.head]
 have := congrArg (List.drop 1) d.tail;rw [List.drop_drop, List.drop_drop, show j - 1 + 1 = j by omega] at this;rw [Nat.add_sub_cancel]; exact this
theorem Comp.fin {s ys : List α} {i j : Nat} (d : Comp s ys i j) (h : s.length ≤ j) : ys.take i = zcm s := by
 rw [d.head, List.take_of_length_le h]
end
end Go.Pk

namespace Go.Pk
open Go Go.RowKit
section
variable {α : Type} [DecidableEq α]
structure TLt (lt : α → α → Bool) : Prop where
 irrefl : ∀ a, lt a a = false
 trans : ∀ a b c, lt a b = true → lt b c = true → lt a c = true
 total : ∀ a b, a ≠ b → lt a b = true ∨ lt b a = true
def insBy (lt : α → α → Bool) (l : List α) (x : α) : List α := if (l.dropWhile fun a => lt a x).head? = some x then l else (l.takeWhile fun a => lt a x) ++ [x] ++ (l.dropWhile fun a => lt a x)
def setL (lt : α → α → Bool) (l : List α) : List α := l.foldl (insBy lt) []
variable {lt : α → α → Bool}
theorem setL_snoc (l : List α) (x : α) : setL lt (l ++ [x]) = insBy lt (setL lt l) x := by simp [setL]
omit [DecidableEq α] in
theorem TLt.asymm (T : TLt lt) {a b : α} (h : lt a b = true) : lt b a = false := by
 cases e : lt b a with
 | false => rfl
 | true => have := T.trans _ _ _ h e; rw [T.irrefl] at this; cases this
theorem insBy_mem {l : List α} {x y : α} : y ∈ insBy lt l x ↔ y ∈ l ∨ y = x := by
 unfold insBy;split
 ·rename_i h;have : x ∈ l.dropWhile fun a => lt a x := List.mem_of_mem_head? h;have hx : x ∈ l := (List.dropWhile_sublist _).subset this;constructor
  ·exact .inl
  ·rintro (h | rfl)
   ·exact h
   ·exact hx
 have e : l = (l.takeWhile fun a => lt a x) ++ (l.dropWhile fun a => lt a x) := (List.takeWhile_append_dropWhile).symm;have : y ∈ l ↔ y ∈ (l.takeWhile fun a => lt a x) ∨ y ∈ (l.dropWhile fun a => lt a x) := by
  rw [← List.mem_append, ← e]
 rw [this];simp only [List.mem_append, List.mem_singleton];constructor
 ·rintro ((h | h) | h)
  ·exact .inl (.inl h)
  ·exact .inr h
  ·exact .inl (.inr h)
 rintro ((h | h) | h)
 ·exact .inl (.inl h)
 ·exact .inr h
 exact .inl (.inr h)
theorem insBy_sorted (T : TLt lt) {l : List α} {x : α} (hs : l.Pairwise fun a b => lt a b = true) : (insBy lt l x).Pairwise fun a b => lt a b = true := by
 unfold insBy;split
 ·exact hs
 rename_i hne;have e : l = (l.takeWhile fun a => lt a x) ++ (l.dropWhile fun a => lt a x) := (List.takeWhile_append_dropWhile).symm;have hs' := hs;rw [e] at hs';obtain ⟨s1, s2, s3⟩ := List.pairwise_append.1 hs';have ht : ∀ a ∈ l.takeWhile (fun a => lt a x), lt a x = true := by
  intro a ha;have := List.all_takeWhile (l := l) (p := fun a => lt a x);exact List.all_eq_true.1 this a ha
 have hd : ∀ b ∈ l.dropWhile (fun a => lt a x), lt x b = true := by
  cases hD : l.dropWhile (fun a => lt a x) with
  | nil => simp
  | cons c D =>
   have hc : ¬ lt c x = true := by
    have := List.head?_dropWhile_not (fun a => lt a x) l;rw [hD] at this; simpa using this
   have hcx : c ≠ x := by
    intro q; rw [hD, q] at hne; exact hne rfl
   have h1 : lt x c = true := (T.total x c (Ne.symm hcx)).resolve_right hc;intro b hb
   rcases List.mem_cons.1 hb with rfl | hb
   ·exact h1
   ·rw [hD] at s2;exact T.trans _ _ _ h1 ((List.pairwise_cons.1 s2).1 b hb)
 rw [List.append_assoc];refine List.pairwise_append.2 ⟨s1, List.pairwise_append.2 ⟨by simp, s2, ?_⟩, ?_⟩
 ·intro a ha b hb;simp at ha; subst ha;exact hd b hb
 intro a ha b hb
 rcases List.mem_append.1 hb with hb | hb
 ·simp at hb; subst hb; exact ht a ha
 exact s3 a ha b hb
theorem setL_sorted (T : TLt lt) (l : List α) : (setL lt l).Pairwise fun a b => lt a b = true := by
 induction l using zgF with
 | nil => exact List.Pairwise.nil
 | snoc l d ih => rw [setL_snoc]; exact insBy_sorted T ih
theorem setL_mem {l : List α} {y : α} : y ∈ setL lt l ↔ y ∈ l := by
 induction l using zgF with
 | nil => simp [setL]
 | snoc l d ih => rw [setL_snoc, insBy_mem, ih]; simp
omit [DecidableEq α] in
theorem strict_eq (T : TLt lt) {a b : List α} (ha : a.Pairwise fun x y => lt x y = true) (hb : b.Pairwise fun x y => lt x y = true) (h : ∀ x, x ∈ a ↔ x ∈ b) : a = b := by
 have na : a.Nodup := ha.imp (fun h e => by subst e; rw [T.irrefl] at h; cases h);have nb : b.Nodup := hb.imp (fun h e => by subst e; rw [T.irrefl] at h; cases h);refine List.Perm.eq_of_pairwise (le := fun x y => lt x y = true) (fun x y _ _ h1 h2 => by have := T.asymm h1; rw [h2] at this; cases this) ha hb ((List.perm_ext_iff_of_nodup na nb).2 h)
theorem setL_len (T : TLt lt) (l : List α) : (setL lt l).length ≤ l.length := by
 induction l using zgF with
 | nil => simp [setL]
 | snoc l d ih =>
  rw [setL_snoc, insBy];split
  ·simp; omega
  ·have e := congrArg List.length (List.takeWhile_append_dropWhile (p := fun a => lt a d) (l := setL lt l));simp only [List.length_append] at e ⊢;simp only [List.length_cons, List.length_nil]; omega
theorem compactL_mem {l : List α} : ∀ {y : α}, y ∈ zcm l ↔ y ∈ l := by
 induction l using zgF with
 | nil => simp [zcm]
 | snoc l d ih =>
  intro y;rw [zhw, zhD];split
  ·rename_i h;rw [ih];have : d ∈ zcm l := List.mem_of_getLast? h;rw [ih] at this;constructor
   ·intro h; simp [h]
   ·intro h
    rcases List.mem_append.1 h with h | h
    ·exact h
    ·simp at h; subst h; exact this
  ·simp [ih]
theorem compactL_sorted (T : TLt lt) {l : List α} (hs : l.Pairwise fun a b => lt b a = false) : (zcm l).Pairwise fun a b => lt a b = true := by
 induction l using zgF with
 | nil => exact List.Pairwise.nil
 | snoc l d ih =>
  obtain ⟨s1, _, s3⟩ := List.pairwise_append.1 hs;rw [zhw, zhD];split
  ·exact ih s1
  ·rename_i hne;refine List.pairwise_append.2 ⟨ih s1, by simp, fun a ha b hb => ?_⟩;simp at hb; subst hb;have hal : a ∈ l := compactL_mem.1 ha;have h1 := s3 a hal b (by simp)
   by_cases e : a = b
   ·exfalso;subst e;rw [compactL_last] at hne;cases hL : l.getLast? with
    | none => rw [List.getLast?_eq_none_iff] at hL; subst hL; cases hal
    | some z =>
     rw [hL] at hne;have hz : z ∈ l := List.mem_of_getLast? hL;have h2 := s3 z hz a (by simp)
     -- a comes ahead of z, or is it
     have h3 : lt z a = false := by
      obtain ⟨i, hi⟩ := List.mem_iff_getElem?.1 hal;rw [List.getLast?_eq_getElem?] at hL;obtain ⟨i1, i2⟩ := List.getElem?_eq_some_iff.1 hi;obtain ⟨z1, z2⟩ := List.getElem?_eq_some_iff.1 hL
      rcases Nat.lt_or_ge i (l.length - 1) with h | h
      ·have := List.pairwise_iff_getElem.1 s1 i (l.length - 1) i1 z1 h;rw [i2, z2] at this; exact this
      ·have : i = l.length - 1 := by omega
       subst this;rw [i2] at z2; subst z2; exact T.irrefl _
     by_cases e2 : z = a
     ·exact hne (by rw [e2])
     ·rcases T.total z a e2 with q | q
      ·rw [q] at h3; cases h3
      ·rw [q] at h2; cases h2
   ·rcases T.total a b e with q | q
    ·exact q
    ·rw [q] at h1; cases h1
theorem setOf_compact (T : TLt lt) {xs ys : List α} (hp : ys.Perm xs) (hs : ys.Pairwise fun a b => lt b a = false) : zcm ys = setL lt xs :=
 strict_eq T (compactL_sorted T hs) (setL_sorted T xs) (fun x => by rw [compactL_mem, setL_mem]; exact hp.mem_iff)
end
theorem sLt_eq (a b : Str) : sLt a b = decide (a < b) := Go.Proofs.bytesLess_eq a b
theorem sLt_T : TLt sLt := by
 refine ⟨fun a => ?_, fun a b c => ?_, fun a b h => ?_⟩
 ·rw [sLt_eq]; simp [List.lt_irrefl]
 ·rw [sLt_eq, sLt_eq, sLt_eq]; simp only [decide_eq_true_eq]; exact fun h1 h2 => List.lt_trans h1 h2
 rw [sLt_eq, sLt_eq]; simp only [decide_eq_true_eq]
 by_cases h1 : a < b
 ·exact .inl h1
 by_cases h2 : b < a
 ·exact .inr h2
 exact absurd (List.le_antisymm (List.not_lt.1 h2) (List.not_lt.1 h1)) h
def headsN (t : Text) (x : Lexicon) : List Head := if zaE t x = 0 then setL headLt (headsL t x) else []
def underP (t : Text) (x : Lexicon) (hd : Head) : List Place := (zbI t).filter fun p => decide (ziT t x p = hd)
def underE (t : Text) (x : Lexicon) (hd : Head) : Int := if zaE t x = 0 then (if zee hd = true then (if underP t x hd = [] then 6 else 0) else 2) else zaE t x
def underR (t : Text) (x : Lexicon) (hd : Head) : List Place := if underE t x hd = 0 then underP t x hd else []
def underN (t : Text) (x : Lexicon) (hd : Head) : List Entry := if underE t x hd = 0 then (zbA t x).filter fun y => !decide (y.head ≠ hd) else []
def formsR (t : Text) (x : Lexicon) (hd : Head) : List Str := if underE t x hd = 0 then setL sLt ((underP t x hd).map (zbx t)) else []
theorem entries_len {t : Text} (ht : zbc t = true) (x : Lexicon) : (zbA t x).length ≤ 600 := by rw [zbA, List.length_map]; exact zjv ht
theorem setOf_sort (l : List Str) : zcm (l.mergeSort fun a b => decide (a ≤ b)) = setL sLt l := by
 refine setOf_compact sLt_T (List.mergeSort_perm _ _) ?_;have h := List.pairwise_mergeSort (le := fun a b : Str => decide (a ≤ b)) (by intro a b c h1 h2; simp only [decide_eq_true_eq] at *; exact List.le_trans h1 h2) (by intro a b; simp only [Bool.or_eq_true, decide_eq_true_eq]; exact List.le_total a b) l;refine h.imp fun h => ?_;rw [sLt_eq]; simp only [decide_eq_true_eq] at h; simpa using h
end Go.Pk

namespace Go.Pk
open Go Go.RowKit
def zdL (es : List Entry) (w : Str) : Option Head := (es.find? fun y => decide (y.word = w)).map (·.head)
def homAt (es : List Entry) (y : Entry) : List Str := match zdL es y.word with
 | some h => if h ≠ y.head then [y.word] else []
 | none => []
def homsN (es : List Entry) : Nat → List Str
 | 0 => []
 | n + 1 => homsN es n ++ (match es[n]? with
  | some y => homAt (es.take n) y
  | none => [])
theorem homsN_succ {es : List Entry} {n : Nat} {y : Entry} (h : es[n]? = some y) : homsN es (n + 1) = homsN es n ++ homAt (es.take n) y := by simp only [homsN, h]
theorem zic (es : List Entry) : ∀ n, (homsN es n).length ≤ n
 | 0 => by simp [homsN]
 | n + 1 => by
  have ih := zic es n;simp only [homsN, List.length_append];split
  ·unfold homAt;split
   ·split <;> simp <;> omega
   ·simp; omega
  ·simp; omega
theorem hdFirst_snoc (es : List Entry) (y : Entry) (w : Str) : zdL (es ++ [y]) w = match zdL es w with
  | some h => some h
  | none => if y.word = w then some y.head else none := by
 unfold zdL;rw [List.find?_append];cases h : es.find? fun y => decide (y.word = w) with
 | some z => simp
 | none =>
  by_cases e : y.word = w <;> simp [e]
theorem hdFirst_put {es : List Entry} {n : Nat} {y : Entry} (h : es[n]? = some y) {m : List (Str × Head)} (hm : ∀ w, zbH m w = zdL (es.take n) w) (hc : ∀ z, zdL (es.take n) y.word = some z → z = y.head) : ∀ w, zbH (zgJ m y.word y.head) w = zdL (es.take (n + 1)) w := by
 intro w;rw [zje, zbh h, hdFirst_snoc, hm]
 by_cases e : w = y.word
 ·subst e;simp only [if_true];cases q : zdL (es.take n) y.word with
  | some z => rw [hc z q]
  | none => rfl
 rw [if_neg e];cases q : zdL (es.take n) w with
 | some z => rfl
 | none => simp only []; rw [if_neg (fun q => e q.symm)]
theorem hdFirst_keep {es : List Entry} {n : Nat} {y : Entry} (h : es[n]? = some y) {m : List (Str × Head)} (hm : ∀ w, zbH m w = zdL (es.take n) w) {z : Head} (hc : zdL (es.take n) y.word = some z) : ∀ w, zbH m w = zdL (es.take (n + 1)) w := by
 intro w;rw [zbh h, hdFirst_snoc, hm];cases q : zdL (es.take n) w with
 | some z => rfl
 | none =>
  simp only []
  by_cases e : y.word = w
  ·subst e; rw [hc] at q; cases q
  ·rw [if_neg e]
def pairAt (es : List Entry) (i j : Nat) : List Str := match es[i]?, es[j]? with
 | some a, some b => if a.word = b.word ∧ a.head ≠ b.head then [a.word] else []
 | _, _ => []
def pairRow (es : List Entry) (i : Nat) : List Str := (List.range i).flatMap (pairAt es i)
def pairsN (es : List Entry) (n : Nat) : List Str := (List.range n).flatMap (pairRow es)
def homR (t : Text) (x : Lexicon) : List Str := if zaE t x = 0 then setL sLt (homsN (zbA t x) (zbA t x).length) else []
def lessX (x : Lexicon) (n : Int) : Lexicon := { x with decisions := x.decisions.filter fun d => decide (d.number ≠ n) }
theorem lexiconB_of {t : Text} {x y : Lexicon} (h : zaE t x = 0) (hr : y.rules = x.rules) (hd : ∀ d ∈ y.decisions, zak t d = true) (hl : y.decisions.length ≤ 20) (hn : (y.decisions.map (·.number)).Nodup) : zaE t y = 0 := by
 obtain ⟨h1, h2⟩ := zil h;have h3 : zcl t y = true := by
  simp only [zcl, Bool.and_eq_true, decide_eq_true_eq, List.all_eq_true] at h2 ⊢;exact ⟨⟨⟨⟨by rw [hr]; exact h2.1.1.1.1, hl⟩, by rw [hr]; exact h2.1.1.2⟩, hd⟩, hn⟩
 simp [zaE, h1, h3]
theorem lexicon_12 {t : Text} {x : Lexicon} (h : zaE t x = 0) : x.rules.length ≤ 12 := by
 have h1 := (zil h).2;simp only [zcl, Bool.and_eq_true, decide_eq_true_eq] at h1;exact h1.1.1.1.1
def idleB (t : Text) (x : Lexicon) (n : Int) : Bool := decide ((lessX x n).decisions.length < x.decisions.length) && decide (headsL t (lessX x n) = headsL t x)
def natI (k : Nat) : Int := (k : Int) + 1
def idleK (t : Text) (x : Lexicon) (k : Nat) : List Int := ((List.range k).map natI).filter (idleB t x)
def idleR (t : Text) (x : Lexicon) : List Int := idleK t x 999
def idleN (t : Text) (x : Lexicon) : List Int := if zaE t x = 0 then idleR t x else []
def idleP (t : Text) (x : Lexicon) (d : Decision) : Bool := decide (zbA t (lessX x d.number) = zbA t x)
def moreX (x : Lexicon) (d : Decision) : Lexicon := { x with decisions := x.decisions ++ [d] }
def ascD (l : List Decision) : List Decision := l.mergeSort fun a b => decide (a.number ≤ b.number)
def zhV (x : Lexicon) (d : Decision) : Lexicon := { x with decisions := ascD (x.decisions ++ [d]) }
def zeS (t : Text) (x : Lexicon) (d : Decision) : Int := if zaE t x ≠ 0 then zaE t x else if x.decisions.length = 20 then 9 else if zaE t (moreX x d) ≠ 0 then 41 else 0
def zfn : Lexicon := ⟨[], []⟩
def zhW (t : Text) (x : Lexicon) (d : Decision) : Lexicon := if zeS t x d = 0 then zhV x d else zfn
theorem ascD_perm (l : List Decision) : (ascD l).Perm l := List.mergeSort_perm _ _
theorem ascD_sorted (l : List Decision) : (ascD l).Pairwise fun a b => a.number ≤ b.number := by
 have h := List.pairwise_mergeSort (le := fun a b : Decision => decide (a.number ≤ b.number)) (by intro a b c h1 h2; simp at *; omega) (by intro a b; simp; omega) l;exact h.imp (fun h => by simpa using h)
theorem ascD_eq {l ys : List Decision} (hp : ys.Perm l) (hs : ys.Pairwise fun a b => a.number ≤ b.number) (hn : (l.map (·.number)).Nodup) : ys = ascD l := by
 refine List.Perm.eq_of_pairwise (le := fun a b : Decision => a.number ≤ b.number) ?_ hs (ascD_sorted l) (hp.trans (ascD_perm l).symm);intro a b ha hb h1 h2;exact zjd hn (hp.mem_iff.1 ha) ((ascD_perm l).mem_iff.1 hb) zr
theorem addE_zero {t : Text} {x : Lexicon} {d : Decision} (h : zeS t x d = 0) : zaE t x = 0 ∧ ¬ x.decisions.length = 20 ∧ zaE t (moreX x d) = 0 := by
 unfold zeS at h;split at h
 ·rename_i q; exact absurd h q
 rename_i q;split at h
 ·cases h
 rename_i q2;split at h
 ·cases h
 rename_i q3;exact ⟨by simpa using q, q2, by simpa using q3⟩
theorem addX_check {t : Text} {x : Lexicon} {d : Decision} (h : zaE t (moreX x d) = 0) : zaE t (zhV x d) = 0 := by
 have hp := ascD_perm (x.decisions ++ [d]);refine lexiconB_of h rfl (fun e he => lexicon_dec h e (hp.mem_iff.1 he)) ?_ ?_
 ·have := zhk h;rw [show (zhV x d).decisions.length = (moreX x d).decisions.length from hp.length_eq]; exact this
 exact (hp.map _).nodup_iff.2 (zgK h).1
def changesP (t : Text) (x : Lexicon) (d : Decision) : List Place := (zbI t).filter fun p => decide (ziT t (zhV x d) p ≠ ziT t x p)
def changesR (t : Text) (x : Lexicon) (d : Decision) : List Place := if zeS t x d = 0 then changesP t x d else []
theorem hom_keep {es : List Entry} {n : Nat} {y : Entry} (h : es[n]? = some y) {m : List (Str × Head)} (hm : ∀ w, zbH m w = zdL (es.take n) w) (h1 : (zbH m y.word).isSome = true) : ∀ w, zbH m w = zdL (es.take (n + 1)) w := by
 obtain ⟨z, hz⟩ := Option.isSome_iff_exists.1 h1;exact hdFirst_keep h hm ((hm _).symm.trans hz)
theorem hom_put {es : List Entry} {n : Nat} {y : Entry} (h : es[n]? = some y) {m : List (Str × Head)} (hm : ∀ w, zbH m w = zdL (es.take n) w) (h1 : (zbH m y.word).isSome = true → (zbH m y.word).getD zdy = y.head) : ∀ w, zbH (zgJ m y.word y.head) w = zdL (es.take (n + 1)) w := by
 refine hdFirst_put h hm fun z hz => ?_;rw [← hm] at hz;rw [hz] at h1;exact h1 rfl
theorem homAt_yes {es : List Entry} {y : Entry} {m : List (Str × Head)} (hm : ∀ w, zbH m w = zdL es w) (h1 : (zbH m y.word).isSome = true) (h2 : (zbH m y.word).getD zdy ≠ y.head) : homAt es y = [y.word] := by
 obtain ⟨z, hz⟩ := Option.isSome_iff_exists.1 h1;rw [hz] at h2;rw [hm] at hz;simp only [homAt, hz];exact if_pos h2
theorem homAt_no {es : List Entry} {y : Entry} {m : List (Str × Head)} (hm : ∀ w, zbH m w = zdL es w) (h1 : (zbH m y.word).isSome = true → (zbH m y.word).getD zdy = y.head) : homAt es y = [] := by
 unfold homAt;rw [← hm];cases hz : zbH m y.word with
 | none => rfl
 | some z =>
  rw [hz] at h1;simp only [];exact if_neg (fun q => q (h1 rfl))
theorem entries_length (t : Text) (x : Lexicon) : (zbA t x).length = (zbI t).length := by rw [zbA, List.length_map]
theorem addE_bad {t : Text} {x : Lexicon} {d : Decision} (h : ¬ zaE t x = 0) : zeS t x d = zaE t x ∧ zhW t x d = zfn := by
 have e : zeS t x d = zaE t x := if_pos h;exact ⟨e, by rw [zhW, e]; exact if_neg h⟩
theorem addE_full {t : Text} {x : Lexicon} {d : Decision} (h : zaE t x = 0) (h2 : x.decisions.length = 20) : zeS t x d = 9 ∧ zhW t x d = zfn := by
 have e : zeS t x d = 9 := by rw [zeS, if_neg (fun q => q h), if_pos h2]
 exact ⟨e, by rw [zhW, e]; rfl⟩
theorem addE_err {t : Text} {x : Lexicon} {d : Decision} (h : zaE t x = 0) (h2 : ¬ x.decisions.length = 20) (h3 : ¬ zaE t (moreX x d) = 0) : zeS t x d = 41 ∧ zhW t x d = zfn := by
 have e : zeS t x d = 41 := by rw [zeS, if_neg (fun q => q h), if_neg h2, if_pos h3]
 exact ⟨e, by rw [zhW, e]; rfl⟩
theorem addE_ok {t : Text} {x : Lexicon} {d : Decision} (h : zaE t x = 0) (h2 : ¬ x.decisions.length = 20) (h3 : zaE t (moreX x d) = 0) : zeS t x d = 0 ∧ zhW t x d = zhV x d := by
 have e : zeS t x d = 0 := by rw [zeS, if_neg (fun q => q h), if_neg h2, if_neg (fun q => q h3)]
 exact ⟨e, by rw [zhW, e]; rfl⟩
end Go.Pk

namespace Go.Pk
open Go Go.RowKit
def insK (ds : List Decision) (i k : Nat) (y : Decision) : List Decision := ds.take k ++ y :: ((ds.take i).drop k ++ ds.drop (i + 1))
def sortedTo (ds : List Decision) (i : Nat) : Prop := (ds.take i).Pairwise fun a b => a.number ≤ b.number
end Go.Pk

namespace Go.Pk
open Go Go.RowKit
def winV (x : Lexicon) (p : Place) (wd : Str) : Decision :=
 if (zaH ((x.decisions.filter (zcH x)).filter fun d => zdC d p wd)).number = 0 then { zcu with to := ⟨((zdN x.rules 4 wd).getLast?).getD [], 0⟩ } else zaH ((x.decisions.filter (zcH x)).filter fun d => zdC d p wd)
theorem standM_perm (x : Lexicon) : ((zfd x).map (·.2)).Perm (x.decisions.filter (zcH x)) := by
 have : (zfd x).map (·.2) = (zdh x).filter (zcH x) := by simp [zfd, zfQ, List.map_map, Function.comp_def]
 rw [this];exact (zdP x).filter _
theorem winV_eq {x : Lexicon} (h : OkD x) : zcY x = winV x := by
 funext p wd;have hp : (conD x p wd).Perm ((x.decisions.filter (zcH x)).filter fun d => zdC d p wd) := (standM_perm x).filter _;have e : zaH (conD x p wd) = zaH ((x.decisions.filter (zcH x)).filter fun d => zdC d p wd) := by
  refine bestOf_perm hp ?_ ?_
  ·intro y hy;exact (h.2 _ (List.mem_filter.1 (List.mem_filter.1 hy).1).1).1
  ·exact ((List.filter_sublist.trans List.filter_sublist).map _).nodup h.1
 rw [zcY, winV, e]
def headV (t : Text) (x : Lexicon) (p : Place) : Head := (winV x p (zbx t p)).to
theorem headV_eq {t : Text} {x : Lexicon} (h : OkD x) : ziT t x = headV t x := by
 funext p;rw [ziT, headV, winV_eq h]
def entryV (t : Text) (x : Lexicon) (p : Place) : Entry := ⟨p, zbx t p, headV t x p⟩
def headsV (t : Text) (x : Lexicon) : List Head := (zbI t).map (headV t x)
def entriesV (t : Text) (x : Lexicon) : List Entry := (zbI t).map (entryV t x)
theorem entriesV_eq {t : Text} {x : Lexicon} (h : OkD x) : zbA t x = entriesV t x := by
 rw [zbA, entriesV];refine List.map_congr_left fun p _ => ?_;rw [entryAt, entryV, headV_eq h]
def underV (t : Text) (x : Lexicon) (hd : Head) : List Place := (zbI t).filter fun p => decide (headV t x p = hd)
def homV (t : Text) (x : Lexicon) : List Str := setL sLt (homsN (entriesV t x) (zbI t).length)
theorem homV_eq {t : Text} {x : Lexicon} (h : zaE t x = 0) : homR t x = homV t x := by
 rw [homR, if_pos h, homV, entries_length, entriesV_eq (zgK h)]
def idleV (t : Text) (x : Lexicon) (n : Int) : Bool := decide ((lessX x n).decisions.length < x.decisions.length) && decide (headsV t (lessX x n) = headsV t x)
def changesV (t : Text) (x y : Lexicon) : List Place := (zbI t).filter fun p => decide (headV t y p ≠ headV t x p)
theorem addX_eq {x : Lexicon} {d : Decision} {ys : List Decision} (hp : ys.Perm (x.decisions ++ [d])) (hs : ys.Pairwise fun a b => a.number ≤ b.number) (hn : ((x.decisions ++ [d]).map (·.number)).Nodup) : zhV x d = ⟨x.rules, ys⟩ := by
 rw [zhV, ← ascD_eq hp hs hn]
def wThe : Str := [116, 104, 101]
def zdz : Str := [115, 101, 97]
def wSee : Str := [115, 101, 101]
def wIs : Str := [105, 115]
def zif : Str := [111, 108, 100]
def wOlde : Str := [111, 108, 100, 101]
def wAnd : Str := [97, 110, 100]
def wAge : Str := [97, 103, 101]
def zih : Text := ⟨[⟨7, [[wThe, zdz, wIs, zif], [zif, wThe, zdz]]⟩, ⟨3, [[zdz, wAnd, zdz]]⟩]⟩
def rulesE : List Rule := [⟨[115], [], 2⟩, ⟨[108, 100], [108, 100, 101], 1⟩]
def d1E : Decision := ⟨1, 1, zdz, zdE, ⟨zdz, 1⟩, 0⟩
def d2E : Decision := ⟨2, 2, zif, ⟨0, 1, 0⟩, ⟨wAge, 3⟩, 0⟩
def d3E : Decision := ⟨3, 3, [], ⟨1, 0, 2⟩, ⟨wSee, 2⟩, 0⟩
def d4E : Decision := ⟨4, 1, zdz, zdE, ⟨wSee, 2⟩, 0⟩
def d5E : Decision := ⟨5, 4, [], zdE, zdy, 3⟩
def lexE (more : List Decision) : Lexicon := ⟨rulesE, [d1E, d2E, d3E] ++ more⟩
theorem askR_eq {t : Text} {x : Lexicon} {p : Place} (hx : zaE t x = 0) (hp : zbm t p = true) : zfI t x p = winV x p (zbx t p) := by rw [zfI, if_pos ⟨hx, hp⟩, winV_eq (zgK hx)]
theorem askE_eq {t : Text} {x : Lexicon} {p : Place} (hx : zaE t x = 0) (hp : zbm t p = true) : askE t x p = 0 := by rw [askE, if_pos hx, if_pos hp]
end Go.Pk

namespace Go.Pk
open Go Go.RowKit
def zez (x : Lexicon) (p : Place) (wd : Str) : List Decision := (x.decisions.filter (zcH x)).filter fun d => zdC d p wd
theorem winV_of {x y : Lexicon} {p : Place} {wd : Str} (hr : y.rules = x.rules) (hx : OkD x) (h : (zez y p wd).Perm (zez x p wd)) : winV y p wd = winV x p wd := by
 have e : zaH (zez y p wd) = zaH (zez x p wd) := by
  refine bestOf_perm h ?_ ?_
  ·intro z hz;exact (hx.2 _ (List.mem_filter.1 (List.mem_filter.1 hz).1).1).1
  ·exact ((List.filter_sublist.trans List.filter_sublist).map _).nodup hx.1
 simp only [zez] at e;rw [winV, winV, e, hr]
end Go.Pk

namespace Go.Pk
open Go Go.RowKit
def ziP (x : Lexicon) : List Int := (standingR x).map (·.number)
theorem standS_mem {x : Lexicon} (hx : OkD x) {n : Int} : n ∈ ziP x ↔ ∃ d ∈ x.decisions, d.number = n ∧ zcH x d = true := by
 simp only [ziP, standingR, List.mem_map, List.mem_flatMap, List.mem_range, standAt_mem];constructor
 ·rintro ⟨d, ⟨k, _, h1, _, h3⟩, rfl⟩; exact ⟨d, h1, rfl, h3⟩
 rintro ⟨d, h1, rfl, h3⟩;have h4 := hx.2 _ h1;exact ⟨d, ⟨(d.number - 1).toNat, by omega, h1, by omega, h3⟩, rfl⟩
theorem standS_at {x : Lexicon} (hx : OkD x) {d : Decision} (hd : d ∈ x.decisions) : d.number ∈ ziP x ↔ zcH x d = true := by
 rw [standS_mem hx];constructor
 ·rintro ⟨e, h1, h2, h3⟩;rw [← zjd hx.1 h1 hd h2]; exact h3
 intro h; exact ⟨d, hd, rfl, h⟩
def cntQ {α : Type} (q : α → Bool) (l : List α) (i : Nat) : Nat := ((l.take i).filter q).length
theorem addX_perm (x : Lexicon) (d : Decision) : (zhV x d).decisions.Perm (x.decisions ++ [d]) := ascD_perm _
theorem addX_ok {t : Text} {x : Lexicon} {d : Decision} (h : zeS t x d = 0) : OkD x ∧ OkD (zhV x d) ∧ ∀ e ∈ x.decisions, e.number ≠ d.number := by
 obtain ⟨h1, _, h3⟩ := addE_zero h;refine ⟨zgK h1, zgK (addX_check h3), fun e he => ?_⟩;have hn := (zgK h3).1;simp only [moreX, List.map_append, List.map_cons, List.map_nil] at hn;exact (List.nodup_append.1 hn).2.2 _ (List.mem_map_of_mem he) _ (by simp)
theorem mem_addX {x : Lexicon} {d e : Decision} : e ∈ (zhV x d).decisions ↔ e ∈ x.decisions ∨ e = d := by
 rw [(addX_perm x d).mem_iff, List.mem_append]; simp
theorem countV_nodup {x : Lexicon} (hx : OkD x) (p : Place) (wd : Str) : (zez x p wd).Nodup := nodup_of_map _ (((List.filter_sublist.trans List.filter_sublist).map _).nodup hx.1)
theorem zhn {x : Lexicon} {p : Place} {wd : Str} {e : Decision} : e ∈ zez x p wd ↔ e ∈ x.decisions ∧ zcH x e = true ∧ zdC e p wd = true := by
 simp only [zez, List.mem_filter];constructor
 ·rintro ⟨⟨a, b⟩, c⟩; exact ⟨a, b, c⟩
 rintro ⟨a, b, c⟩; exact ⟨⟨a, b⟩, c⟩
theorem standsF_more {x : Lexicon} {d : Decision} (hk : d.kind ≠ 4) : ∀ n e, zed (zhV x d) n e = zed x n e
 | 0, _ => rfl
 | n + 1, e => by
  simp only [zed];rw [(addX_perm x d).all_eq, List.all_append];simp only [List.all_cons, List.all_nil, hk, decide_false, Bool.false_and, Bool.not_false, Bool.and_true];congr 1;funext v;rw [standsF_more hk n v]
end Go.Pk

namespace Go.Pk
open Go Go.RowKit
theorem winV_some {x : Lexicon} (hx : OkD x) {p : Place} {wd : Str} (h : zez x p wd ≠ []) : winV x p wd = zaH (zez x p wd) ∧ zaH (zez x p wd) ∈ zez x p wd ∧ ∀ y ∈ zez x p wd, y ≠ zaH (zez x p wd) → lexD y (zaH (zez x p wd)) := by
 have hp : ∀ z ∈ zez x p wd, 1 ≤ z.number := fun z hz => (hx.2 _ (zhn.1 hz).1).1;have hn : ((zez x p wd).map (·.number)).Nodup := ((List.filter_sublist.trans List.filter_sublist).map _).nodup hx.1;have hb := ziv hp h;refine ⟨?_, hb.2, bestOf_best hp hn⟩;have h1 := hb.1;simp only [zez] at h1 ⊢;rw [winV, if_neg zr]
theorem wins_some {x : Lexicon} (hx : OkD x) {p : Place} {wd : Str} {d : Decision} (hd : d ∈ x.decisions) (h1 : d.number ∈ ziP x) (h2 : zdC d p wd = true) :
  zcY x p wd ∈ x.decisions ∧ 1 ≤ (zcY x p wd).number ∧ (zcY x p wd).number ∈ ziP x ∧ zdC (zcY x p wd) p wd = true ∧ ∀ e ∈ x.decisions, e.number ∈ ziP x → zdC e p wd = true → e.number ≠ (zcY x p wd).number → lexD e (zcY x p wd) := by
 rw [winV_eq hx];have hne : zez x p wd ≠ [] := by
  intro q;have : d ∈ zez x p wd := zhn.2 ⟨hd, (standS_at hx hd).1 h1, h2⟩;rw [q] at this; cases this
 obtain ⟨e1, e2, e3⟩ := winV_some hx hne;rw [e1];obtain ⟨a1, a2, a3⟩ := zhn.1 e2;refine ⟨a1, (hx.2 _ a1).1, (standS_at hx a1).2 a2, a3, fun e he hs hc hn => ?_⟩;exact e3 e (zhn.2 ⟨he, (standS_at hx he).1 hs, hc⟩) (fun q => hn (by rw [q]))
theorem stands_free {x : Lexicon} (hx : OkD x) {d : Decision} (hd : 1 ≤ d.number) (h : ∀ v ∈ x.decisions, v.kind = 4 → v.of_ ≠ d.number) : zcH x d = true := by
 rw [standsB_eq hx hd, List.all_eq_true];intro v hv
 by_cases hk : v.kind = 4
 ·simp [h v hv hk]
 simp [hk]
def voidD (n o : Int) : Decision := ⟨n, 4, [], zdE, zdy, o⟩
section
variable {t : Text} {x : Lexicon} {d : Decision} {most : Int}
end
end Go.Pk

namespace Go.Pk
open Go Go.RowKit
def zRule : Rule := ⟨[], [], 0⟩
def chooseN (l : List Int) (i : Nat) : Int := (l[i % l.length]?).getD 0
theorem tmod_nat {i : Int} {n : Nat} (hi : 0 ≤ i) : i.tmod (n : Int) = ((i.toNat % n : Nat) : Int) := by
 obtain ⟨m, rfl⟩ := Int.eq_ofNat_of_zero_le hi;rw [Int.tmod_eq_emod_of_nonneg hi, Int.toNat_natCast, Int.natCast_emod]
theorem askR_win {t : Text} {x : Lexicon} {p : Place} (hx : zaE t x = 0) (hp : zbm t p = true) : zfI t x p = zcY x p (zbx t p) := by
 rw [zfI, if_pos ⟨hx, hp⟩]
end Go.Pk

namespace Go.Pk
open Go Go.RowKit
theorem at_word {t : Text} {p : Place} (ht : zbc t = true) : (if zbc t = true then (zgZ t p).getD [] else []) = zbx t p := by rw [if_pos ht]; rfl
theorem at_err {t : Text} {p : Place} (ht : zbc t = true) (hp : zbm t p = true) : (if (zbc t && zbm t p) = true then (0 : Int) else if zbc t = true then 12 else 10) = 0 := by rw [if_pos (by rw [ht, hp]; rfl)]
theorem placesT_in {t : Text} {k n w : Nat} {c : Chapter} {ln : List Str} (hc : t.chapters[k]? = some c) (hl : c.lines[n]? = some ln) (hw : w < ln.length) : mkP k n w ∈ zbI t := by
 refine List.mem_flatMap.2 ⟨k, List.mem_range.2 (List.getElem?_eq_some_iff.1 hc).1, List.mem_flatMap.2 ⟨n, List.mem_range.2 ?_, List.mem_map.2 ⟨w, List.mem_range.2 ?_, rfl⟩⟩⟩
 ·rw [zem hc]; exact (List.getElem?_eq_some_iff.1 hl).1
 rw [zeI hc hl]; exact hw
theorem places_pos {t : Text} (ht : zbc t = true) : 0 < (zbI t).length := by
 have ht' := ht;simp only [zbc, Bool.and_eq_true, List.all_eq_true, inB, decide_eq_true_eq] at ht;obtain ⟨⟨h1, h2⟩, _⟩ := ht;have hc : t.chapters[0]? = some t.chapters[0] := List.getElem?_eq_getElem zr;have h3 := h2 _ (List.mem_of_getElem? hc);simp only [zbB, Bool.and_eq_true, List.all_eq_true, inB, decide_eq_true_eq] at h3;have hl : t.chapters[0].lines[0]? = some t.chapters[0].lines[0] := List.getElem?_eq_getElem zr;have h4 := h3.2 _ (List.mem_of_getElem? hl);simp only [zgs, Bool.and_eq_true, List.all_eq_true, inB, decide_eq_true_eq] at h4;exact List.length_pos_of_mem (placesT_in hc hl (w := 0) zr)
def trM (l : List Int) : List (Int × Bool) := l.map fun n => (n, true)
def wonF (l : List Decision) (n : Int) : Decision := l.foldl (fun a d => if d.number = n then d else a) zcu
theorem any_snoc {α : Type} {q : α → Bool} {l : List α} {k : Nat} {a : α} (h : l[k]? = some a) : (l.take (k + 1)).any q = ((l.take k).any q || q a) := by rw [zbh h, List.any_append]; simp
def someS (x : Lexicon) (p : Place) (wd : Str) (d : Decision) : Bool := decide (d.number ∈ ziP x) && zdC d p wd
def zfZ (l : List Decision) : Int := l.foldl (fun a d => max a d.number) 0
theorem mostN_snoc {l : List Decision} {k : Nat} {d : Decision} (h : l[k]? = some d) : zfZ (l.take (k + 1)) = max (zfZ (l.take k)) d.number := by rw [zfZ, zbh h, List.foldl_append]; rfl
theorem fold_max : ∀ (l : List Decision) (a : Int), a ≤ l.foldl (fun a d => max a d.number) a ∧ ∀ d ∈ l, d.number ≤ l.foldl (fun a d => max a d.number) a
 | [], a => ⟨Int.le_refl _, fun d hd => by cases hd⟩
 | e :: l, a => by
  have ⟨h1, h2⟩ := fold_max l (max a e.number);rw [List.foldl_cons];refine ⟨by omega, fun d hd => ?_⟩
  rcases List.mem_cons.1 hd with rfl | hd
  ·omega
  ·exact h2 d hd
theorem fold_max_le : ∀ (l : List Decision) (a b : Int), a ≤ b → (∀ d ∈ l, d.number ≤ b) → l.foldl (fun a d => max a d.number) a ≤ b
 | [], a, b, h, _ => h
 | e :: l, a, b, h, h2 => by
  rw [List.foldl_cons];exact fold_max_le l _ b (by have := h2 e List.mem_cons_self; omega) fun d hd => h2 d (List.mem_cons_of_mem _ hd)
theorem mostN_ge {l : List Decision} {d : Decision} (h : d ∈ l) : d.number ≤ zfZ l := (fold_max l 0).2 d h
theorem mostN_pos (l : List Decision) : 0 ≤ zfZ l := (fold_max l 0).1
theorem all_snoc {α : Type} {P : α → Prop} {l : List α} {k : Nat} {a : α} (h : ∀ o ∈ l.take k, P o) (ha : l[k]? = some a) (hp : P a) : ∀ o ∈ l.take (k + 1), P o := by
 intro o ho;rw [zbh ha, List.mem_append] at ho
 rcases ho with ho | ho
 ·exact h o ho
 simp at ho; rw [ho]; exact hp
theorem small_of {t : Text} {x : Lexicon} (h : zaE t x = 0) : zfq x = true := by
 have h1 := (zil h).2;simp only [zcl, Bool.and_eq_true, List.all_eq_true, decide_eq_true_eq] at h1;obtain ⟨⟨⟨⟨a, b⟩, c⟩, d⟩, _⟩ := h1;simp only [zfq, Bool.and_eq_true, List.all_eq_true, decide_eq_true_eq];refine ⟨⟨⟨by omega, by omega⟩, fun r hr => ?_⟩, fun e he => ?_⟩
 ·have q := c r hr;simp only [zhy, Bool.and_eq_true, zcJ, inB, decide_eq_true_eq] at q;simp only [smallR, Bool.and_eq_true, decide_eq_true_eq];omega
 have q := d e he;simp only [zak, Bool.and_eq_true] at q;have q2 := q.2;simp only [smallD, Bool.and_eq_true, decide_eq_true_eq];split at q2
 ·simp only [Bool.and_eq_true, zee] at q2;have a := zie q2.1.1.1; have b := zie q2.1.2.1; omega
 split at q2
 ·simp only [Bool.and_eq_true, zee] at q2;have a := zie q2.1.1.1; have b := zie q2.1.2.1; omega
 split at q2
 ·simp only [Bool.and_eq_true, zee, decide_eq_true_eq] at q2;have b := zie q2.1.2.1;have a := q2.1.1.1;rw [a]; simp; omega
 split at q2
 ·simp only [Bool.and_eq_true, decide_eq_true_eq] at q2;have a := q2.1.1.1; have b := q2.1.2;rw [a, b]; simp [zdy]
 cases q2
def chQ (t : Text) (x : Lexicon) (d : Decision) (p : Place) : Bool := decide (ziT t (zhV x d) p ≠ ziT t x p)
section
variable {t : Text} {x : Lexicon} {d : Decision}
def cdQ (x y : Lexicon) (p : Place) (wd : Str) (o : Decision) : Bool := (decide (o.number ∈ ziP x) != decide (o.number ∈ ziP y)) && zdC o p wd
theorem addN_check (h : zeS t x d = 0) : zaE t (zhW t x d) = 0 := by
 rw [show zhW t x d = zhV x d by rw [zhW, if_pos h]];exact addX_check (addE_zero h).2.2
end
end Go.Pk

namespace Go.Pk
open Go Go.RowKit
def zText : Text := ⟨[]⟩
end Go.Pk

namespace Go.Pk
open Go Go.RowKit
def numI (t : Text) (p : Place) : Int := (((zbI t).idxOf p : Nat) : Int)
def underA (t : Text) (x : Lexicon) (hs : List Head) : List Place := hs.flatMap (underP t x)
def seenL (t : Text) (x : Lexicon) (hs : List Head) (u : List Place) : List Int := (underA t x hs ++ u).map (numI t)
def putAll (ws : List Str) : List (Str × Bool) := ws.foldl (fun m w => zgJ m w true) []
theorem flat_split {α : Type} (f : Nat → List α) {i : Nat} : ∀ {N : Nat}, i < N → ∃ R, (List.range N).flatMap f = (List.range i).flatMap f ++ (f i ++ R)
 | N + 1, h => by
  rw [zeR]
  by_cases e : i = N
  ·subst e; exact ⟨[], by simp⟩
  ·obtain ⟨R, hR⟩ := flat_split f (show i < N by omega);exact ⟨R ++ f N, by rw [hR]; simp⟩
theorem map_split {α : Type} (g : Nat → α) {m : Nat} : ∀ {N : Nat}, m < N → ∃ R, (List.range N).map g = (List.range m).map g ++ g m :: R
 | N + 1, h => by
  rw [List.range_succ, List.map_append]
  by_cases e : m = N
  ·subst e; exact ⟨[], rfl⟩
  ·obtain ⟨R, hR⟩ := map_split g (show m < N by omega);exact ⟨R ++ [g N], by rw [hR]; simp⟩
theorem place_pos {t : Text} {i n m : Nat} {c : Chapter} {ln : List Str} (hc : t.chapters[i]? = some c) (hl : c.lines[n]? = some ln) (hm : m < ln.length) :
  (zbI t)[((List.range i).flatMap (zhK t) ++ (List.range n).flatMap (zhA t i) ++ (List.range m).map (mkP i n)).length]? = some (mkP i n m) := by
 obtain ⟨R1, e1⟩ := flat_split (zhK t) (List.getElem?_eq_some_iff.1 hc).1;obtain ⟨R2, e2⟩ := flat_split (zhA t i) (show n < (zhS t i).length by rw [zem hc]; exact (List.getElem?_eq_some_iff.1 hl).1);obtain ⟨R3, e3⟩ := map_split (mkP i n) (show m < (wordsAt t i n).length by rw [zeI hc hl]; exact hm);have e : zbI t = ((List.range i).flatMap (zhK t) ++ (List.range n).flatMap (zhA t i) ++ (List.range m).map (mkP i n)) ++ (mkP i n m :: (R3 ++ (R2 ++ R1))) := by
  rw [zbI, e1, show zhK t i = (List.range n).flatMap (zhA t i) ++ (zhA t i n ++ R2) from e2, show zhA t i n = (List.range m).map (mkP i n) ++ mkP i n m :: R3 from e3];simp [List.append_assoc]
 rw [e, List.getElem?_append_right (Nat.le_refl _), Nat.sub_self]; rfl
theorem pre_snoc {α : Type} {l pre : List α} {x : α} (h : pre = l.take pre.length) (hx : l[pre.length]? = some x) : pre ++ [x] = l.take (pre ++ [x]).length := by
 rw [List.length_append, List.length_cons, List.length_nil, Nat.zero_add, zbh hx, ← h]
end Go.Pk

namespace Go.Pk
open Go Go.RowKit
theorem St.mid {h0 h : Heap} {w0 w : World} {A rest : Own} {o : List (Nat × Obj)} (st : St h0 w0 h w ((A ++ rest) ++ [o])) : St h0 w0 h w (A ++ o :: rest) := by
 refine st.perm ?_;rw [List.append_assoc];exact (List.perm_append_comm (l₁ := rest) (l₂ := [o])).append_left A
theorem St.over {h0 h h' : Heap} {w0 w w' : World} {own rest : Own} (a : St h0 w0 h w rest) (b : St h w h' w' own) : St h0 w0 h' w' rest := a.call0 (b.take 0)
theorem St.keep {h0 h h' : Heap} {w0 w w' : World} {own rest : Own} (a : St h0 w0 h w rest) (b : St h w h' w' own) : St h0 w0 h' w' (own ++ rest) := (a.call b).perm List.perm_append_comm
def GivesA {α : Type} (P : Program) (gf : FuncId) (caps : List Value) (A : List α → Heap → Value → α → Prop) (S : List α → Prop) (h : Heap) : Prop :=
 ∀ h0 w0 h', Le h h' → GivesG P gf caps (fun pre h us x => ∃ u, us = [u] ∧ A pre h u x) S h0 w0 h'
theorem GivesA.up {α : Type} {P : Program} {gf : FuncId} {caps : List Value} {A : List α → Heap → Value → α → Prop} {S : List α → Prop} {h h' : Heap} (g : GivesA P gf caps A S h) (le : Le h h') : GivesA P gf caps A S h' :=
 fun h0 w0 h1 l1 => g h0 w0 h1 (le.trans l1)
theorem zhX {α : Type} {P : Program} {n : Nat} {Q : Exit → VS → World → Prop} {A : List α → Heap → Value → α → Prop} {g : Operand} {p : Tmp} {assign body : Code} {σ : Env} {w : World} {gf : FuncId} {caps : List Value} {S : List α → Prop} {h0 h : Heap} {w0 : World} {own : Own}
  (st : St h0 w0 h w own) (hg : ev σ g = .func (.func gf) #[] caps.toArray) (eg : ∀ a w, (callFunc gf a).run P w = .ok (.enter gf a) w) (hp : Nat.blt p n = true)
  (seq : GivesG P gf caps (fun pre h us x => ∃ u, us = [u] ∧ A pre h u x) S h0 w0 h) (I : List α → Heap → Own → Prop) (Ix : Code → List α → Heap → Own → Prop)
  (hI : ∀ xs h1 h2 o, I xs h1 o → Le h1 h2 → I xs h2 o) (hIx : ∀ c xs h1 h2 o, Ix c xs h1 o → Le h1 h2 → Ix c xs h2 o) (h00 : I [] h own)
  (hround : ∀ (l : Nat) pre x h1 w1 own1 tail u, Le h h1 → I pre h1 own1 → St h0 w0 h1 w1 (own1 ++ tail) → A pre h1 u x →
   V { Fence.wide with round := some l } P n assign (APost { Fence.wide with round := some l } P n body I Ix h0 w0 h1 (pre ++ [x]) tail) ([], upd σ p u) w1)
  (hdone : ∀ D xs h' w' own', Le h h' → S xs → I xs h' own' → St h0 w0 h' w' (own' ++ [[(D, .deferred (some []))]]) → Q .normal ([{ target := .collected D, args := #[] }], σ) w')
  (hstop : ∀ D c pre h' w' own', Le h h' → Ix c pre h' own' → St h0 w0 h' w' (own' ++ [[(D, .deferred (some []))]]) → V Fence.wide P n c Q ([{ target := .collected D, args := #[] }], σ) w') :
  V Fence.wide P n (.rangeFunc g #[p] assign body) Q ([], σ) w := by
 refine zjI (up := fun us => upd σ p (us.headD undef)) st hg eg ?_ (by rintro _ _ _ _ ⟨u, rfl, _⟩; rfl) seq I Ix hI hIx h00 ?_ hdone hstop
 ·rintro a pre us h x hf ⟨u, rfl, _⟩;have h2 := hf.bare.put (d := some p) (by exact hp) u;have e1 : (#[p].zip [u].toArray).foldl (fun tmps (x : Nat × Value) => tmps.setIfInBounds x.1 x.2) a.tmps = a.tmps.setIfInBounds p u := by simp
  show FitsD [] n ({ tmps := (#[p].zip [u].toArray).foldl (fun tmps (x : Nat × Value) => tmps.setIfInBounds x.1 x.2) a.tmps, defers := [] } : Act) (upd σ p u);rw [e1]; exact ⟨h2.size, rfl, h2.at_⟩
 ·rintro l pre x h1 w1 own1 tail us a b c ⟨u, rfl, d⟩;exact hround l pre x h1 w1 own1 tail u a b c d
end Go.Pk

namespace Go.Pk
open Go Go.RowKit
def zhZ : Question := ⟨zdE, []⟩
def zVoter : Voter := ⟨0, 0, []⟩
def zSpan : Span := ⟨0, 0⟩
def zde (hs : List Head) (k : Nat) : Bool := match hs[k]? with | some h => zee h && (decide (k = 0) || headLt ((hs[k - 1]?).getD zdy) h) | none => true
def headsOk (hs : List Head) : Bool := (List.range hs.length).all (zde hs)
def zex (p : Poll) (i : Nat) : Bool := match p.questions[i]? with
 | some q => zbm p.text q.at_ && (decide (i = 0) || zdi ((p.questions[i - 1]?).getD zhZ).at_ q.at_) && inB q.heads.length 2 3 && headsOk q.heads
 | none => true
def zgD (p : Poll) (v : Voter) (k : Nat) : Bool := match v.votes[k]?, p.questions[k]? with | some n, some q => inB n (-1) ((q.heads.length : Int) - 1) | _, _ => true
def ziA (p : Poll) (v : Voter) : Bool := (List.range v.votes.length).all (zgD p v)
def zjp (p : Poll) (v : Voter) : Bool := inB v.id 0 9999 && inB v.wrong 0 6 && decide (v.votes.length = p.questions.length) && ziA p v
def zel (p : Poll) (i : Nat) : Bool := match p.voters[i]? with | some v => zjp p v && (p.voters.take i).all fun u => decide (u.id ≠ v.id) | none => true
def zcZ (p : Poll) : Bool := decide (p.questions.length ≤ 6) && decide (p.voters.length ≤ 6) && (List.range p.questions.length).all (zex p) && (List.range p.voters.length).all (zel p)
def zcz (p : Poll) : Int := if zaE p.text p.lexicon ≠ 0 then zaE p.text p.lexicon else if zcZ p = true then 0 else 70
def zgd (v : Voter) (hs : List Int) (k : Nat) : Bool := match v.votes[k]?, hs[k]? with | some a, some b => decide (0 ≤ a) && decide (a ≠ b) | _, _ => false
def zdq (v : Voter) (hs : List Int) : Nat := ((List.range hs.length).filter (zgd v hs)).length
def inAt (p : Poll) (hs : List Int) (k : Nat) : Bool := match hs[k]?, p.questions[k]? with | some n, some q => inB n 0 ((q.heads.length : Int) - 1) | _, _ => true
def trueB (p : Poll) (hs : List Int) : Bool := decide (hs.length = p.questions.length) && (List.range hs.length).all (inAt p hs) && p.voters.all fun v => decide ((zdq v hs : Int) ≤ v.wrong)
def candL : List Nat → List (List Int)
 | [] => [[]]
 | n :: ns => (List.range n).flatMap fun (h : Nat) => (candL ns).map fun t => (h : Int) :: t
def zhJ (p : Poll) : List Nat := p.questions.map (·.heads.length)
def zab (p : Poll) : List (List Int) := (candL (zhJ p)).filter (trueB p)
theorem wrongN_snoc (v : Voter) (hs : List Int) (h : Int) : zdq v (hs ++ [h]) = zdq v hs + if (match v.votes[hs.length]? with | some a => decide (0 ≤ a) && decide (a ≠ h) | none => false) = true then 1 else 0 := by
 rw [zdq, List.length_append, List.length_cons, List.length_nil, Nat.zero_add, List.range_succ, List.filter_append, List.length_append];congr 1
 ·rw [zdq];congr 1;refine List.filter_congr fun k hk => ?_;have hk := List.mem_range.1 hk;simp only [zgd];rw [List.getElem?_append_left hk]
 have e : zgd v (hs ++ [h]) hs.length = (match v.votes[hs.length]? with | some a => decide (0 ≤ a) && decide (a ≠ h) | none => false) := by
  simp only [zgd];have e1 : (hs ++ [h])[hs.length]? = some h := by simp
  rw [e1];cases v.votes[hs.length]? <;> rfl
 rw [List.filter_cons, e, List.filter_nil];generalize (match v.votes[hs.length]? with | some a => decide (0 ≤ a) && decide (a ≠ h) | none => false) = c;cases c <;> rfl
theorem wrongN_pre (v : Voter) : ∀ (t hs : List Int), zdq v hs ≤ zdq v (hs ++ t)
 | [], hs => by simp
 | a :: t, hs => by
  have h1 := wrongN_pre v t (hs ++ [a]);have h2 := wrongN_snoc v hs a;rw [List.append_assoc] at h1;have : zdq v hs ≤ zdq v (hs ++ [a]) := by omega
  exact Nat.le_trans this h1
theorem flat_congr {α β : Type} {f g : α → List β} : ∀ {l : List α}, (∀ a ∈ l, f a = g a) → l.flatMap f = l.flatMap g
 | [], _ => rfl
 | a :: l, h => by rw [List.flatMap_cons, List.flatMap_cons, h a List.mem_cons_self, flat_congr fun b hb => h b (List.mem_cons_of_mem _ hb)]
theorem filter_flat {α β : Type} (q : β → Bool) (f : α → List β) : ∀ l : List α, (l.flatMap f).filter q = l.flatMap fun a => (f a).filter q
 | [] => rfl
 | a :: l => by rw [List.flatMap_cons, List.flatMap_cons, List.filter_append, filter_flat q f l]
theorem map_flat {α β γ : Type} (g : β → γ) (f : α → List β) : ∀ l : List α, (l.flatMap f).map g = l.flatMap fun a => (f a).map g
 | [] => rfl
 | a :: l => by rw [List.flatMap_cons, List.flatMap_cons, List.map_append, map_flat g f l]
def zck (p : Poll) (now : List Int) : List (List Int) := ((candL ((zhJ p).drop now.length)).map (now ++ ·)).filter (trueB p)
theorem truthsFrom_nil (p : Poll) : zck p [] = zab p := by simp [zck, zab]
theorem truthsFrom_next {p : Poll} {now : List Int} {n : Nat} (hn : (zhJ p)[now.length]? = some n) : zck p now = (List.range n).flatMap fun (h : Nat) => zck p (now ++ [(h : Int)]) := by
 rw [zck, zhm hn, candL, map_flat, filter_flat];refine flat_congr fun h _ => ?_;rw [zck];congr 1;rw [List.map_map, List.length_append, List.length_cons, List.length_nil, Nat.zero_add];refine List.map_congr_left fun t _ => ?_;simp
theorem truthsFrom_all {p : Poll} {now : List Int} (hn : now.length = p.questions.length) : zck p now = if trueB p now = true then [now] else [] := by
 have e : (zhJ p).drop now.length = [] := List.drop_eq_nil_of_le (by rw [zhJ, List.length_map]; omega);rw [zck, e, candL];simp only [List.map_cons, List.map_nil, List.append_nil, List.filter_cons, List.filter_nil]
theorem truthsFrom_none {p : Poll} {now : List Int} {v : Voter} (hv : v ∈ p.voters) (hw : v.wrong < (zdq v now : Int)) : zck p now = [] := by
 rw [zck, List.filter_eq_nil_iff];intro hs hh;obtain ⟨t, _, rfl⟩ := List.mem_map.1 hh;simp only [trueB, Bool.and_eq_true, List.all_eq_true, decide_eq_true_eq, not_and];intro _ q;have h1 := q v hv;have h2 := wrongN_pre v t now;omega
theorem zdo {P : Nat → Bool} {k : Nat} (h : ∀ j, j < k → P j = true) (hk : P k = true) : ∀ j, j < k + 1 → P j = true := by
 intro j hj
 by_cases e : j = k
 ·subst e; exact hk
 exact h j zr
theorem zhg {P : Nat → Bool} {n k : Nat} (h : ∀ j, j < k → P j = true) (hk : n ≤ k) : (List.range n).all P = true := by
 rw [List.all_eq_true];intro j hj;exact h j (by have := List.mem_range.1 hj; omega)
theorem range_no {P : Nat → Bool} {n k : Nat} (h : P k = false) (hk : k < n) : (List.range n).all P = false := by
 rw [List.all_eq_false];exact ⟨k, List.mem_range.2 hk, by simp [h]⟩
theorem all_snocB {α : Type} {q : α → Bool} {l : List α} {k : Nat} {a : α} (h : l[k]? = some a) : (l.take (k + 1)).all q = ((l.take k).all q && q a) := by rw [zbh h, List.all_append]; simp
theorem headsOk_no {hs : List Head} {k : Nat} (h : zde hs k = false) : headsOk hs = false := by
 refine range_no h ?_;refine Classical.byContradiction fun q => ?_;simp [zde, List.getElem?_eq_none (show hs.length ≤ k by omega)] at h
theorem votesOk_no {p : Poll} {v : Voter} {k : Nat} (h : zgD p v k = false) : ziA p v = false := by
 refine range_no h ?_;refine Classical.byContradiction fun q => ?_;simp [zgD, List.getElem?_eq_none (show v.votes.length ≤ k by omega)] at h
theorem poll_q {p : Poll} {i : Nat} (h : zex p i = false) : zcZ p = false := by
 have : (List.range p.questions.length).all (zex p) = false := by
  refine range_no h ?_;refine Classical.byContradiction fun q => ?_;simp [zex, List.getElem?_eq_none (show p.questions.length ≤ i by omega)] at h
 rw [zcZ, this]; simp
theorem poll_v {p : Poll} {i : Nat} (h : zel p i = false) : zcZ p = false := by
 have : (List.range p.voters.length).all (zel p) = false := by
  refine range_no h ?_;refine Classical.byContradiction fun q => ?_;simp [zel, List.getElem?_eq_none (show p.voters.length ≤ i by omega)] at h
 rw [zcZ, this]; simp
theorem poll_true {p : Poll} {i j : Nat} (h1 : p.questions.length ≤ 6) (h2 : p.voters.length ≤ 6) (h3 : ∀ k, k < i → zex p k = true) (hi : p.questions.length ≤ i) (h4 : ∀ k, k < j → zel p k = true) (hj : p.voters.length ≤ j) : zcZ p = true := by
 rw [zcZ, zhg h3 hi, zhg h4 hj, decide_eq_true h1, decide_eq_true h2]; rfl
theorem zgh {p : Poll} (h : zcZ p = true) {i : Nat} {q : Question} (hq : p.questions[i]? = some q) : zbm p.text q.at_ = true ∧ 2 ≤ q.heads.length ∧ q.heads.length ≤ 3 ∧ headsOk q.heads = true := by
 simp only [zcZ, Bool.and_eq_true, List.all_eq_true] at h;have h1 := h.1.2 i (List.mem_range.2 (List.getElem?_eq_some_iff.1 hq).1);simp only [zex, hq, Bool.and_eq_true, inB, decide_eq_true_eq] at h1;refine ⟨h1.1.1.1, by omega, by omega, h1.2⟩
theorem zhi {p : Poll} (h : zcZ p = true) {v : Voter} (hv : v ∈ p.voters) : 0 ≤ v.wrong ∧ v.wrong ≤ 6 ∧ v.votes.length = p.questions.length ∧ ziA p v = true := by
 obtain ⟨i, hi⟩ := List.mem_iff_getElem?.1 hv;simp only [zcZ, Bool.and_eq_true, List.all_eq_true] at h;have h1 := h.2 i (List.mem_range.2 (List.getElem?_eq_some_iff.1 hi).1);simp only [zel, hi, zjp, Bool.and_eq_true, inB, decide_eq_true_eq] at h1;obtain ⟨⟨⟨⟨_, h2⟩, h3⟩, h4⟩, _⟩ := h1;exact ⟨h2.1, h2.2, h3, h4⟩
theorem zdm {p : Poll} (h : zcZ p = true) : p.questions.length ≤ 6 ∧ p.voters.length ≤ 6 := by
 simp only [zcZ, Bool.and_eq_true, decide_eq_true_eq] at h;exact ⟨h.1.1.1, h.1.1.2⟩
theorem true_len {p : Poll} {hs : List Int} (h : trueB p hs = true) : hs.length = p.questions.length := by
 simp only [trueB, Bool.and_eq_true, decide_eq_true_eq] at h; exact h.1.1
theorem true_in {p : Poll} {hs : List Int} (h : trueB p hs = true) {k : Nat} {a : Int} {q : Question} (ha : hs[k]? = some a) (hq : p.questions[k]? = some q) : 0 ≤ a ∧ a < (q.heads.length : Int) := by
 simp only [trueB, Bool.and_eq_true, List.all_eq_true] at h;have := h.1.2 k (List.mem_range.2 (List.getElem?_eq_some_iff.1 ha).1);simp only [inAt, ha, hq, inB, Bool.and_eq_true, decide_eq_true_eq] at this;omega
theorem true_yes {p : Poll} {hs : List Int} {i k : Nat} (h1 : hs.length = p.questions.length) (h2 : ∀ j, j < i → inAt p hs j = true) (hi : hs.length ≤ i) (h3 : ∀ v ∈ p.voters.take k, (zdq v hs : Int) ≤ v.wrong) (hk : p.voters.length ≤ k) : trueB p hs = true := by
 rw [List.take_of_length_le hk] at h3;have : (p.voters.all fun v => decide ((zdq v hs : Int) ≤ v.wrong)) = true := List.all_eq_true.2 fun v hv => decide_eq_true (h3 v hv);rw [trueB, zhg h2 hi, this, decide_eq_true h1]; rfl
def zid (v : Voter) (hs : List Int) (k : Nat) : Nat := ((List.range k).filter (zgd v hs)).length
theorem wrongK_succ (v : Voter) (hs : List Int) (k : Nat) : zid v hs (k + 1) = zid v hs k + if zgd v hs k = true then 1 else 0 := by
 rw [zid, List.range_succ, List.filter_append, List.length_append, List.filter_cons, List.filter_nil, zid];split <;> rfl
theorem wrongK_le (v : Voter) (hs : List Int) (k : Nat) : zid v hs k ≤ k := by
 have := List.length_filter_le (zgd v hs) (List.range k);rw [List.length_range] at this; exact this
theorem poll_q2 {p : Poll} {i k : Nat} {q : Question} (hq : p.questions[i]? = some q) (h : zde q.heads k = false) : zcZ p = false := by
 refine poll_q (i := i) ?_;simp only [zex, hq, headsOk_no h, Bool.and_false]
theorem poll_v2 {p : Poll} {i k : Nat} {v : Voter} (hv : p.voters[i]? = some v) (h : zgD p v k = false) : zcZ p = false := by
 refine poll_v (i := i) ?_;simp only [zel, hv, zjp, votesOk_no h, Bool.and_false, Bool.false_and]
theorem poll_v3 {p : Poll} {i k : Nat} {v u : Voter} (hv : p.voters[i]? = some v) (hu : p.voters[k]? = some u) (hk : k < i) (h : u.id = v.id) : zcZ p = false := by
 refine poll_v (i := i) ?_;have : ((p.voters.take i).all fun u => decide (u.id ≠ v.id)) = false := by
  refine List.all_eq_false.2 ⟨u, ?_, by simp [h]⟩;exact List.mem_of_getElem? (i := k) (by rw [List.getElem?_take_of_lt hk]; exact hu)
 simp only [zel, hv, this, Bool.and_false]
theorem wrongAt_neg {v : Voter} {xs : List Int} {k : Nat} {a : Int} (ha : v.votes[k]? = some a) (h : ¬ 0 ≤ a) : zgd v xs k = false := by
 simp only [zgd, ha];cases xs[k]? with
 | none => rfl
 | some c => simp [h]
theorem zgY {v : Voter} {xs : List Int} {k : Nat} {a c : Int} (ha : v.votes[k]? = some a) (hc : xs[k]? = some c) : zgd v xs k = (decide (0 ≤ a) && decide (a ≠ c)) := by simp only [zgd, ha, hc]
end Go.Pk

namespace Go.Pk
open Go Go.RowKit
def zcW (p : Poll) (so : Bool) : Int := if zcz p ≠ 0 then zcz p else if so = false then 2 else if zab p = [] then 8 else 0
def zeh (p : Poll) (so : Bool) : List (List Int) := if zcW p so = 0 then zab p else []
theorem zbJ {p : Poll} (h : zcz p = 0) : zaE p.text p.lexicon = 0 ∧ zcZ p = true := by
 unfold zcz at h;split at h
 ·rename_i q; exact absurd h q
 rename_i q;split at h
 ·rename_i q2; exact ⟨by simpa using q, q2⟩
 cases h
theorem zhq {p : Poll} {so : Bool} (h : zcW p so = 0) : zcz p = 0 ∧ so = true ∧ zab p ≠ [] ∧ zeh p so = zab p := by
 have h0 := h;unfold zcW at h;split at h
 ·rename_i q; exact absurd h q
 rename_i q;split at h
 ·cases h
 rename_i q2;split at h
 ·cases h
 rename_i q3;exact ⟨by simpa using q, by simpa using q2, q3, by rw [zeh, if_pos h0]⟩
def prodL : List Nat → Nat
 | [] => 1
 | n :: ns => n * prodL ns
theorem candL_len : ∀ ns : List Nat, (candL ns).length = prodL ns
 | [] => rfl
 | n :: ns => by
  rw [candL, prodL, List.length_flatMap];simp only [List.length_map, candL_len ns]
  induction n with
  | zero => simp
  | succ n ih => rw [List.range_succ, List.map_append, List.sum_append, ih, Nat.succ_mul]; simp
def zgM (l : List (List Int)) (q : Nat) (h : Int) : Nat := (l.filter fun t => decide (t[q]? = some h)).length
def worstK (l : List (List Int)) (q : Nat) : Nat → Int
 | 0 => 0
 | k + 1 => zhj (worstK l q k) (zgM l q (k : Int))
def zdf (l : List (List Int)) (q : Nat) : Int := worstK l q 3
theorem cntH_snoc {l : List (List Int)} {i : Nat} {t : List Int} {q : Nat} {h : Int} (ht : l[i]? = some t) : zgM (l.take (i + 1)) q h = zgM (l.take i) q h + if t[q]? = some h then 1 else 0 := by
 rw [zgM, zbh ht, List.filter_append, List.length_append, List.filter_cons, List.filter_nil, zgM];congr 1
 by_cases e : t[q]? = some h <;> simp [e]
theorem zfE (l : List (List Int)) (q : Nat) (h : Int) : zgM l q h ≤ l.length := List.length_filter_le _ _
end Go.Pk

namespace Go.Pk
open Go Go.RowKit
theorem sizes_len (p : Poll) : (zhJ p).length = p.questions.length := by rw [zhJ, List.length_map]
theorem sizes_ok {p : Poll} (h : zcZ p = true) : ∀ n ∈ zhJ p, 2 ≤ n ∧ n ≤ 3 := by
 intro n hn;obtain ⟨q, hq, rfl⟩ := List.mem_map.1 hn;obtain ⟨i, hi⟩ := List.mem_iff_getElem?.1 hq;have := zgh h hi;exact ⟨this.2.1, this.2.2.1⟩
theorem prod_pow : ∀ {ns : List Nat}, (∀ n ∈ ns, n ≤ 3) → prodL ns ≤ 3 ^ ns.length
 | [], _ => Nat.le_refl _
 | n :: ns, h => by
  rw [prodL, List.length_cons, Nat.pow_succ, Nat.mul_comm];exact Nat.mul_le_mul (prod_pow fun m hm => h m (List.mem_cons_of_mem _ hm)) (h n List.mem_cons_self)
theorem prod_le {p : Poll} (h : zcZ p = true) : prodL (zhJ p) ≤ 729 := by
 refine Nat.le_trans (prod_pow fun n hn => (sizes_ok h n hn).2) ?_;have : (zhJ p).length ≤ 6 := by rw [sizes_len]; exact (zdm h).1
 exact Nat.pow_le_pow_right zr this
theorem zeX {p : Poll} (hp : zcZ p = true) : (zab p).length ≤ 729 := by
 refine Nat.le_trans (List.length_filter_le _ _) ?_;rw [candL_len]; exact prod_le hp
end Go.Pk

namespace Go.Pk
open Go Go.RowKit
def ltL : List Int → List Int → Bool
 | a :: s, b :: t => if a = b then ltL s t else decide (a < b)
 | _, _ => false
def zjH (a b : List Int) : Bool := if a.length ≠ b.length then decide (a.length < b.length) else ltL a b
def alikeL (a b l : List Int) : Bool := l.all fun k => decide (a[k.toNat]? = b[k.toNat]?)
def zjt (ts : List (List Int)) (l : List Int) (i : Nat) : Bool := match ts[i]? with | some t => (ts.take i).all fun u => !alikeL t u l | none => true
def zjs (ts : List (List Int)) (l : List Int) : Bool := (List.range ts.length).all (zjt ts l)
theorem tells_no {ts : List (List Int)} {l : List Int} {i : Nat} (h : zjt ts l i = false) : zjs ts l = false := by
 refine range_no h ?_;refine Classical.byContradiction fun q => ?_;simp [zjt, List.getElem?_eq_none (show ts.length ≤ i by omega)] at h
def zbO (s : Int) (n : Nat) : List Int := ((List.range n).filter fun (i : Nat) => decide (ziX s (i : Int) = 1)).map fun (i : Nat) => (i : Int)
theorem zjx (s : Int) (n : Nat) : zbO s (n + 1) = zbO s n ++ if ziX s (n : Int) = 1 then [(n : Int)] else [] := by
 rw [zbO, List.range_succ, List.filter_append, List.map_append, List.filter_cons, List.filter_nil, zbO]
 by_cases h : ziX s (n : Int) = 1 <;> simp [h]
theorem ziG (s : Int) (n : Nat) : (zbO s n).length ≤ n := by
 rw [zbO, List.length_map];have := List.length_filter_le (fun i : Nat => decide (ziX s (i : Int) = 1)) (List.range n);rwa [List.length_range] at this
def askK (ts : List (List Int)) (n : Nat) : Nat → Option (List Int)
 | 0 => none
 | k + 1 => if ((match askK ts n k with | none => true | some b => zjH (zbO (k : Int) n) b) && zjs ts (zbO (k : Int) n)) = true then some (zbO (k : Int) n) else askK ts n k
def askR7 (p : Poll) : List Int := if zcW p true = 0 then (askK (zab p) p.questions.length (2 ^ p.questions.length)).getD [] else []
def zhz (ts : List (List Int)) : Nat → Nat
 | 0 => 0
 | k + 1 => if zdf ts (k + 1) < zdf ts (zhz ts k) then k + 1 else zhz ts k
def nextE (p : Poll) : Int := if zcW p true ≠ 0 then zcW p true else if (zab p).length = 1 then 6 else 0
def nextR (p : Poll) : Int := if nextE p = 0 then (zhz (zab p) (p.questions.length - 1) : Int) else 0
theorem zdZ {p : Poll} {t : List Int} (h : t ∈ zab p) : t.length = p.questions.length := true_len (List.mem_filter.1 h).2
theorem truth_in {p : Poll} {t : List Int} (h : t ∈ zab p) {k : Nat} {a : Int} {q : Question} (ha : t[k]? = some a) (hq : p.questions[k]? = some q) : 0 ≤ a ∧ a < (q.heads.length : Int) := true_in (List.mem_filter.1 h).2 ha hq
def openB (ts : List (List Int)) (q : Nat) (h : Int) : Bool := ts.any fun t => decide (t[q]? = some h)
def ziF (ts : List (List Int)) (q n : Nat) : List Int := ((List.range n).filter fun (h : Nat) => openB ts q (h : Int)).map fun (h : Nat) => (h : Int)
theorem openK_succ (ts : List (List Int)) (q n : Nat) : ziF ts q (n + 1) = ziF ts q n ++ if openB ts q (n : Int) = true then [(n : Int)] else [] := by
 rw [ziF, List.range_succ, List.filter_append, List.map_append, List.filter_cons, List.filter_nil, ziF]
 by_cases h : openB ts q (n : Int) = true <;> simp [h]
theorem openK_len (ts : List (List Int)) (q n : Nat) : (ziF ts q n).length ≤ n := by
 rw [ziF, List.length_map];have := List.length_filter_le (fun h : Nat => openB ts q (h : Int)) (List.range n);rwa [List.length_range] at this
def openR (p : Poll) (question : Int) : List Int := if zcW p (inB question 0 ((p.questions.length : Int) - 1)) = 0 then ziF (zab p) question.toNat (((p.questions[question.toNat]?).getD zhZ).heads.length) else []
def zfp (vs : List Voter) (q n : Nat) : List Int := (List.range n).map fun (h : Nat) => (((vs.filter fun v => decide (v.votes[q]? = some (h : Int))).length : Nat) : Int)
theorem zgo (vs : List Voter) (q n : Nat) : (zfp vs q n).length = n := by simp [zfp]
theorem tally_zero (q n : Nat) : List.replicate n (0 : Int) = zfp [] q n := by
 refine List.ext_getElem (by simp [zgo]) fun i h1 h2 => ?_;simp [zfp]
theorem tally_at (vs : List Voter) (q : Nat) {n h : Nat} (hh : h < n) : (zfp vs q n)[h]? = some (((vs.filter fun v => decide (v.votes[q]? = some (h : Int))).length : Nat) : Int) := by
 rw [zfp, List.getElem?_map, List.getElem?_range hh]; rfl
theorem tally_skip {vs : List Voter} {q n i : Nat} {v : Voter} {a : Int} (hv : vs[i]? = some v) (ha : v.votes[q]? = some a) (h : a < 0) : zfp (vs.take (i + 1)) q n = zfp (vs.take i) q n := by
 rw [zfp, zfp];refine List.map_congr_left fun k _ => ?_;rw [zbh hv, List.filter_append, List.length_append, List.filter_cons, List.filter_nil, ha, if_neg (by simp; omega)];rfl
theorem tally_set {vs : List Voter} {q n i : Nat} {v : Voter} {a x : Int} (hv : vs[i]? = some v) (ha : v.votes[q]? = some a) (h : 0 ≤ a) (hx : (zfp (vs.take i) q n)[a.toNat]? = some x) : (zfp (vs.take i) q n).set a.toNat (x + 1) = zfp (vs.take (i + 1)) q n := by
 have hl := (List.getElem?_eq_some_iff.1 hx).1;rw [zgo] at hl;rw [tally_at _ _ hl] at hx;refine List.ext_getElem? fun k => ?_
 by_cases hk : k < n
 ·rw [tally_at _ _ hk, zbh hv, List.filter_append, List.length_append, List.filter_cons, List.filter_nil, ha]
  by_cases e : k = a.toNat
  ·subst e;rw [List.getElem?_set_self (by rw [zgo]; exact hk), ← Option.some.inj hx, if_pos (by simp; omega)];simp
  ·rw [List.getElem?_set_ne (Ne.symm e), tally_at _ _ hk, if_neg (by simp; omega)];simp
 rw [List.getElem?_eq_none (by rw [List.length_set, zgo]; omega), List.getElem?_eq_none (by rw [zgo]; omega)]
def ziO (p : Poll) (question : Int) : Int := if zcz p ≠ 0 then zcz p else if inB question 0 ((p.questions.length : Int) - 1) = true then 0 else 2
def tallyR (p : Poll) (question : Int) : List Int := if ziO p question = 0 then zfp p.voters question.toNat (((p.questions[question.toNat]?).getD zhZ).heads.length) else []
theorem zfj {s b : Int} (h0 : 0 ≤ s) (h1 : s ≤ 1000000) : 0 ≤ s / 2 ^ b.toNat ∧ s / 2 ^ b.toNat ≤ 1000000 := by
 have hp : (0 : Int) < 2 ^ b.toNat := by
  have : 0 < (2 : Nat) ^ b.toNat := Nat.pow_pos zr
  exact_mod_cast this
 exact ⟨Int.ediv_nonneg h0 zr, Int.le_trans (Int.ediv_le_self _ h0) h1⟩
theorem pow_le {n : Nat} (h : n ≤ 6) : 2 ^ n ≤ 64 ∧ (2 : Int) ^ ((n : Int)).toNat = ((2 ^ n : Nat) : Int) := by
 refine ⟨Nat.le_trans (Nat.pow_le_pow_right zr h) (by decide), ?_⟩;rw [Int.toNat_natCast]; exact_mod_cast rfl
theorem votes_in {p : Poll} {v : Voter} (h : ziA p v = true) {k : Nat} {a : Int} {q : Question} (ha : v.votes[k]? = some a) (hq : p.questions[k]? = some q) : -1 ≤ a ∧ a < (q.heads.length : Int) := by
 rw [ziA, List.all_eq_true] at h;have := h k (List.mem_range.2 (List.getElem?_eq_some_iff.1 ha).1);simp only [zgD, ha, hq, inB, Bool.and_eq_true, decide_eq_true_eq] at this;omega
theorem tally_small {vs : List Voter} {q n h : Nat} {x : Int} (hx : (zfp vs q n)[h]? = some x) : 0 ≤ x ∧ x ≤ (vs.length : Int) := by
 have hl := (List.getElem?_eq_some_iff.1 hx).1;rw [zgo] at hl;rw [tally_at _ _ hl] at hx;have := List.length_filter_le (fun v : Voter => decide (v.votes[q]? = some (h : Int))) vs;have := Option.some.inj hx;omega
end Go.Pk

namespace Go.Pk
open Go Go.RowKit
def setAt (ts : List (List Int)) (a0 : List Int) (k : Nat) : Int := match a0[k]? with | some h => if (ts.all fun t => decide (t[k]? = some h)) = true then h else -1 | none => -1
def setK (ts : List (List Int)) (a0 : List Int) : List Int := (List.range a0.length).map (setAt ts a0)
def zdk (ts : List (List Int)) : List Int := match ts[0]? with | some a0 => setK ts a0 | none => []
theorem zfX (ts : List (List Int)) (a0 : List Int) : (setK ts a0).length = a0.length := by simp [setK]
theorem setK_get {ts : List (List Int)} {a0 : List Int} {k : Nat} (hk : k < a0.length) : (setK ts a0)[k]? = some (setAt ts a0 k) := by rw [setK, List.getElem?_map, List.getElem?_range hk]; rfl
def setM (ts : List (List Int)) (a0 : List Int) (i k : Nat) : List Int := (setK (ts.take (i + 1)) a0).take k ++ (setK (ts.take i) a0).drop k
theorem setM_len (ts : List (List Int)) (a0 : List Int) (i k : Nat) : (setM ts a0 i k).length = a0.length := by
 rw [setM, List.length_append, List.length_take, List.length_drop, zfX, zfX]; omega
theorem setM_zero (ts : List (List Int)) (a0 : List Int) (i : Nat) : setM ts a0 i 0 = setK (ts.take i) a0 := by simp [setM]
theorem setM_end {ts : List (List Int)} {a0 : List Int} {i k : Nat} (hk : a0.length ≤ k) : setM ts a0 i k = setK (ts.take (i + 1)) a0 := by
 rw [setM, List.take_of_length_le (by rw [zfX]; omega), List.drop_eq_nil_of_le (by rw [zfX]; omega), List.append_nil]
theorem setM_at {ts : List (List Int)} {a0 : List Int} {i k : Nat} (hk : k < a0.length) : setM ts a0 i (k + 1) = (setM ts a0 i k).set k (setAt (ts.take (i + 1)) a0 k) := by
 have h1 : (setK (ts.take (i + 1)) a0)[k]? = some (setAt (ts.take (i + 1)) a0 k) := setK_get hk;have h2 : (setK (ts.take i) a0)[k]? = some (setAt (ts.take i) a0 k) := setK_get hk;have hl : ((setK (ts.take (i + 1)) a0).take k).length = k := by rw [List.length_take, zfX]; omega
 rw [setM, zbh h1, setM, List.set_append_right _ _ zr, hl, Nat.sub_self, zhm h2, List.set_cons_zero, List.append_assoc]; rfl
theorem setAt_snoc {ts : List (List Int)} {a0 t : List Int} {i k : Nat} {h x : Int} (ht : ts[i]? = some t) (h0 : a0[k]? = some h) (hx : t[k]? = some x) : setAt (ts.take (i + 1)) a0 k = if x = h then setAt (ts.take i) a0 k else -1 := by
 simp only [setAt, h0];rw [zbh ht, List.all_append, List.all_cons, List.all_nil, Bool.and_true, hx]
 by_cases e : x = h
 ·simp [e]
 simp [e]
theorem setM_same {ts : List (List Int)} {a0 t : List Int} {i k : Nat} {h x : Int} (ht : ts[i]? = some t) (h0 : a0[k]? = some h) (hx : t[k]? = some x) (e : x = h) : setM ts a0 i (k + 1) = setM ts a0 i k := by
 have hk : k < a0.length := (List.getElem?_eq_some_iff.1 h0).1;rw [setM_at hk, setAt_snoc ht h0 hx, if_pos e];refine List.ext_getElem? fun j => ?_
 by_cases ej : j = k
 ·subst ej;rw [List.getElem?_set_self (by rw [setM_len]; exact hk), setM, List.getElem?_append_right (by rw [List.length_take]; omega), List.length_take, zfX, Nat.min_eq_left zr, Nat.sub_self, List.getElem?_drop, Nat.add_zero, setK_get hk]
 rw [List.getElem?_set_ne (Ne.symm ej)]
theorem setM_else {ts : List (List Int)} {a0 t : List Int} {i k : Nat} {h x : Int} (ht : ts[i]? = some t) (h0 : a0[k]? = some h) (hx : t[k]? = some x) (e : ¬ x = h) : setM ts a0 i (k + 1) = (setM ts a0 i k).set k (-1) := by
 rw [setM_at (List.getElem?_eq_some_iff.1 h0).1, setAt_snoc ht h0 hx, if_neg e]
def zbk (p : Poll) : List Int := if zcW p true = 0 then zdk (zab p) else []
def spanK (v : Voter) (ts : List (List Int)) : Span := ts.foldl (fun s t => ⟨minI s.lo (zdq v t), zhj s.hi (zdq v t)⟩) ⟨6, 0⟩
theorem spanK_snoc {v : Voter} {ts : List (List Int)} {i : Nat} {t : List Int} (ht : ts[i]? = some t) : spanK v (ts.take (i + 1)) = ⟨minI (spanK v (ts.take i)).lo (zdq v t), zhj (spanK v (ts.take i)).hi (zdq v t)⟩ := by rw [spanK, zbh ht, List.foldl_append]; rfl
def zhs (p : Poll) (voter : Int) : Span := if zcW p (inB voter 0 ((p.voters.length : Int) - 1)) = 0 then spanK ((p.voters[voter.toNat]?).getD zVoter) (zab p) else zSpan
end Go.Pk

namespace Go.Pk
open Go Go.RowKit
section
variable {P : Program} {σ : Env} {w : World} {ty : TypeId} {pos : String} {aft : Array Edge} {g : Option (Nat × Bool)} {dst : Option Tmp}
theorem r_sgtr {t t' : TypeId} {x y : Operand} {a b : Str} (hx : ev σ x = zN a) (hy : ev σ y = zN b) : Run P σ w ⟨dst, .binOp .gtr t x y t', ty, pos, aft, g⟩ (.bool (!(Op.bytesLess a b || decide (a = b)))) w := by
 simp only [zN] at hx hy;simp [Run, execOp, hx, hy, eqGuard, binOp, Op.stringOp, beq_str]
theorem zgH {t e : TypeId} {x ix : Operand} {i : Int} {k m n : Nat} {vs us : List Value} (hx : ev σ x = .agg vs.toArray) (hi : ev σ ix = .int .i64 i) (hk : i = (k : Int)) (hlt : Nat.blt k n = true) (hu : P.underlying t = some (.array n e)) (ha : ∀ w, (isAgg e).run P w = .ok true w) (hz : ∀ w, (sizeOf e).run P w = .ok m w) (hv : (vs.drop (k * m)).take m = us) :
  Run P σ w ⟨dst, .index t x ix, ty, pos, aft, g⟩ (.agg us.toArray) w := by
 subst hk hv;have h1 : k < n := by rwa [Nat.blt_eq] at hlt
 simp [Run, execOp, hx, hi, Instr.index, asIntOf, run_underlying hu, h1, part, ha, hz]
end
def cmpT (a b : Str) : Int := if sLt a b = true then -1 else if a = b then 0 else 1
def orL : List Int → Int
 | [] => 0
 | a :: l => if a ≠ 0 then a else orL l
theorem orL_drop {l : List Int} {k : Nat} {a : Int} (h : l[k]? = some a) : orL (l.drop k) = if a ≠ 0 then a else orL (l.drop (k + 1)) := by rw [zhm h]; rfl
theorem places_lt (a b : Place) : decide (orL [zcU a.chapter b.chapter, zcU a.line b.line, zcU a.word b.word] < 0) = zdi a b := by
 rcases a with ⟨a1, a2, a3⟩; rcases b with ⟨b1, b2, b3⟩
 simp only [orL, zcU, zdi, ne_eq];rw [Bool.eq_iff_iff, decide_eq_true_eq]
 by_cases h1 : a1 = b1 <;> by_cases h2 : a2 = b2 <;> simp only [h1, h2, not_true_eq_false, not_false_eq_true, if_true, if_false, decide_eq_true_eq, Int.lt_irrefl] <;> (repeat' split) <;> omega
theorem heads_lt (a b : Head) : decide (orL [cmpT a.stem b.stem, zcU a.mark b.mark] < 0) = headLt a b := by
 rcases a with ⟨s1, m1⟩; rcases b with ⟨s2, m2⟩
 simp only [orL, cmpT, zcU, headLt, ne_eq];rw [Bool.eq_iff_iff, decide_eq_true_eq]
 by_cases h1 : sLt s1 s2 = true
 ·simp [h1]
 simp only [h1, if_false, Bool.or_eq_true, Bool.and_eq_true, decide_eq_true_eq, false_or, Bool.false_eq_true]
 by_cases h2 : s1 = s2
 ·subst h2;simp only [if_true, not_true_eq_false, if_false, true_and]
  (repeat' split) <;> omega
 simp [h2]
def zer (p : Poll) (i : Nat) (q : Question) : Bool := zbm p.text q.at_ && (decide (i = 0) || zdi ((p.questions[i - 1]?).getD zhZ).at_ q.at_) && inB q.heads.length 2 3
def zfS (p : Poll) (i : Nat) (q : Question) (k : Nat) : Bool := zer p i q && (List.range k).all (zde q.heads)
theorem ziE (p : Poll) (i : Nat) (q : Question) (k : Nat) : zfS p i q (k + 1) = (zfS p i q k && zde q.heads k) := by
 simp only [zfS, List.range_succ, List.all_append, List.all_cons, List.all_nil, Bool.and_true, Bool.and_assoc]
theorem questK_zero (p : Poll) (i : Nat) (q : Question) : zfS p i q 0 = zer p i q := by simp [zfS]
theorem quest_eq {p : Poll} {i k : Nat} {q : Question} (hq : p.questions[i]? = some q) (hk : q.heads.length = k) : zex p i = zfS p i q k := by
 subst hk;simp only [zex, hq, zfS, zer, headsOk]
section
variable {p : Poll} {i k : Nat} {q q1 : Question} {hd h1 : Head}
theorem q_init0 (a : (if zbm p.text q.at_ = true then (0 : Int) else 12) = 0) (b : zcK [(q.heads.length : Int)] 2 3 = true) (c : (i : Int) = 0) : true = zer p i q := by
 have a : zbm p.text q.at_ = true := by
  cases e : zbm p.text q.at_
  ·rw [e] at a; simp at a
  ·rfl
 rw [inAll_one] at b;simp only [zer, a, b, decide_eq_true (show i = 0 by omega), Bool.and_true, Bool.true_or]
theorem q_init1 (a : (if zbm p.text q.at_ = true then (0 : Int) else 12) = 0) (b : zcK [(q.heads.length : Int)] 2 3 = true) (c : ¬ (i : Int) = 0) (d : p.questions[i - 1]? = some q1) : decide (orL [zcU q1.at_.chapter q.at_.chapter, zcU q1.at_.line q.at_.line, zcU q1.at_.word q.at_.word] < 0) = zer p i q := by
 have a : zbm p.text q.at_ = true := by
  cases e : zbm p.text q.at_
  ·rw [e] at a; simp at a
  ·rfl
 rw [inAll_one] at b;simp only [zer, a, b, decide_eq_false (show ¬ i = 0 by omega), Bool.and_true, Bool.true_and, Bool.false_or, places_lt, d, Option.getD_some]
theorem q_init2 (b : zcK [(q.heads.length : Int)] 2 3 = false) : false = zer p i q := by
 rw [inAll_one] at b;simp only [zer, b, Bool.and_false]
theorem q_init3 (a : ¬ (if zbm p.text q.at_ = true then (0 : Int) else 12) = 0) : false = zer p i q := by
 have a : zbm p.text q.at_ = false := by
  cases e : zbm p.text q.at_
  ·rfl
  ·rw [e] at a; simp at a
 simp only [zer, a, Bool.false_and]
theorem q_step0 (a : zfS p i q k = true) (b : zee hd = true) (c : (k : Int) = 0) (d : q.heads[k]? = some hd) : true = (zfS p i q k && zde q.heads k) := by
 simp only [a, zde, d, b, decide_eq_true (show k = 0 by omega), Bool.true_or, Bool.and_true]
theorem q_step1 (a : zfS p i q k = true) (b : zee hd = true) (c : ¬ (k : Int) = 0) (d : q.heads[k]? = some hd) (e : q.heads[k - 1]? = some h1) : decide (orL [cmpT h1.stem hd.stem, zcU h1.mark hd.mark] < 0) = (zfS p i q k && zde q.heads k) := by
 simp only [a, zde, d, b, e, decide_eq_false (show ¬ k = 0 by omega), Bool.false_or, Bool.true_and, heads_lt, Option.getD_some]
theorem q_step2 (b : zee hd = false) (d : q.heads[k]? = some hd) : false = (zfS p i q k && zde q.heads k) := by
 simp only [zde, d, b, Bool.false_and, Bool.and_false]
theorem q_step3 (a : zfS p i q k = false) : false = (zfS p i q k && zde q.heads k) := by simp only [a, Bool.false_and]
end
def zbZ (p : Poll) (v : Voter) (i : Nat) : Nat → Bool
 | 0 => inB v.id 0 9999
 | 1 => inB v.wrong 0 6
 | 2 => decide (v.votes.length = p.questions.length)
 | 3 => ziA p v
 | _ => !((p.voters.take i).any fun u => decide (u.id = v.id))
theorem ask_all {p : Poll} {v : Voter} {i k : Nat} (hv : p.voters[i]? = some v) (h : ∀ m, m < k → zbZ p v i m = true) (hk : 5 ≤ k) : zel p i = true := by
 have h0 := h 0 zr; have h1 := h 1 zr; have h2 := h 2 zr; have h3 := h 3 zr; have h4 := h 4 zr;simp only [zbZ] at h0 h1 h2 h3 h4;simp only [zel, hv, zjp, h0, h1, h2, h3, Bool.and_true, Bool.true_and];rw [List.all_eq_true];intro u hu;simp only [Bool.not_eq_true', List.any_eq_false, decide_eq_true_eq] at h4;exact decide_eq_true (h4 u hu)
theorem ask_no {p : Poll} {v : Voter} {i k : Nat} (hv : p.voters[i]? = some v) (h : zbZ p v i k = false) : zcZ p = false := by
 refine poll_v (i := i) ?_;simp only [zel, hv, zjp]
 match k, h with
 | 0, h => simp only [zbZ] at h; simp [h]
 | 1, h => simp only [zbZ] at h; simp [h]
 | 2, h => simp only [zbZ] at h; simp [h]
 | 3, h => simp only [zbZ] at h; simp [h]
 | k + 4, h =>
  simp only [zbZ, Bool.not_eq_false', List.any_eq_true, decide_eq_true_eq] at h;obtain ⟨u, hu, e⟩ := h;have : ((p.voters.take i).all fun u => decide (u.id ≠ v.id)) = false := List.all_eq_false.2 ⟨u, hu, by simp [e]⟩;rw [this, Bool.and_false]
theorem asked_len {p : Poll} {v u : Voter} {j : Nat} (hv : p.voters[j]? = some v) (h : zbZ p v j 2 = true) : u.votes.length = p.questions.length ∨ p.voters[((j : Int)).toNat]? ≠ some u := by
 by_cases e : p.voters[((j : Int)).toNat]? = some u
 ·rw [Int.toNat_natCast, hv] at e;cases e;exact .inl (by simpa [zbZ] using h)
 exact .inr e
theorem zgv {p : Poll} (h0 : zaE p.text p.lexicon = 0) (h : zcZ p = false) : zcz p = 70 := by simp [zcz, h0, h]
theorem check_yes {p : Poll} (h0 : zaE p.text p.lexicon = 0) (h : zcZ p = true) : zcz p = 0 := by simp [zcz, h0, h]
theorem quest_no {p : Poll} {i : Nat} {q : Question} (hq : p.questions[i]? = some q) (h : zer p i q = false) : zex p i = false := by
 simp only [zex, hq];show (zer p i q && headsOk q.heads) = false;rw [h]; rfl
theorem quest_ok {p : Poll} {i : Nat} {q : Question} (h : zer p i q = true) : zbm p.text q.at_ = true ∧ (decide (i = 0) || zdi ((p.questions[i - 1]?).getD zhZ).at_ q.at_) = true ∧ inB q.heads.length 2 3 = true := by
 simp only [zer, Bool.and_eq_true] at h;exact ⟨h.1.1, h.1.2, h.2⟩
def voteB (p : Poll) (v : Voter) : Bool := inB v.id 0 9999 && inB v.wrong 0 6 && decide (v.votes.length = p.questions.length)
theorem vote_no {p : Poll} {i : Nat} {v : Voter} (hv : p.voters[i]? = some v) (h : voteB p v = false) : zel p i = false := by
 simp only [zel, hv, zjp];show ((voteB p v && ziA p v) && _) = false;rw [h]; rfl
theorem vote_ok {p : Poll} {v : Voter} (h : voteB p v = true) : inB v.id 0 9999 = true ∧ inB v.wrong 0 6 = true ∧ v.votes.length = p.questions.length := by
 simp only [voteB, Bool.and_eq_true, decide_eq_true_eq] at h;exact ⟨h.1.1, h.1.2, h.2⟩
end Go.Pk

namespace Go.Pk
open Go Go.RowKit
def zfs (now : List Int) (v : Voter) : Int := v.wrong - (zdq v now : Int)
def leftL (p : Poll) (now : List Int) : List Int := p.voters.map (zfs now)
def zgt (p : Poll) (now : List Int) (h : Int) (i : Nat) : List Int := (p.voters.take i).map (zfs (now ++ [h])) ++ (p.voters.drop i).map (zfs now)
structure NowOk (p : Poll) (now : List Int) : Prop where
 len : now.length ≤ p.questions.length
 ins : ∀ k, k < now.length → inAt p now k = true
 wr : ∀ v ∈ p.voters, (zdq v now : Int) ≤ v.wrong
theorem now_nil {p : Poll} (hp : zcZ p = true) : NowOk p [] := by
 refine ⟨Nat.zero_le _, fun k hk => absurd hk (by simp), fun v hv => ?_⟩;have := zhi hp hv;have e : zdq v [] = 0 := rfl;rw [e]; omega
theorem now_true {p : Poll} {now : List Int} (h : NowOk p now) (hl : now.length = p.questions.length) : trueB p now = true :=
 true_yes (i := now.length) (k := p.voters.length) hl h.ins (Nat.le_refl _) (fun v hv => h.wr v (List.mem_of_mem_take hv)) (Nat.le_refl _)
theorem now_snoc {p : Poll} {now : List Int} {q : Question} {h : Nat} (hn : NowOk p now) (hq : p.questions[now.length]? = some q) (hh : h < q.heads.length) (hw : ∀ v ∈ p.voters, (zdq v (now ++ [(h : Int)]) : Int) ≤ v.wrong) : NowOk p (now ++ [(h : Int)]) := by
 have hlt := (List.getElem?_eq_some_iff.1 hq).1;refine ⟨by simp; omega, fun k hk => ?_, hw⟩;rw [List.length_append, List.length_cons, List.length_nil] at hk
 by_cases e : k < now.length
 ·have := hn.ins k e;simp only [inAt, List.getElem?_append_left e] at this ⊢;exact this
 obtain rfl : k = now.length := by omega
 simp only [inAt, hq, List.getElem?_append_right (Nat.le_refl _), Nat.sub_self, List.getElem?_cons_zero, inB, Bool.and_eq_true, decide_eq_true_eq];omega
theorem zjf (p : Poll) (now : List Int) : (leftL p now).length = p.voters.length := by simp [leftL]
theorem zhl (p : Poll) (now : List Int) (h : Int) (i : Nat) : (zgt p now h i).length = p.voters.length := by simp [zgt]; omega
theorem leftM_zero (p : Poll) (now : List Int) (h : Int) : zgt p now h 0 = leftL p now := by simp [zgt, leftL]
theorem leftM_all {p : Poll} (now : List Int) (h : Int) {i : Nat} (hi : p.voters.length ≤ i) : zgt p now h i = leftL p (now ++ [h]) := by
 rw [zgt, List.take_of_length_le hi, List.drop_eq_nil_of_le hi]; simp [leftL]
theorem leftM_at {p : Poll} {now : List Int} {h : Int} {i : Nat} {v : Voter} (hv : p.voters[i]? = some v) : (zgt p now h i)[i]? = some (zfs now v) := by
 have hlt := (List.getElem?_eq_some_iff.1 hv).1;rw [zgt, List.getElem?_append_right (by simp; omega)];simp [List.length_take, Nat.min_eq_left (Nat.le_of_lt hlt), hv]
theorem leftM_next {p : Poll} {now : List Int} {h : Int} {i : Nat} {v : Voter} (hv : p.voters[i]? = some v) : zgt p now h (i + 1) = (zgt p now h i).set i (zfs (now ++ [h]) v) := by
 have hlt := (List.getElem?_eq_some_iff.1 hv).1;rw [zgt, zgt, zbh hv, zhm hv, List.map_append, List.map_cons, List.map_nil, List.map_cons, List.set_append_right _ _ (by simp; omega), List.length_map, List.length_take, Nat.min_eq_left (Nat.le_of_lt hlt), Nat.sub_self, List.set_cons_zero, List.append_assoc];rfl
theorem leftV_same {now : List Int} {h a : Int} {v : Voter} (ha : v.votes[now.length]? = some a) (hc : a < 0 ∨ a = h) : zdq v (now ++ [h]) = zdq v now := by
 rw [wrongN_snoc, ha, if_neg, Nat.add_zero];simp only [Bool.and_eq_true, decide_eq_true_eq];rintro ⟨h1, h2⟩
 rcases hc with hc | hc
 ·omega
 exact h2 hc
theorem leftV_less {now : List Int} {h a : Int} {v : Voter} (ha : v.votes[now.length]? = some a) (h1 : ¬ a < 0) (h2 : ¬ a = h) : zdq v (now ++ [h]) = zdq v now + 1 := by
 rw [wrongN_snoc, ha, if_pos];simp only [Bool.and_eq_true, decide_eq_true_eq];exact ⟨by omega, h2⟩
theorem leftM_skip {p : Poll} {now : List Int} {h a : Int} {i : Nat} {v : Voter} (hv : p.voters[i]? = some v) (ha : v.votes[now.length]? = some a) (hc : a < 0 ∨ a = h) : zgt p now h (i + 1) = zgt p now h i := by
 rw [leftM_next hv];have e : zfs (now ++ [h]) v = zfs now v := by rw [zfs, zfs, leftV_same ha hc]
 rw [e];have q := leftM_at (now := now) (h := h) hv;refine List.ext_getElem? fun j => ?_;rw [List.getElem?_set];split
 ·rename_i ej;subst ej;rw [q, if_pos (List.getElem?_eq_some_iff.1 q).1]
 rfl
theorem leftM_less {p : Poll} {now : List Int} {h a : Int} {i : Nat} {v : Voter} (hv : p.voters[i]? = some v) (ha : v.votes[now.length]? = some a) (h1 : ¬ a < 0) (h2 : ¬ a = h) : zgt p now h (i + 1) = (zgt p now h i).set i (zfs now v - 1) := by
 rw [leftM_next hv];have e : zfs (now ++ [h]) v = zfs now v - 1 := by rw [zfs, zfs, leftV_less ha h1 h2]; omega
 rw [e]
theorem left_neg {now : List Int} {h a z : Int} {v : Voter} (ha : v.votes[now.length]? = some a) (h1 : ¬ a < 0) (h2 : ¬ a = h) (hz : z = zfs now v - 1) (hn : z < 0) : v.wrong < (zdq v (now ++ [h]) : Int) := by
 rw [leftV_less ha h1 h2]; rw [zfs] at hz; omega
theorem left_pos {now : List Int} {h a z : Int} {v : Voter} (ha : v.votes[now.length]? = some a) (h1 : ¬ a < 0) (h2 : ¬ a = h) (hz : z = zfs now v - 1) (hn : ¬ z < 0) : (zdq v (now ++ [h]) : Int) ≤ v.wrong := by
 rw [leftV_less ha h1 h2]; rw [zfs] at hz; omega
theorem left_skip {p : Poll} {now : List Int} {h a : Int} {v : Voter} (hn : NowOk p now) (hv : v ∈ p.voters) (ha : v.votes[now.length]? = some a) (hc : a < 0 ∨ a = h) : (zdq v (now ++ [h]) : Int) ≤ v.wrong := by
 rw [leftV_same ha hc]; exact hn.wr v hv
theorem left_at {p : Poll} {now : List Int} {h x : Int} {i : Nat} {v : Voter} (hv : p.voters[i]? = some v) (hx : (zgt p now h i)[i]? = some x) : x = zfs now v := by
 rw [leftM_at hv] at hx; exact (Option.some.inj hx).symm
theorem left_bound {p : Poll} {now : List Int} {v : Voter} (hp : zcZ p = true) (hn : NowOk p now) (hv : v ∈ p.voters) : 0 ≤ zfs now v ∧ zfs now v ≤ 6 := by
 have h1 := zhi hp hv;have h2 := hn.wr v hv;rw [zfs]; omega
theorem set_at {l : List Int} {i : Nat} {x z : Int} (h : (l.set i x)[i]? = some z) : z = x := by
 rw [List.getElem?_set] at h;simp only [if_true] at h;split at h
 ·exact (Option.some.inj h).symm
 cases h
def zhI (p : Poll) (i : Nat) : List Int := (p.voters.take i).map (·.wrong) ++ List.replicate (p.voters.length - i) 0
theorem startL_zero (p : Poll) : zhI p 0 = List.replicate p.voters.length 0 := by simp [zhI]
theorem startL_len {p : Poll} {i : Nat} (h : i ≤ p.voters.length) : (zhI p i).length = p.voters.length := by simp [zhI]; omega
theorem startL_set {p : Poll} {i : Nat} {v : Voter} (hv : p.voters[i]? = some v) : (zhI p i).set i v.wrong = zhI p (i + 1) := by
 have hlt := (List.getElem?_eq_some_iff.1 hv).1;rw [zhI, zhI, zbh hv, List.set_append_right _ _ (by simp; omega), List.length_map, List.length_take, Nat.min_eq_left (Nat.le_of_lt hlt), Nat.sub_self, show p.voters.length - i = (p.voters.length - (i + 1)) + 1 by omega, List.replicate_succ, List.set_cons_zero, List.map_append, List.append_assoc];rfl
theorem startL_all {p : Poll} {i : Nat} (h : p.voters.length ≤ i) : zhI p i = leftL p [] := by
 rw [zhI, List.take_of_length_le h, show p.voters.length - i = 0 by omega, leftL];simp only [List.replicate_zero, List.append_nil];refine List.map_congr_left fun v _ => ?_;have e : zdq v [] = 0 := rfl;rw [zfs, e]; simp
def zhu (p : Poll) (now : List Int) (k : Nat) : List (List Int) := (List.range k).flatMap fun (h : Nat) => zck p (now ++ [(h : Int)])
theorem zjq (p : Poll) (now : List Int) (k : Nat) : zhu p now (k + 1) = zhu p now k ++ zck p (now ++ [(k : Int)]) := by
 rw [zhu, List.range_succ, List.flatMap_append, List.flatMap_cons, List.flatMap_nil, List.append_nil]; rfl
theorem truthsK_all {p : Poll} {now : List Int} {q : Question} {k : Nat} (hq : p.questions[now.length]? = some q) (hk : q.heads.length = k) : zck p now = zhu p now k := by
 subst hk;exact truthsFrom_next (by simp [zhJ, hq])
def OnWay (p : Poll) (done : List (List Int)) (now : List Int) : Prop := ∃ tl, zab p = done ++ zck p now ++ tl
theorem onway_nil (p : Poll) : OnWay p [] [] := ⟨[], by rw [truthsFrom_nil]; simp⟩
theorem onway_next {p : Poll} {done : List (List Int)} {now : List Int} {q : Question} {k : Nat} (h : OnWay p done now) (hq : p.questions[now.length]? = some q) (hk : k < q.heads.length) : OnWay p (done ++ zhu p now k) (now ++ [(k : Int)]) := by
 obtain ⟨tl, h⟩ := h;rw [truthsK_all hq rfl] at h;have e : zhu p now q.heads.length = zhu p now k ++ zck p (now ++ [(k : Int)]) ++ ((List.range (q.heads.length - (k + 1))).map (k + 1 + ·)).flatMap fun (h : Nat) => zck p (now ++ [(h : Int)]) := by
  rw [← zjq];simp only [zhu];rw [← List.flatMap_append];congr 1
  conv => lhs; rw [show q.heads.length = (k + 1) + (q.heads.length - (k + 1)) by omega]
  rw [List.range_add]
 rw [e] at h;exact ⟨((List.range (q.heads.length - (k + 1))).map (k + 1 + ·)).flatMap (fun (h : Nat) => zck p (now ++ [(h : Int)])) ++ tl, by rw [h]; simp only [List.append_assoc]⟩
theorem onway_at {p : Poll} {done : List (List Int)} {now : List Int} (h : OnWay p done now) (hn : zck p now = [now]) : (zab p)[done.length]? = some now := by
 obtain ⟨tl, h⟩ := h;rw [h, hn]; simp
theorem truths_one {p : Poll} {now : List Int} (h : NowOk p now) (hl : now.length = p.questions.length) : zck p now = [now] := by
 rw [truthsFrom_all hl, if_pos (now_true h hl)]
end Go.Pk

namespace Go.Pk
open Go Go.RowKit
theorem intLt_T : TLt (fun a b : Int => decide (a < b)) := by
 refine ⟨fun a => by simp, fun a b c h1 h2 => ?_, fun a b h => ?_⟩
 ·simp only [decide_eq_true_eq] at *; omega
 simp only [decide_eq_true_eq]; omega
def choiceAt (q : Nat) (t : List Int) : Int := (t[q]?).getD 0
theorem ziU {q : Nat} {t : List Int} {a : Int} (h : t[q]? = some a) : choiceAt q t = a := by rw [choiceAt, h]; rfl
theorem openK_sorted (ts : List (List Int)) (q : Nat) : ∀ n, (ziF ts q n).Pairwise fun a b => decide (a < b) = true
 | 0 => by simp [ziF]
 | n + 1 => by
  rw [openK_succ, List.pairwise_append];refine ⟨openK_sorted ts q n, by split <;> simp, fun a ha b hb => ?_⟩;split at hb
  ·rw [List.mem_singleton] at hb;subst hb;simp only [ziF, List.mem_map, List.mem_filter, List.mem_range] at ha;obtain ⟨k, ⟨hk, _⟩, rfl⟩ := ha;simp; omega
  ·cases hb
theorem open_sorted {ts : List (List Int)} {q n : Nat} (h : ∀ t ∈ ts, ∃ a, t[q]? = some a ∧ 0 ≤ a ∧ a < (n : Int)) : zcm ((ts.map (choiceAt q)).mergeSort fun a b => decide (a ≤ b)) = ziF ts q n := by
 rw [setOf_compact intLt_T (List.mergeSort_perm _ _)]
 ·refine strict_eq intLt_T (setL_sorted intLt_T _) (openK_sorted ts q n) fun x => ?_;rw [setL_mem];simp only [ziF, List.mem_map, List.mem_filter, List.mem_range, openB, List.any_eq_true, decide_eq_true_eq];constructor
  ·rintro ⟨t, ht, rfl⟩;obtain ⟨a, ha, h0, h1⟩ := h t ht;refine ⟨a.toNat, ⟨by omega, t, ht, ?_⟩, ?_⟩
   ·rw [ha]; congr 1; omega
   ·rw [ziU ha]; omega
  ·rintro ⟨k, ⟨_, t, ht, e⟩, rfl⟩;exact ⟨t, ht, ziU e⟩
 have := List.pairwise_mergeSort (le := fun a b : Int => decide (a ≤ b)) (by intro a b c h1 h2; simp only [decide_eq_true_eq] at *; omega) (by intro a b; simp only [Bool.or_eq_true, decide_eq_true_eq]; omega) (ts.map (choiceAt q));exact this.imp fun {a b} h => by simp only [decide_eq_true_eq, decide_eq_false_iff_not] at *; omega
theorem truth_at {p : Poll} {t : List Int} {q : Nat} {x : Question} (h : t ∈ zab p) (hx : p.questions[q]? = some x) : ∃ a, t[q]? = some a ∧ 0 ≤ a ∧ a < (x.heads.length : Int) := by
 have hl := zdZ h;have hlt := (List.getElem?_eq_some_iff.1 hx).1;refine ⟨_, List.getElem?_eq_getElem zr, ?_⟩;exact truth_in h (List.getElem?_eq_getElem zr) hx
theorem setK_nil (ts : List (List Int)) (a0 : List Int) : setK (ts.take 0) a0 = a0 := by
 refine List.ext_getElem (zfX _ _) fun k h1 h2 => ?_;have := setK_get (ts := ts.take 0) h2;rw [List.getElem?_eq_getElem h1] at this;have e := Option.some.inj this;rw [e, setAt, List.getElem?_eq_getElem h2];simp
def zij (q : Question) : Bool := decide (q.heads.length ≤ 6) && q.heads.all fun h => decide (h.stem.length ≤ 40)
def smallV (v : Voter) : Bool := decide (v.votes.length ≤ 20)
def zhd (p : Poll) : Bool := ziQ p.text && zfq p.lexicon && decide (p.questions.length ≤ 10) && decide (p.voters.length ≤ 10) && p.questions.all zij && p.voters.all smallV
theorem smallP_len {p : Poll} (h : zhd p = true) : ziQ p.text = true ∧ zfq p.lexicon = true ∧ p.questions.length ≤ 10 ∧ p.voters.length ≤ 10 := by
 simp only [zhd, Bool.and_eq_true, decide_eq_true_eq] at h;exact ⟨h.1.1.1.1.1, h.1.1.1.1.2, h.1.1.1.2, h.1.1.2⟩
theorem small_yes {p : Poll} {i j : Nat} (h1 : ziQ p.text = true) (h2 : zfq p.lexicon = true) (h3 : p.questions.length ≤ 10) (h4 : p.voters.length ≤ 10) (hA : (p.questions.take i).all zij = true) (hi : p.questions.length ≤ i) (hV : (p.voters.take j).all smallV = true) (hj : p.voters.length ≤ j) : zhd p = true := by
 rw [List.take_of_length_le hi] at hA;rw [List.take_of_length_le hj] at hV;simp only [zhd, h1, h2, hA, hV, decide_eq_true h3, decide_eq_true h4, Bool.and_true]
theorem small_no (p : Poll) (h : ziQ p.text = false ∨ zfq p.lexicon = false ∨ 10 < p.questions.length ∨ 10 < p.voters.length) : zhd p = false := by
 cases e : zhd p with
 | false => rfl
 | true =>
  have h2 := smallP_len e
  rcases h with h | h | h | h
  ·rw [h2.1] at h; cases h
  ·rw [h2.2.1] at h; cases h
  ·omega
  ·omega
theorem small_noq {p : Poll} {i : Nat} {q : Question} (hq : p.questions[i]? = some q) (h : zij q = false) : zhd p = false := by
 have : p.questions.all zij = false := List.all_eq_false.2 ⟨q, List.mem_of_getElem? hq, by simp [h]⟩;simp only [zhd, this, Bool.and_false, Bool.false_and]
theorem small_nov {p : Poll} {i : Nat} {v : Voter} (hv : p.voters[i]? = some v) (h : 20 < v.votes.length) : zhd p = false := by
 have : p.voters.all smallV = false := List.all_eq_false.2 ⟨v, List.mem_of_getElem? hv, by simp [smallV]; omega⟩;simp only [zhd, this, Bool.and_false]
theorem small_q6 {q : Question} (h : 6 < q.heads.length) : zij q = false := by simp [zij]; intros; omega
theorem small_qh {q : Question} {k : Nat} {hd : Head} (hh : q.heads[k]? = some hd) (h : 40 < hd.stem.length) : zij q = false := by
 have : (q.heads.all fun h => decide (h.stem.length ≤ 40)) = false := List.all_eq_false.2 ⟨hd, List.mem_of_getElem? hh, by simp; omega⟩;simp only [zij, this, Bool.and_false]
theorem small_qy {q : Question} {k : Nat} (h : q.heads.length ≤ 6) (hB : ((q.heads.take k).all fun h => decide (h.stem.length ≤ 40)) = true) (hk : q.heads.length ≤ k) : zij q = true := by
 rw [List.take_of_length_le hk] at hB;simp only [zij, hB, decide_eq_true h, Bool.and_true]
end Go.Pk
