/- A PART OF THE PROOF: contracts of functions, each walked once (much of it printed by a program of the author's own). -/
import Derived.Test.YtjdbapoodefncaaGreatDoorT0
import Derived.Shelf.SlSortCmp.NoneTotal
import Derived.Test.YtjdbapoodefncaaGreatDoorT2
import Derived.Test.YtjdbapoodefncaaGreatDoorT1
import Derived.Lib.Bytealg
import Derived.Sort.Walk0
set_option linter.unusedSimpArgs false
set_option linter.unusedVariables false
set_option maxRecDepth 4000
namespace Go.Pk
open Go Go.RowKit Go.Proofs Go.Shelf Go.Lib Go.Sort
theorem bel_grow {W w' : World} (b : Bel W.heap.size W w') : ∃ q os', w' = grow (W.drewN q) os' := by
 refine ⟨w'.drawn - W.drawn, w'.heap.extract W.heap.size w'.heap.size, ?_⟩;obtain ⟨h1, h2, h3, h4, h5, h6⟩ := b;cases w'; cases W;simp only at h1 h2 h3 h4 h5 h6;subst h1; subst h2; subst h3;simp only [grow, World.drewN, World.mk.injEq, true_and, and_true];refine ⟨?_, by omega⟩;apply Array.ext_getElem?;intro i;rw [Array.getElem?_append];split
 ·rename_i hi; exact h5 i hi
 rename_i hi;rw [Array.getElem?_extract];split
 ·congr 1; omega
 rw [Array.getElem?_eq_none zr]
theorem Bel.grow {B : Nat} {a w : World} (b : Bel B a w) (hB : B ≤ w.heap.size) (os : Array Obj) : Bel B a (grow w os) :=
 b.trans ⟨rfl, rfl, rfl, by simp [Go.Sort.grow], fun k hk => by simp only [Go.Sort.grow]; rw [Array.getElem?_append_left zr], Nat.le_refl _⟩
theorem St.grow {h0 h : Heap} {w0 w : World} {own : Own} (st : St h0 w0 h w own) (os : Array Obj) : St h0 w0 h (grow w os) own := by
 have e : ∀ b o, w.heap[b]? = some o → (Go.Sort.grow w os).heap[b]? = some o := fun b o hb => by
  simp only [Go.Sort.grow]; rw [Array.getElem?_append_left (zcJ hb)]; exact hb
 exact ⟨st.le, st.new, fun b o hb => e b o (st.sub b o hb), st.below.grow st.below.size os, fun p hp => ⟨e _ _ (st.mine p hp).1, (st.mine p hp).2⟩, st.nodup⟩
theorem putRow_own {w : World} {b : Nat} {cur : Array Value} {T : TypeId} {F : Array Value} (hb : w.heap[b]? = some (.cells cur T)) (n : Nat) :
  putRow id (Go.Sort.ahead w n) b 0 F = { w with drawn := w.drawn + n, heap := w.heap.setIfInBounds b (.cells (putCells id 0 F cur) T) } := by
 have hlt := zcJ hb;have hb' : w.heap[b] = .cells cur T := by rw [Array.getElem?_eq_getElem hlt] at hb; simpa using hb
 simp only [putRow, mapBlock, Go.Sort.ahead, World.mk.injEq, and_true, true_and];apply Array.ext_getElem?;intro i;rw [Array.getElem?_modify, Array.getElem?_setIfInBounds]
 by_cases e : b = i
 ·subst e; simp [hlt, hb', onCells]
 ·simp [e]
theorem putCells_take {F cur : Array Value} (h : F.size ≤ cur.size) : (putCells id 0 F cur).toList.take F.size = F.toList := by
 apply List.ext_getElem?;intro i;rw [List.getElem?_take];split
 ·rename_i hi;simp only [putCells, Array.getElem?_toList, Array.getElem?_mapIdx];rw [Array.getElem?_eq_getElem (show i < cur.size by omega), Array.getElem?_eq_getElem hi];simp [hi]
 rename_i hi;rw [List.getElem?_eq_none (by simpa using hi)]
theorem flatK_enc {α : Type} [Inhabited α] {L : Lay α} {h : Heap} {enc : α → List Value} (d : Array α) (hk : ∀ x, (enc x).length = L.size) (hR : ∀ x ∈ d.toList, L.R h (enc x) x) : Enc L h (flatK enc L.size d).toList d.toList := by
 refine ⟨by simp, fun i x hi => ?_⟩;obtain ⟨h1, h2⟩ := List.getElem?_eq_some_iff.1 hi;have h1' : i < d.size := by simpa using h1
 have e : ((flatK enc L.size d).toList.drop (i * L.size)).take L.size = enc x := by
  apply List.ext_getElem?;intro j;rw [List.getElem?_take]
  by_cases hj : j < L.size
  ·rw [if_pos hj, List.getElem?_drop];have ht : i * L.size + j < d.size * L.size := by
    have : (i + 1) * L.size ≤ d.size * L.size := Nat.mul_le_mul_right _ h1';rw [Nat.add_mul, Nat.one_mul] at this; omega
   have h3 := get_flatK enc L.size d _ ht;have hd : (i * L.size + j) / L.size = i := by rw [Nat.mul_comm, Nat.mul_add_div zr, Nat.div_eq_of_lt hj]; rfl
   have hm : (i * L.size + j) % L.size = j := by rw [Nat.mul_comm, Nat.mul_add_mod, Nat.mod_eq_of_lt hj]
   rw [hd, hm, getElem!_pos d i h1', getElem!_pos (flatK enc L.size d) _ (by simpa using ht)] at h3;have hx : d[i] = x := by simpa using h2
   rw [hx, getElem!_pos (enc x) j (by rw [hk]; exact hj)] at h3;rw [List.getElem?_eq_getElem (by simpa using ht), List.getElem?_eq_getElem (by rw [hk]; exact hj)];simpa using h3
  ·rw [if_neg hj, List.getElem?_eq_none (by rw [hk]; omega)]
 rw [e];exact hR x (List.mem_of_getElem? hi)
theorem enc_flatK {α : Type} [Inhabited α] {L : Lay α} {h : Heap} {enc : α → List Value} (hpos : 0 < L.size) (d : Array α) (hE : ∀ {vs x}, L.R h vs x → vs = enc x) {cs : List Value} (e : Enc L h cs d.toList) {j : Nat} (hj : j < d.size * L.size) : cs[j]? = some (flatK enc L.size d)[j]! := by
 have hi : j / L.size < d.size := Nat.div_lt_of_lt_mul (by rwa [Nat.mul_comm]);have hr := hE (e.2 (j / L.size) d[j / L.size] (by simp [hi]));rw [get_flatK enc L.size d j hj, getElem!_pos d _ hi, ← hr];have hlen : cs.length = d.size * L.size := by simpa using e.1
 have hm := Nat.mod_lt j hpos;have hdm := Nat.div_add_mod j L.size;rw [Nat.mul_comm] at hdm;have hl : j % L.size < ((cs.drop (j / L.size * L.size)).take L.size).length := by
  simp only [List.length_take, List.length_drop]; omega
 rw [getElem!_pos ((cs.drop (j / L.size * L.size)).take L.size) (j % L.size) hl];simp only [List.getElem_take, List.getElem_drop, hdm];rw [List.getElem?_eq_getElem zr]
theorem sortFunc {α : Type} {L : Lay α} {T : TypeId} {P : Program} {ρ : Ren} (LL : SlLaysF0.n6 P ρ) (aE : ∀ w, (isAgg (ρ.t 24)).run P w = .ok true w) (zE : ∀ w, (Go.sizeOf (ρ.t 24)).run P w = .ok L.size w) (hpos : 0 < L.size)
  (enc : α → List Value) (hE : ∀ {h vs x}, L.R h vs x → vs = enc x) (cf : α → α → Int) (hS : SWO (ltOf cf)) {g : Nat} {caps : List Value} {h0 h : Heap} {w0 w : World} {own : Own} {i : Nat} {v : Value} {xs : List α} {o : List (Nat × Obj)}
  (st : St h0 w0 h w own) (hO : OSl L T h v xs o) (hi : own[i]? = some o) (hlen : xs.length < 4611686018427387904) (eg : ∀ a w, (callFunc g a).run P w = .ok (.enter g a) w)
  (hcmp : ∀ x ∈ xs, ∀ y ∈ xs, ∀ w', Sub h w' → Calls P g (.agg (enc x).toArray :: .agg (enc y).toArray :: caps).toArray w' (Rets h w' fun _ _ r => r = .int .i64 (cf x y))) :
  Calls P (ρ.f 6) #[v, .func (.func g) #[] caps.toArray] w fun e w' => e = .returned (.tuple #[]) ∧ ∃ ys o' own', own' = own.set i o' ∧ ys.Perm xs ∧ ys.Pairwise (fun a b => ¬ cf b a < 0) ∧ OSl L T h v ys o' ∧ St h0 w0 h w' own' := by
 by_cases hx : xs = []
 ·subst hx;obtain ⟨p, c, rfl⟩ := hO.form;refine (AnyF.slices_SortFunc_none LL p c _ w).mono ?_;rintro e w' ⟨he, rfl⟩;refine ⟨he, [], o, _, rfl, List.Perm.refl _, List.Pairwise.nil, hO, ?_⟩;have e3 : own.set i o = own := by
   apply List.ext_getElem?;intro j;rw [List.getElem?_set];split
   ·rename_i e4; subst e4;split
    ·exact hi.symm
    ·rename_i h5; rw [List.getElem?_eq_none zr]
   ·rfl
  rw [e3]; exact st
 obtain ⟨cs, e1, ⟨⟨p, rfl⟩, rfl, rfl⟩ | ⟨b, cap, cur, rfl, rfl, hnc, hcm, hsz, htk⟩⟩ := hO
 ·exact absurd rfl hx
 -- the elements, each with its place in the list
 let β := { x : α // x ∈ xs }
 haveI : Inhabited β := ⟨⟨xs.head hx, List.head_mem hx⟩⟩
 let enc' : β → List Value := fun x => enc x.1
 let cf' : β → β → Int := fun x y => cf x.1 y.1
 let d : Array β := xs.attach.toArray
 have hdl : d.size = xs.length := by show xs.attach.toArray.size = xs.length; rw [List.size_toArray]; exact List.length_attach
 have hmap : d.toList.map (·.1) = xs := by show xs.attach.map (·.1) = xs; exact List.attach_map_subtype_val xs
 have hRx : ∀ x : β, L.R h (enc x.1) x.1 := by
  intro x;obtain ⟨j, hj⟩ := List.mem_iff_getElem?.1 x.2;have := e1.2 j x.1 hj;rwa [hE this] at this
 have hk : ∀ x : β, (enc' x).length = L.size := fun x => L.len (hRx x)
 let L' : Lay β := { size := L.size, R := fun h vs x => L.R h vs x.1, up := fun a b => L.up a b, len := fun a => L.len a, one := fun a => L.one a }
 have hb := st.get hi;have hcsl : cs.length = xs.length * L.size := e1.1;have e1' : Enc L' h cs d.toList := ⟨by rw [hcsl, ← hdl]; rfl, fun j x hj => e1.2 j x.1 (by
  have := congrArg (Option.map (·.1)) hj;rw [← List.getElem?_map, hmap] at this;simpa using this)⟩
 have hH : HoldsK enc' L.size w b 0 d := by
  intro j hj;have hj' : j < d.size * L.size := by simpa using hj
  have hcj := enc_flatK (L := L') (enc := enc') hpos d (fun h => hE h) e1' hj';have hjc : j < cs.length := by rw [hcsl, ← hdl]; exact hj'
  have hcur : cur[j]? = some (flatK enc' L.size d)[j]! := by
   rw [← htk, List.getElem?_take] at hcj;split at hcj
   ·simpa using hcj
   ·cases hcj
  refine ⟨?_, ?_⟩
  ·simp only [World.cell?, hb, Option.isSome_none, Bool.false_eq_true, if_false, Nat.zero_add, id];exact hcur
  ·simp [World.frozen?, hb]
 have hlt := zcJ hb;have hsubs : ∀ m (os : Array Obj) (dk : Array β), Sub h (sortWorldK enc' L.size w b 0 m dk os) := by
  intro m os dk;unfold sortWorldK putRowK;rw [putRow_own hb];have := (((st.set (.cells (putCells id 0 (flatK enc' L.size dk) cur) T) hi).same (w' := { w with drawn := w.drawn + m, heap := w.heap.setIfInBounds b (.cells (putCells id 0 (flatK enc' L.size dk) cur) T) }) rfl rfl rfl rfl (Nat.le_add_right _ _)).grow os).sub;exact this
 have hC : CmpLays P g caps.toArray enc' L.size cf' b 0 d.size w := by
  intro m os dk hdk x y;have c : Calls P g (#[.agg (enc' x).toArray, .agg (enc' y).toArray] ++ caps.toArray) (sortWorldK enc' L.size w b 0 m dk os) (Rets h (sortWorldK enc' L.size w b 0 m dk os) fun _ _ r => r = .int .i64 (cf x.1 y.1)) := by
   simpa using hcmp x.1 x.2 y.1 y.2 _ (hsubs m os dk)
  refine c.mono ?_;rintro e w' ⟨h', r, rfl, s, rfl⟩;exact ⟨rfl, bel_grow s.below⟩
 have hS' : SWO (ltOf cf') := ⟨fun x => hS.irrefl x.1, fun x y z => hS.trans x.1 y.1 z.1, fun x y z => hS.ntrans x.1 y.1 z.1⟩;have con := AnyQ.slices_SortFunc LL L.size aE zE enc' hk (fun x => L.one (hRx x)) cf' hS' g caps.toArray b 0 cap d w eg hC hH hlt (by rw [hdl]; exact hlen);rw [hdl] at con;refine con.mono ?_;rintro e w' ⟨he, d', n, os, ⟨p1, p2, p3⟩, hsort, rfl⟩;have hd' : d'.size = xs.length := by rw [p1, hdl]
 refine ⟨he, d'.toList.map (·.1), [(b, .cells (putCells id 0 (flatK enc' L.size d') cur) T)], _, rfl, ?_, ?_, ?_, ?_⟩
 ·have e3 : d'.extract 0 xs.length = d' := by rw [← hd']; simp
  have e4 : d.extract 0 xs.length = d := by rw [← hdl]; simp
  rw [e3, e4] at p3;have := p3.map (fun x : β => x.1);rwa [hmap] at this
 ·rw [List.pairwise_map, List.pairwise_iff_getElem];intro q r hq hr hqr;have := hsort q r (Nat.zero_le _) hqr (by simpa [hd'] using hr);rw [getElem!_pos d' r (by simpa using hr), getElem!_pos d' q (by simpa using hq)] at this;simp only [ltOf, decide_eq_false_iff_not, cf'] at this;simpa using this
 ·have hsf : (flatK enc' L.size d').size = xs.length * L.size := by simp [hd']
  have hfc : (flatK enc' L.size d').size ≤ cur.size := by rw [hsf, hsz]; exact Nat.mul_le_mul_right _ hnc
  refine ⟨(flatK enc' L.size d').toList, ?_, .inr ⟨b, cap, _, by simp [hd'], rfl, by simpa [hd'] using hnc, hcm, by simpa [putCells] using hsz, ?_⟩⟩
  ·have := flatK_enc (L := L') (h := h) (enc := enc') d' hk (fun x _ => hRx x);refine ⟨by simp [hd'], fun j x hj => ?_⟩;rw [List.getElem?_map] at hj;obtain ⟨y, hy, rfl⟩ := Option.map_eq_some_iff.1 hj;exact this.2 j y hy
  ·have := putCells_take hfc;rw [hsf] at this;simpa [hd'] using this
 ·unfold sortWorldK putRowK;rw [putRow_own hb];exact ((st.set (.cells (putCells id 0 (flatK enc' L.size d') cur) T) hi).same (w' := { w with drawn := w.drawn + n, heap := w.heap.setIfInBounds b (.cells (putCells id 0 (flatK enc' L.size d') cur) T) }) rfl rfl rfl rfl (Nat.le_add_right _ _)).grow os
theorem swo_asc {α : Type} (f : α → Int) : SWO (ltOf fun a b => f a - f b) := by
 refine ⟨fun x => ?_, fun x y z h1 h2 => ?_, fun x y z h1 h2 => ?_⟩ <;> simp only [ltOf, decide_eq_true_eq, decide_eq_false_iff_not] at * <;> omega
theorem swo_desc {α : Type} (f : α → Int) : SWO (ltOf fun a b => f b - f a) := by
 refine ⟨fun x => ?_, fun x y z h1 h2 => ?_, fun x y z h1 h2 => ?_⟩ <;> simp only [ltOf, decide_eq_true_eq, decide_eq_false_iff_not] at * <;> omega
theorem OSl.memR {α : Type} {L : Lay α} {T : TypeId} {h : Heap} {v : Value} {xs : List α} {o : List (Nat × Obj)} (hO : OSl L T h v xs o) {x : α} (hx : x ∈ xs) : ∃ vs, L.R h vs x := by
 obtain ⟨cs, e, _⟩ := hO;obtain ⟨j, hj⟩ := List.mem_iff_getElem?.1 hx;exact ⟨_, e.2 j x hj⟩
theorem Sl.memR {α : Type} {L : Lay α} {h : Heap} {v : Value} {xs : List α} (hs : Sl L h v xs) {x : α} (hx : x ∈ xs) : ∃ vs, L.R h vs x := by
 obtain ⟨p, c, _, _, rfl | ⟨b, off, _, hh⟩⟩ := hs
 ·cases hx
 obtain ⟨j, hj⟩ := List.mem_iff_getElem?.1 hx;obtain ⟨vs, _, hr⟩ := hh j x hj;exact ⟨vs, hr⟩
theorem putRow_own1 {α : Type} [Inhabited α] {enc : α → Value} {w : World} {b : Nat} {cur : Array Value} {T : TypeId} {F : Array α} (hb : w.heap[b]? = some (.cells cur T)) (n : Nat) :
  putRow enc (Go.Sort.ahead w n) b 0 F = { w with drawn := w.drawn + n, heap := w.heap.setIfInBounds b (.cells (putCells enc 0 F cur) T) } := by
 have hlt := zcJ hb;have hb' : w.heap[b] = .cells cur T := by rw [Array.getElem?_eq_getElem hlt] at hb; simpa using hb
 simp only [putRow, mapBlock, Go.Sort.ahead, World.mk.injEq, and_true, true_and];apply Array.ext_getElem?;intro i;rw [Array.getElem?_modify, Array.getElem?_setIfInBounds]
 by_cases e : b = i
 ·subst e; simp [hlt, hb', onCells]
 ·simp [e]
theorem putCells_take1 {α : Type} [Inhabited α] {enc : α → Value} {F : Array α} {cur : Array Value} (h : F.size ≤ cur.size) : (putCells enc 0 F cur).toList.take F.size = F.toList.map enc := by
 apply List.ext_getElem?;intro i;rw [List.getElem?_take, List.getElem?_map];split
 ·rename_i hi;simp only [putCells, Array.getElem?_toList, Array.getElem?_mapIdx];rw [Array.getElem?_eq_getElem (show i < cur.size by omega), Array.getElem?_eq_getElem hi];simp [hi]
 rename_i hi;rw [List.getElem?_eq_none (by simpa using hi)]; rfl
theorem sort1 {α : Type} [Inhabited α] {L : Lay α} {T : TypeId} {P : Program} {f : FuncId} (enc : α → Value) (hE : ∀ {h vs x}, L.R h vs x → vs = [enc x]) (hz : L.size = 1) (srt : List α → List α) (hp : ∀ l, (srt l).Perm l)
  (hc : ∀ blk off cap (zs : List α) w, Holds enc w blk off zs.toArray → blk < w.heap.size → zs.length < 4611686018427387904 → Calls P f #[.slice (some ⟨blk, off, none⟩) zs.length cap] w fun e w' => e = .returned (.tuple #[]) ∧ ∃ n os, w' = Go.Sort.grow (putRow enc (Go.Sort.ahead w n) blk off (srt zs).toArray) os)
  (hn : ∀ p cap w, Calls P f #[.slice p 0 cap] w fun e w' => e = .returned (.tuple #[]) ∧ w' = w)
  {h0 h : Heap} {w0 w : World} {own : Own} {i : Nat} {v : Value} {xs : List α} {o : List (Nat × Obj)} (st : St h0 w0 h w own) (hO : OSl L T h v xs o) (hi : own[i]? = some o) (hlen : xs.length < 4611686018427387904) :
  Calls P f #[v] w fun e w' => e = .returned (.tuple #[]) ∧ ∃ o' own', own' = own.set i o' ∧ OSl L T h v (srt xs) o' ∧ St h0 w0 h w' own' := by
 obtain ⟨cs, e1, ⟨⟨p, rfl⟩, rfl, rfl⟩ | ⟨b, cap, cur, rfl, rfl, hnc, hcm, hsz, htk⟩⟩ := hO
 ·refine (hn p 0 w).mono ?_;rintro e w' ⟨he, rfl⟩;have e0 : srt [] = [] := (hp []).eq_nil;rw [e0];exact ⟨he, [], _, rfl, OSl.nil0 L T h ⟨p, rfl⟩, st.drop i⟩
 have hb := st.get hi;have hlt := zcJ hb;have hcs : cs = xs.map enc := by
  apply List.ext_getElem?;intro j;rw [List.getElem?_map]
  by_cases hj : j < xs.length
  ·have hr := hE (e1.2 j xs[j] (List.getElem?_eq_getElem hj));rw [hz, Nat.mul_one] at hr;have hjc : j < cs.length := by rw [e1.1, hz]; omega
   rw [List.getElem?_eq_getElem hj, List.getElem?_eq_getElem hjc];have h1 := congrArg (·[0]?) hr;simp only [List.getElem?_take, List.getElem?_drop, List.getElem?_cons_zero] at h1;simp only [Nat.zero_lt_one, if_true, Nat.add_zero] at h1;rw [List.getElem?_eq_getElem hjc] at h1;simpa using h1
  ·rw [List.getElem?_eq_none (by rw [e1.1, hz]; omega), List.getElem?_eq_none zr]; rfl
 have hH : Holds enc w b 0 xs.toArray := by
  intro j hj;have hj' : j < xs.length := by simpa using hj
  have h2 : cs[j]? = some (enc xs[j]) := by rw [hcs, List.getElem?_map, List.getElem?_eq_getElem hj']; rfl
  have hcur : cur[j]? = some (enc xs[j]) := by
   rw [← htk, List.getElem?_take] at h2;split at h2
   ·simpa using h2
   ·cases h2
  refine ⟨?_, by simp [World.frozen?, hb]⟩;simp only [World.cell?, hb, Option.isSome_none, Bool.false_eq_true, if_false, Nat.zero_add];rw [hcur, getElem!_pos xs.toArray j (by simpa using hj')];simp
 refine (hc b 0 cap xs w hH hlt hlen).mono ?_;rintro e w' ⟨he, n, os, rfl⟩;have hl : (srt xs).length = xs.length := (hp xs).length_eq;refine ⟨he, [(b, .cells (putCells enc 0 (srt xs).toArray cur) T)], _, rfl, ?_, ?_⟩
 ·have hfc : (srt xs).toArray.size ≤ cur.size := by rw [List.size_toArray, hl, hsz, hz]; omega
  refine ⟨(srt xs).map enc, ⟨by simp [hz], fun j x hj => ?_⟩, .inr ⟨b, cap, _, by rw [hl], rfl, by omega, hcm, by simpa [putCells] using hsz, ?_⟩⟩
  ·have hm : x ∈ xs := (hp xs).mem_iff.1 (List.mem_of_getElem? hj);obtain ⟨q, hq⟩ := List.mem_iff_getElem?.1 hm;have hr := e1.2 q x hq;rw [hE hr] at hr;obtain ⟨h1, h2⟩ := List.getElem?_eq_some_iff.1 hj;have e3 : (((srt xs).map enc).drop (j * L.size)).take L.size = [enc x] := by
    rw [hz, Nat.mul_one, List.drop_eq_getElem_cons (by simpa using h1)];simp [h2]
   rw [e3]; exact hr
  ·have := putCells_take1 (enc := enc) hfc;rw [hz, Nat.mul_one];simpa using this
 ·rw [putRow_own1 hb];exact ((st.set (.cells (putCells enc 0 (srt xs).toArray cur) T) hi).same (w' := { w with drawn := w.drawn + n, heap := w.heap.setIfInBounds b (.cells (putCells enc 0 (srt xs).toArray cur) T) }) rfl rfl rfl rfl (Nat.le_add_right _ _)).grow os
end Go.Pk

namespace Go.Pk
open Go Go.RowKit
def zdn (x : Lexicon) : List Decision := x.decisions.mergeSort fun a b => decide (b.number ≤ a.number)
def zgd (d : Decision) : Int × Decision := (d.number, d)
def zeR (x : Lexicon) : List (Int × Decision) := ((zdn x).filter (zcS x)).map zgd
def OkD (x : Lexicon) : Prop := (x.decisions.map (·.number)).Nodup ∧ ∀ v ∈ x.decisions, 1 ≤ v.number ∧ v.number ≤ 999 ∧ (v.kind = 4 → v.of_ < v.number)
theorem zdW (x : Lexicon) : (zdn x).Perm x.decisions := List.mergeSort_perm _ _
theorem downD_sorted (x : Lexicon) : (zdn x).Pairwise fun a b => b.number ≤ a.number := by
 have h := List.pairwise_mergeSort (le := fun a b : Decision => decide (b.number ≤ a.number)) (by intro a b c h1 h2; simp at *; omega) (by intro a b; simp; omega) x.decisions;exact h.imp (fun h => by simpa using h)
theorem zjk {α : Type} {f : α → Int} {xs : List α} (hn : (xs.map f).Nodup) {a b : α} (ha : a ∈ xs) (hb : b ∈ xs) (e : f a = f b) : a = b := by
 obtain ⟨i, hi⟩ := List.mem_iff_getElem?.1 ha;obtain ⟨j, hj⟩ := List.mem_iff_getElem?.1 hb
 rcases Nat.lt_trichotomy i j with h | h | h
 ·exact absurd hn (zjj hi hj h e)
 ·subst h; rw [hi] at hj; exact Option.some.inj hj
 exact absurd hn (zjj hj hi h e.symm)
theorem downD_eq {x : Lexicon} {ys : List Decision} (hp : ys.Perm x.decisions) (hs : ys.Pairwise fun a b => ¬ a.number - b.number < 0) (hn : (x.decisions.map (·.number)).Nodup) : ys = zdn x := by
 refine List.Perm.eq_of_pairwise (le := fun a b : Decision => b.number ≤ a.number) ?_ (hs.imp (fun h => by omega)) (downD_sorted x) (hp.trans (zdW x).symm);intro a b ha hb h1 h2;exact zjk hn (hp.mem_iff.1 ha) ((zdW x).mem_iff.1 hb) zr
theorem ziW {x : Lexicon} (hn : (x.decisions.map (·.number)).Nodup) : ((zdn x).map (·.number)).Nodup := ((zdW x).map _).nodup_iff.2 hn
theorem putM_new {κ υ : Type} [DecidableEq κ] {m : List (κ × υ)} {k : κ} {u : υ} (h : zbU m k = none) : zgV m k u = m ++ [(k, u)] := by simp [zgV, h]
theorem look_pair {l : List Decision} {n : Int} (hn : (l.map (·.number)).Nodup) {d : Decision} : zbU (l.map zgd) n = some d ↔ d ∈ l ∧ d.number = n := by
 induction l with
 | nil => simp [zbU]
 | cons e l ih =>
  simp only [List.map_cons, List.nodup_cons] at hn;have ih := ih hn.2;simp only [zbU, List.map_cons, List.find?_cons, zgd] at ih ⊢
  by_cases h : e.number = n
  ·simp only [h, decide_true, Option.map_some, Option.some.injEq, List.mem_cons];constructor
   ·rintro rfl; exact ⟨.inl rfl, h⟩
   ·rintro ⟨rfl | h1, h2⟩
    ·rfl
    ·exact absurd (List.mem_map.2 ⟨d, h1, h2.trans h.symm⟩) hn.1
  ·simp only [h, decide_false, List.mem_cons];rw [ih];constructor
   ·rintro ⟨h1, h2⟩; exact ⟨.inr h1, h2⟩
   ·rintro ⟨rfl | h1, h2⟩
    ·exact absurd h2 h
    ·exact ⟨h1, h2⟩
theorem look_pair_none {l : List Decision} {n : Int} (h : n ∉ l.map (·.number)) : zbU (l.map zgd) n = none := by
 simp only [zbU, Option.map_eq_none_iff, List.find?_eq_none];intro p hp;obtain ⟨d, hd, rfl⟩ := List.mem_map.1 hp;intro e;have e' : d.number = n := of_decide_eq_true e;exact h (e' ▸ List.mem_map_of_mem hd)
theorem map_fill {l : List Decision} {k : Nat} {d : Decision} (hn : (l.map (·.number)).Nodup) (hd : l[k]? = some d) : zgV ((l.take k).map zgd) d.number d = (l.take (k + 1)).map zgd := by
 rw [putM_new (look_pair_none ?_), zbg hd, List.map_append]
 ·rfl
 intro h;exact zja (f := (·.number)) hd h hn
def zgG (x : Lexicon) (k : Nat) (d : Decision) : Bool := ((zdn x).take k).all fun v => !(decide (v.kind = 4) && decide (v.of_ = d.number) && zcS x v)
theorem standsB_eq {x : Lexicon} (hx : OkD x) {d : Decision} (hd : 1 ≤ d.number) : zcS x d = x.decisions.all fun v => !(decide (v.kind = 4) && decide (v.of_ = d.number) && zcS x v) := by
 have hv : ∀ v ∈ x.decisions, v.number ≤ 999 ∧ (v.kind = 4 → v.of_ < v.number) := fun v h => (hx.2 v h).2;unfold zcS;rw [standsF_eq hv zr];rw [Bool.eq_iff_iff, List.all_eq_true, List.all_eq_true];refine forall_congr' fun v => forall_congr' fun hm => ?_;have h1 := (hx.2 v hm).1;have e : zeo x (1000 - 1) v = zeo x 1000 v := by
  rw [standsF_eq hv (show 999 < v.number + ((1000 - 1 : Nat) : Int) by omega), standsF_eq hv (show 999 < v.number + ((1000 : Nat) : Int) by omega)]
  -- both say the same of what makes v void
  rw [Bool.eq_iff_iff, List.all_eq_true, List.all_eq_true];refine forall_congr' fun u => forall_congr' fun hu => ?_
  by_cases hk : u.kind = 4
  ·by_cases ho : u.of_ = v.number
   ·have h2 := (hx.2 u hu).2.2 hk;have : zeo x (1000 - 1 - 1) u = zeo x (1000 - 1) u := by
     have h3 : 2 ≤ u.number := by omega
     have key : ∀ (n m : Nat) (w : Decision), 999 < w.number + (n : Int) → 999 < w.number + (m : Int) → zeo x n w = zeo x m w := by
      intro n
      induction n with
      | zero =>
       intro m w hw hm';cases m with
       | zero => rfl
       | succ m =>
        simp only [zeo]
        symm
        rw [List.all_eq_true];intro y hy;have hy' := hx.2 y hy
        by_cases hk' : y.kind = 4
        ·have : ¬ y.of_ = w.number := by have := hy'.2.2 hk'; omega
         simp [this]
        ·simp [hk']
      | succ n ih =>
       intro m w hw hm';cases m with
       | zero =>
        simp only [zeo];rw [List.all_eq_true];intro y hy;have hy' := hx.2 y hy
        by_cases hk' : y.kind = 4
        ·have : ¬ y.of_ = w.number := by have := hy'.2.2 hk'; omega
         simp [this]
        ·simp [hk']
       | succ m =>
        simp only [zeo];rw [Bool.eq_iff_iff, List.all_eq_true, List.all_eq_true];refine forall_congr' fun y => forall_congr' fun hy => ?_;have hy' := hx.2 y hy
        by_cases hk' : y.kind = 4
        ·by_cases ho' : y.of_ = w.number
         ·have := hy'.2.2 hk';rw [ih m y zr zr]
         ·simp [ho']
        ·simp [hk']
     exact key _ _ u zr zr
    simp only [voids, this]
   ·simp [voids, ho]
  ·simp [voids, hk]
 simp only [voids, e]
theorem leftK_at {x : Lexicon} (hx : OkD x) {k : Nat} {d : Decision} (hd : (zdn x)[k]? = some d) : zgG x k d = zcS x d := by
 have hm : d ∈ x.decisions := (zdW x).mem_iff.1 (List.mem_of_getElem? hd);rw [standsB_eq hx (hx.2 d hm).1];rw [Bool.eq_iff_iff, zgG, List.all_eq_true, List.all_eq_true];constructor
 ·intro h v hv
  by_cases hk : v.kind = 4
  ·by_cases ho : v.of_ = d.number
   ·have h1 := (hx.2 v hv).2.2 hk;obtain ⟨j, hj⟩ := List.mem_iff_getElem?.1 ((zdW x).mem_iff.2 hv);have hjk : j < k := by
     rcases Nat.lt_or_ge j k with h2 | h2
     ·exact h2
     ·rcases Nat.eq_or_lt_of_le h2 with h3 | h3
      ·subst h3; rw [hj] at hd; cases hd; omega
      ·obtain ⟨a1, a2⟩ := List.getElem?_eq_some_iff.1 hd;obtain ⟨b1, b2⟩ := List.getElem?_eq_some_iff.1 hj;have := List.pairwise_iff_getElem.1 (downD_sorted x) k j a1 b1 h3;rw [a2, b2] at this; omega
    exact h v (List.mem_of_getElem? (by rw [List.getElem?_take, if_pos hjk]; exact hj))
   ·simp [ho]
  ·simp [hk]
 intro h v hv;exact h v ((zdW x).mem_iff.1 (List.mem_of_mem_take hv))
theorem leftK_zero (x : Lexicon) : ((zdn x).filter (zgG x 0)).map zgd = (zdn x).map zgd := by
 congr 1;rw [List.filter_eq_self];intro d _; simp [zgG]
theorem leftK_end {x : Lexicon} (hx : OkD x) : ((zdn x).filter (zgG x (zdn x).length)).map zgd = zeR x := by
 unfold zeR;congr 1;apply List.filter_congr;intro d hd;have hm : d ∈ x.decisions := (zdW x).mem_iff.1 hd;rw [standsB_eq hx (hx.2 d hm).1, zgG, List.take_length, Bool.eq_iff_iff, List.all_eq_true, List.all_eq_true];exact ⟨fun h v hv => h v ((zdW x).mem_iff.2 hv), fun h v hv => h v ((zdW x).mem_iff.1 hv)⟩
theorem zjG {x : Lexicon} (hx : OkD x) (p : Decision → Bool) : (((zdn x).filter p).map (·.number)).Nodup := (List.filter_sublist.map _).nodup (ziW hx.1)
theorem look_left {x : Lexicon} (hx : OkD x) {k : Nat} {d : Decision} (hd : (zdn x)[k]? = some d) : (zbU (((zdn x).filter (zgG x k)).map zgd) d.number).isSome = zcS x d := by
 rw [← leftK_at hx hd];have hm := List.mem_of_getElem? hd;cases h : zgG x k d with
 | true =>
  have := (look_pair (zjG hx (zgG x k))).2 ⟨List.mem_filter.2 ⟨hm, h⟩, rfl⟩;rw [this]; rfl
 | false =>
  cases hl : zbU (((zdn x).filter (zgG x k)).map zgd) d.number with
  | none => rfl
  | some e =>
   obtain ⟨h1, h2⟩ := (look_pair (zjG hx (zgG x k))).1 hl;have h3 := List.mem_filter.1 h1;have : e = d := zjk (ziW hx.1) h3.1 hm h2;subst this;rw [h] at h3; cases h3.2
theorem leftK_succ {x : Lexicon} {k : Nat} {d e : Decision} (hd : (zdn x)[k]? = some d) : zgG x (k + 1) e = (zgG x k e && !(decide (d.kind = 4) && decide (d.of_ = e.number) && zcS x d)) := by
 simp only [zgG, zbg hd, List.all_append, List.all_cons, List.all_nil, Bool.and_true]
theorem map_void {x : Lexicon} {k : Nat} {d : Decision} (hd : (zdn x)[k]? = some d) (h : d.kind = 4 ∧ zcS x d = true) :
  delM (((zdn x).filter (zgG x k)).map zgd) d.of_ = ((zdn x).filter (zgG x (k + 1))).map zgd := by
 rw [delM, List.filter_map, List.filter_filter];congr 1;apply List.filter_congr;intro e _;rw [leftK_succ hd, h.1, h.2];simp only [Function.comp, zgd, decide_true, Bool.and_true, Bool.true_and];rw [Bool.and_comm];congr 2;exact decide_eq_decide.2 eq_comm
theorem map_stay {x : Lexicon} {k : Nat} {d : Decision} (hd : (zdn x)[k]? = some d) (h : ¬ (d.kind = 4 ∧ zcS x d = true)) :
  ((zdn x).filter (zgG x k)).map zgd = ((zdn x).filter (zgG x (k + 1))).map zgd := by
 congr 1;apply List.filter_congr;intro e _;rw [leftK_succ hd]
 by_cases h1 : d.kind = 4
 ·have h2 : zcS x d = false := by
   cases q : zcS x d with
   | false => rfl
   | true => exact absurd ⟨h1, q⟩ h
  simp [h2]
 ·simp [h1]
theorem standM_mem {x : Lexicon} {p : Int × Decision} (h : p ∈ zeR x) : p.2 ∈ x.decisions ∧ p.1 = p.2.number ∧ zcS x p.2 = true := by
 obtain ⟨d, hd, rfl⟩ := List.mem_map.1 h;obtain ⟨h1, h2⟩ := List.mem_filter.1 hd;exact ⟨(zdW x).mem_iff.1 h1, rfl, h2⟩
theorem zgh {t : Text} {x : Lexicon} (h : zaG t x = 0) : OkD x := by
 have h1 := lexicon_v h;have h2 := lexicon_v1 h;refine ⟨?_, fun v hv => ⟨h2 v hv, h1 v hv⟩⟩;unfold zaG at h;split at h
 ·cases h
 split at h
 ·cases h
 rename_i h3;simp only [Bool.not_eq_false] at h3;simp only [zcu, Bool.and_eq_true, decide_eq_true_eq] at h3;exact h3.2
def ziM (rs : List Rule) (left : Int) (w : Str) : Str := if left = 0 then w else (zhp rs w).getD w
def turnB (rs : List Rule) (left : Int) (w : Str) : Bool := if left = 0 then false else (zhp rs w).isSome
def turnL (left : Int) : Int := if left = 0 then 0 else left - 1
def zgW (s p : Str) : Bool := decide (p.length ≤ s.length) && decide (s.drop (s.length - p.length) = p)
theorem stepOf_at {rs : List Rule} {i : Nat} {r : Rule} {w s : Str} (ht : (rs.take i).findSome? (made · w) = none) (hr : rs[i]? = some r) (hm : made r w = some s) : zhp rs w = some s := by
 unfold zhp;rw [← List.take_append_drop i rs, List.findSome?_append, ht, zhy hr, List.findSome?_cons, hm];rfl
theorem stepOf_none {rs : List Rule} {i : Nat} {w : Str} (ht : (rs.take i).findSome? (made · w) = none) (hi : rs.length ≤ i) : zhp rs w = none := by
 rw [List.take_of_length_le hi] at ht; exact ht
theorem turn_take {rs : List Rule} {i : Nat} {r : Rule} {w : Str} (ht : (rs.take i).findSome? (made · w) = none) (hr : rs[i]? = some r) (hm : made r w = none) : (rs.take (i + 1)).findSome? (made · w) = none := by
 rw [zbg hr, List.findSome?_append, ht, List.findSome?_cons, hm]; rfl
theorem turnW_len {rs : List Rule} {left : Int} {w : Str} (h : w.length ≤ 12) : (ziM rs left w).length ≤ 12 := by
 unfold ziM;split
 ·exact h
 cases e : zhp rs w with
 | none => exact h
 | some s =>
  obtain ⟨r, _, hr⟩ := List.exists_of_findSome?_eq_some e;exact made_len hr
theorem made_no {r : Rule} {w : Str} (h : zgW w r.cut = true → r.least ≤ ((w.take (w.length - r.cut.length)).length : Int) ∧ (w.take (w.length - r.cut.length)).length + r.put.length ≤ 12 → False) : made r w = none := by
 unfold made;rw [if_neg];rintro ⟨q1, q2, q3, q4⟩;have hl : (w.take (w.length - r.cut.length)).length = w.length - r.cut.length := by rw [List.length_take]; omega
 exact h (by simp [zgW, q1, q3]) (by rw [hl]; exact ⟨q2, q4⟩)
theorem made_yes {r : Rule} {w : Str} (h : zgW w r.cut = true) (h1 : r.least ≤ ((w.take (w.length - r.cut.length)).length : Int)) (h2 : (w.take (w.length - r.cut.length)).length + r.put.length ≤ 12) : made r w = some (w.take (w.length - r.cut.length) ++ r.put) := by
 simp only [zgW, Bool.and_eq_true, decide_eq_true_eq] at h;have hl : (w.take (w.length - r.cut.length)).length = w.length - r.cut.length := by rw [List.length_take]; omega
 rw [hl] at h1 h2;unfold made;rw [if_pos ⟨h.1, h1, h.2, h2⟩]
theorem turn_true {rs : List Rule} {left : Int} {w : Str} (h : turnB rs left w = true) : ¬ left = 0 ∧ zhp rs w = some (ziM rs left w) := by
 unfold turnB at h;unfold ziM;split at h
 ·cases h
 rename_i h0;rw [if_neg h0];refine ⟨h0, ?_⟩;cases e : zhp rs w with
 | none => rw [e] at h; cases h
 | some s => rfl
theorem turn_false {rs : List Rule} {left : Int} {n : Nat} {w : Str} (h : turnB rs left w = false) (hn : left = (n : Int)) : zdm rs n w = [w] := by
 unfold turnB at h;split at h
 ·have : n = 0 := by omega
  subst this; rfl
 apply stepsN_none;cases e : zhp rs w with
 | none => rfl
 | some s => rw [e] at h; cases h
theorem zgD {α : Type} {dn rm rm' m : List α} {p : α} (h : (dn ++ rm).Perm m) (q : rm.Perm (p :: rm')) : ((dn ++ [p]) ++ rm').Perm m := by
 refine List.Perm.trans ?_ h;rw [List.append_assoc];exact (List.Perm.append_left dn q).symm
theorem standAt_mem {x : Lexicon} {n : Nat} {d : Decision} : d ∈ standAt x n ↔ d ∈ x.decisions ∧ d.number = (n : Int) + 1 ∧ zcS x d = true := by
 simp only [standAt, List.mem_filter, standP, zcS, Bool.and_eq_true, decide_eq_true_eq]
def smallW (w : Str) : Bool := decide (w.length ≤ 40)
def ziy (l : List Str) : Bool := decide (l.length ≤ 15) && l.all smallW
def zgu (c : Chapter) : Bool := decide (c.lines.length ≤ 15) && c.lines.all ziy
def zfA (t : Text) : Bool := decide (t.chapters.length ≤ 10) && t.chapters.all zgu
def smallR (r : Rule) : Bool := decide (r.cut.length ≤ 100) && decide (r.put.length ≤ 100)
def smallD (d : Decision) : Bool := decide (d.form.length ≤ 100) && decide (d.to.stem.length ≤ 100)
def zfm (x : Lexicon) : Bool := decide (x.rules.length ≤ 20) && decide (x.decisions.length ≤ 25) && x.rules.all smallR && x.decisions.all smallD
theorem smallT_len {t : Text} (h : zfA t = true) : t.chapters.length ≤ 10 := by
 simp only [zfA, Bool.and_eq_true, decide_eq_true_eq] at h; exact h.1
theorem smallT_c {t : Text} (h : zfA t = true) {i : Nat} {c : Chapter} (hc : t.chapters[i]? = some c) : c.lines.length ≤ 15 := by
 simp only [zfA, Bool.and_eq_true, decide_eq_true_eq, List.all_eq_true] at h;have := h.2 c (List.mem_of_getElem? hc);simp only [zgu, Bool.and_eq_true, decide_eq_true_eq] at this; exact this.1
theorem smallT_l {t : Text} (h : zfA t = true) {i k : Nat} {c : Chapter} {l : List Str} (hc : t.chapters[i]? = some c) (hl : c.lines[k]? = some l) : l.length ≤ 15 := by
 simp only [zfA, Bool.and_eq_true, decide_eq_true_eq, List.all_eq_true] at h;have := h.2 c (List.mem_of_getElem? hc);simp only [zgu, Bool.and_eq_true, decide_eq_true_eq, List.all_eq_true] at this;have := this.2 l (List.mem_of_getElem? hl);simp only [ziy, Bool.and_eq_true, decide_eq_true_eq] at this; exact this.1
theorem smallX_len {x : Lexicon} (h : zfm x = true) : x.rules.length ≤ 20 ∧ x.decisions.length ≤ 25 := by
 simp only [zfm, Bool.and_eq_true, decide_eq_true_eq] at h; exact h.1.1
end Go.Pk

namespace Go.Pk
open Go Go.RowKit
def zdd (a b : Int) : Int := if a < b then -1 else if b < a then 1 else 0
def cmpL : List Int → List Int → Int
 | [], [] => 0
 | [], _ :: _ => -1
 | _ :: _, [] => 1
 | a :: az, b :: bs => if zdd a b ≠ 0 then zdd a b else cmpL az bs
def cmpS (a b : Str) : Int := Lib.compareBytes a b
def ordI (a b : Place) : Int := cmpL [a.chapter, a.line, a.word] [b.chapter, b.line, b.word]
def firstI (a b : Decision) : Int := if a.kind ≠ b.kind then a.kind - b.kind else if a.kind = 2 ∧ a.at_ ≠ b.at_ then ordI a.at_ b.at_ else a.number - b.number
def zdy (d : Decision) (p : Place) (w : Str) : Bool :=
 if d.kind = 1 then decide (d.form = w) else if d.kind = 2 then decide (d.form = w) && !zdo p d.at_ else if d.kind = 3 then decide (d.at_ = p) else false
def betterB (d e : Decision) : Bool := if d.kind ≠ e.kind then decide (d.kind > e.kind) else decide (d.kind ≠ 2) || !zdo d.at_ e.at_
def cmpHead (a b : Head) : Int := if cmpS a.stem b.stem ≠ 0 then cmpS a.stem b.stem else a.mark - b.mark
def sLt (a b : Str) : Bool := Op.bytesLess a b
def zjF (a b : Head) : Bool := sLt a.stem b.stem || (decide (a.stem = b.stem) && decide (a.mark < b.mark))
theorem cmpL_step {a b : List Int} {k : Nat} {x y : Int} (ha : a[k]? = some x) (hb : b[k]? = some y) : cmpL (a.drop k) (b.drop k) = if zdd x y ≠ 0 then zdd x y else cmpL (a.drop (k + 1)) (b.drop (k + 1)) := by
 rw [zhy ha, zhy hb]; rfl
theorem cmpL_nil_cons {a b : List Int} (ha : a = []) (hb : b ≠ []) : cmpL a b = -1 := by
 subst ha; cases b with
 | nil => exact absurd rfl hb
 | cons => rfl
theorem cmpL_cons_nil {a b : List Int} (hb : b = []) (ha : a ≠ []) : cmpL a b = 1 := by
 subst hb; cases a with
 | nil => exact absurd rfl ha
 | cons => rfl
theorem ordI_eq (a b : Place) : ordI a b = if zdd a.chapter b.chapter ≠ 0 then zdd a.chapter b.chapter else if zdd a.line b.line ≠ 0 then zdd a.line b.line else zdd a.word b.word := by
 simp only [ordI, cmpL]; repeat' split
 all_goals simp_all
theorem zif (a b : Place) : decide (ordI a b ≤ 0) = !zdo b a := by
 rw [ordI_eq]; simp only [zdd, zdo]
 by_cases h1 : a.chapter < b.chapter <;> by_cases h2 : b.chapter < a.chapter <;> by_cases h3 : a.line < b.line <;> by_cases h4 : b.line < a.line <;> by_cases h5 : a.word < b.word <;> by_cases h6 : b.word < a.word <;> simp [h1, h2, h3, h4, h5, h6] <;> (try omega) <;> (repeat' split) <;> simp <;> omega
theorem ordI_gt (a b : Place) : decide (ordI a b > 0) = zdo b a := by
 have h := zif a b;cases e : zdo b a <;> rw [e] at h <;> simp at h ⊢ <;> omega
theorem zgS {α : Type} {m : List α → Prop} (nil : m []) (snoc : ∀ l a, m l → m (l ++ [a])) (l : List α) : m l := by
 have h : ∀ r : List α, m r.reverse := by
  intro r
  induction r with
  | nil => exact nil
  | cons a r ih => rw [List.reverse_cons]; exact snoc _ _ ih
 have := h l.reverse;rwa [List.reverse_reverse] at this
def zhR (b d : Decision) : Decision := if b.number = 0 ∨ firstI d b > 0 then d else b
def zaM (l : List Decision) : Decision := l.foldl zhR zcr
theorem zgI (l : List Decision) (d : Decision) : zaM (l ++ [d]) = zhR (zaM l) d := by simp [zaM]
theorem bestOf_mem (l : List Decision) : zaM l = zcr ∨ zaM l ∈ l := by
 induction l using zgS with
 | nil => exact .inl rfl
 | snoc l d ih =>
  rw [zgI, zhR];split
  ·exact .inr (by simp)
  ·rcases ih with h | h
   ·exact .inl h
   ·exact .inr (by simp [h])
theorem best_ok {p : Decision → Prop} (hz : p zcr) {l : List Decision} (hp : ∀ y ∈ l, p y) : p (zaM l) := by
 rcases bestOf_mem l with h | h
 ·rw [h]; exact hz
 exact hp _ h
theorem bestOf_zero {l : List Decision} (hp : ∀ y ∈ l, 1 ≤ y.number) (h : (zaM l).number = 0) : zaM l = zcr := by
 rcases bestOf_mem l with h1 | h1
 ·exact h1
 have := hp _ h1; omega
theorem ziG {l : List Decision} (hp : ∀ y ∈ l, 1 ≤ y.number) (hl : l ≠ []) : 1 ≤ (zaM l).number ∧ zaM l ∈ l := by
 have key : zaM l ∈ l := by
  induction l using zgS with
  | nil => exact absurd rfl hl
  | snoc l d ih =>
   rw [zgI, zhR];split
   ·simp
   ·rename_i hn
    by_cases hl' : l = []
    ·subst hl'; exact absurd (.inl rfl) hn
    ·have := ih (fun y hy => hp y (by simp [hy])) hl';simp [this]
 exact ⟨hp _ key, key⟩
def lexD (a b : Decision) : Prop := a.kind < b.kind ∨ (a.kind = b.kind ∧ ((a.kind = 2 ∧ (a.at_.chapter < b.at_.chapter ∨ (a.at_.chapter = b.at_.chapter ∧ (a.at_.line < b.at_.line ∨ (a.at_.line = b.at_.line ∧ a.at_.word < b.at_.word))))) ∨ ((a.kind = 2 → a.at_ = b.at_) ∧ a.number < b.number)))
theorem firstI_lex {d e : Decision} : firstI d e > 0 ↔ lexD e d := by
 unfold firstI lexD
 by_cases hk : d.kind = e.kind
 ·have hk' : ¬ d.kind ≠ e.kind := by simp [hk]
  simp only [if_neg hk']
  by_cases h2 : d.kind = 2
  ·have h3 : e.kind = 2 := by omega
   by_cases ha : d.at_ = e.at_
   ·have q : ¬ (d.kind = 2 ∧ d.at_ ≠ e.at_) := by simp [ha]
    simp only [if_neg q, h3, h2, ha];simp
   ·have q : d.kind = 2 ∧ d.at_ ≠ e.at_ := ⟨h2, ha⟩;rw [if_pos q];simp only [h3, h2];have hg := ordI_gt d.at_ e.at_;have h5 : ordI d.at_ e.at_ > 0 ↔ zdo e.at_ d.at_ = true := by rw [← hg]; simp
    rw [h5];have ha' : ¬ e.at_ = d.at_ := fun q => ha q.symm;simp only [ha', Int.lt_irrefl, false_or, true_and, forall_const, false_and, or_false, zdo]
    by_cases q1 : e.at_.chapter = d.at_.chapter <;> by_cases q2 : e.at_.line = d.at_.line <;> simp_all
  ·have h3 : ¬ e.kind = 2 := by omega
   have q : ¬ (d.kind = 2 ∧ d.at_ ≠ e.at_) := by simp [h2]
   simp only [if_neg q, h3]; simp [hk]
 have hk' : d.kind ≠ e.kind := hk;simp only [if_pos hk']; omega
theorem lexD_trans {a b c : Decision} (h1 : lexD a b) (h2 : lexD b c) : lexD a c := by
 rcases a with ⟨n1, k1, f1, ⟨c1, l1, w1⟩, t1, o1⟩; rcases b with ⟨n2, k2, f2, ⟨c2, l2, w2⟩, t2, o2⟩; rcases c with ⟨n3, k3, f3, ⟨c3, l3, w3⟩, t3, o3⟩
 simp only [lexD, Place.mk.injEq] at *;omega
theorem lexD_total {a b : Decision} (h : a.number ≠ b.number) : lexD a b ∨ lexD b a := by
 rcases a with ⟨n1, k1, f1, ⟨c1, l1, w1⟩, t1, o1⟩; rcases b with ⟨n2, k2, f2, ⟨c2, l2, w2⟩, t2, o2⟩
 simp only [lexD, Place.mk.injEq] at *;omega
theorem lexD_irrefl (a : Decision) : ¬ lexD a a := by
 unfold lexD; omega
theorem bestOf_best {l : List Decision} (hp : ∀ y ∈ l, 1 ≤ y.number) (hn : (l.map (·.number)).Nodup) : ∀ y ∈ l, y ≠ zaM l → lexD y (zaM l) := by
 induction l using zgS with
 | nil => simp
 | snoc l d ih =>
  intro y hy hne;have hn' : (l.map (·.number)).Nodup := by rw [List.map_append] at hn; exact (List.nodup_append.1 hn).1
  have ih := ih (fun y hy => hp y (by simp [hy])) hn';have hd : ∀ z ∈ l, z.number ≠ d.number := by
   intro z hz e;rw [List.map_append] at hn;exact (List.nodup_append.1 hn).2.2 _ (List.mem_map_of_mem hz) _ (List.mem_map.2 ⟨d, by simp, rfl⟩) e
  rw [zgI] at hne ⊢;unfold zhR at hne ⊢;split at hne
  ·rename_i hc;rw [if_pos hc]
   rcases List.mem_append.1 hy with h | h
   ·by_cases hl : l = []
    ·subst hl; cases h
    ·have hb := ziG (fun y hy => hp y (by simp [hy])) hl;have h1 : lexD (zaM l) d := by
      rcases hc with h0 | h0
      ·omega
      ·exact firstI_lex.1 h0
     by_cases e : y = zaM l
     ·rw [e]; exact h1
     ·exact lexD_trans (ih y h e) h1
   ·simp at h; exact absurd h hne
  ·rename_i hc;rw [if_neg hc];have hc' : ¬ (zaM l).number = 0 ∧ ¬ lexD (zaM l) d := ⟨fun h => hc (.inl h), fun h => hc (.inr (firstI_lex.2 h))⟩
   rcases List.mem_append.1 hy with h | h
   ·exact ih y h hne
   ·simp at h; subst h
    by_cases hl : l = []
    ·subst hl; exact absurd rfl hc'.1
    ·have hb := ziG (fun y hy => hp y (by simp [hy])) hl
     rcases lexD_total (hd _ hb.2) with h1 | h1
     ·exact absurd h1 hc'.2
     ·exact h1
theorem bestOf_perm {xs ys : List Decision} (h : xs.Perm ys) (hp : ∀ y ∈ ys, 1 ≤ y.number) (hn : (ys.map (·.number)).Nodup) : zaM xs = zaM ys := by
 by_cases hy : ys = []
 ·subst hy; rw [h.eq_nil]
 have hx : xs ≠ [] := fun e => hy (by subst e; exact h.symm.eq_nil);have hp' : ∀ y ∈ xs, 1 ≤ y.number := fun y hy => hp y (h.mem_iff.1 hy);have hn' : (xs.map (·.number)).Nodup := (h.map _).nodup_iff.2 hn;have h1 := (ziG hp' hx).2;have h2 := (ziG hp hy).2
 by_cases e : zaM xs = zaM ys
 ·exact e
 have a := bestOf_best hp hn _ (h.mem_iff.1 h1) e;have b := bestOf_best hp' hn' _ (h.mem_iff.2 h2) (Ne.symm e);exact absurd (lexD_trans a b) (lexD_irrefl _)
def zbd (t : Text) (p : Place) : Str := (zhn t p).getD []
def conD (x : Lexicon) (p : Place) (wd : Str) : List Decision := ((zeR x).map (·.2)).filter fun d => zdy d p wd
def zcn (x : Lexicon) (p : Place) (wd : Str) : Decision :=
 if (zaM (conD x p wd)).number = 0 then { zcr with to := ⟨((zdm x.rules 4 wd).getLast?).getD [], 0⟩ } else zaM (conD x p wd)
def OkO (o : Office) : Prop := zaG o.text o.lex = 0 ∧ o.stands = zeR o.lex
theorem place_at {t : Text} {p : Place} (h : zbu t p = true) : ∃ c ln wd, 0 ≤ p.chapter ∧ t.chapters[p.chapter.toNat]? = some c ∧ 0 ≤ p.line ∧ c.lines[p.line.toNat]? = some ln ∧ 0 ≤ p.word ∧ ln[p.word.toNat]? = some wd ∧ zbd t p = wd := by
 unfold zbu at h;unfold zbd;unfold zhn zde at *;split at h
 ·rename_i h1;split at h
  ·rename_i h2;cases hc : t.chapters[p.chapter.toNat]? with
   | none => simp [hc] at h
   | some c =>
    simp only [hc, Option.bind_some] at h;cases hl : c.lines[p.line.toNat]? with
    | none => simp [hl] at h
    | some ln =>
     simp only [hl, Option.bind_some] at h;cases hw : ln[p.word.toNat]? with
     | none => simp [hw] at h
     | some wd => exact ⟨c, ln, wd, h2.1, rfl, h2.2, hl, h1, hw, by simp [if_pos h1, if_pos h2, hc, hl, hw]⟩
  ·simp at h
 simp at h
theorem okO_d {o : Office} (h : OkO o) : OkD o.lex := zgh h.1
theorem standM_ok {t : Text} {x : Lexicon} (h : zaG t x = 0) {q : Int × Decision} (hq : q ∈ zeR x) : zan t q.2 = true ∧ 1 ≤ q.2.number ∧ q.2.number ≤ 999 ∧ 1 ≤ q.2.kind ∧ q.2.kind ≤ 4 := by
 have h1 := (standM_mem hq).1;have h2 : zcu t x = true := by
  unfold zaG at h;split at h
  ·cases h
  ·split at h
   ·cases h
   ·rename_i h3; simpa using h3
 simp only [zcu, Bool.and_eq_true, List.all_eq_true] at h2;have h3 := h2.1.2 _ h1;have h4 := (zgh h).2 _ h1;refine ⟨h3, h4.1, h4.2.1, ?_⟩;unfold zan at h3;simp only [Bool.and_eq_true] at h3;have h5 := h3.2;split at h5
 ·omega
 split at h5
 ·omega
 split at h5
 ·omega
 split at h5
 ·omega
 cases h5
theorem standM_nodupD {x : Lexicon} (h : OkD x) : (((zeR x).map (·.2)).map (·.number)).Nodup := by
 have := zjG h (zcS x);simpa [zeR, zgd, List.map_map, Function.comp_def] using this
theorem wordD_len {t : Text} {p : Place} (ht : zbm t = true) (hp : zbu t p = true) : (zbd t p).length ≤ 12 := by
 obtain ⟨c, ln, wd, _, hc, _, hl, _, hw, e⟩ := place_at hp;rw [e];simp only [zbm, Bool.and_eq_true, List.all_eq_true] at ht;have h1 := ht.1.2 _ (List.mem_of_getElem? hc);simp only [zbN, Bool.and_eq_true, List.all_eq_true] at h1;have h2 := h1.2 _ (List.mem_of_getElem? hl);simp only [zgE, Bool.and_eq_true, List.all_eq_true] at h2;exact ziv (h2.2 _ (List.mem_of_getElem? hw))
theorem zcY {t : Text} {x : Lexicon} (h : zaG t x = 0) : zbm t = true := by
 unfold zaG at h;split at h
 ·cases h
 rename_i h1; simpa using h1
theorem conD_perm {x : Lexicon} {p : Place} {wd : Str} {dn : List (Int × Decision)} (h : OkD x) (hd : dn.Perm (zeR x)) : zaM ((dn.map (·.2)).filter fun d => zdy d p wd) = zaM (conD x p wd) := by
 refine bestOf_perm ((hd.map _).filter _) ?_ ?_
 ·intro y hy;obtain ⟨q, hq, rfl⟩ := List.mem_map.1 (List.mem_filter.1 hy).1;exact (h.2 _ (standM_mem hq).1).1
 exact (List.filter_sublist.map _).nodup (standM_nodupD h)
theorem stepsN_ne (rs : List Rule) (n : Nat) (w : Str) : zdm rs n w ≠ [] := by
 cases n with
 | zero => simp [zdm]
 | succ n => simp only [zdm]; split <;> simp
end Go.Pk

namespace Go.Pk
open Go Go.RowKit
def ziS (t : Text) (k : Nat) : List (List Str) := ((t.chapters[k]?).map (·.lines)).getD []
def wordsAt (t : Text) (k n : Nat) : List Str := ((ziS t k)[n]?).getD []
def mkP (k n w : Nat) : Place := ⟨k, n, w⟩
def lineP (t : Text) (k n : Nat) : List Place := (List.range (wordsAt t k n).length).map (mkP k n)
def chapP (t : Text) (k : Nat) : List Place := (List.range (ziS t k).length).flatMap (lineP t k)
def zdS (t : Text) : List Place := (List.range t.chapters.length).flatMap (chapP t)
theorem zdM {t : Text} {k : Nat} {c : Chapter} (h : t.chapters[k]? = some c) : ziS t k = c.lines := by simp [ziS, h]
theorem zea {t : Text} {k n : Nat} {c : Chapter} {ln : List Str} (h : t.chapters[k]? = some c) (h2 : c.lines[n]? = some ln) : wordsAt t k n = ln := by simp [wordsAt, zdM h, h2]
theorem zdP {α : Type} {f : Nat → List α} {c : Nat} (h : ∀ k, (f k).length ≤ c) (n : Nat) : ((List.range n).flatMap f).length ≤ c * n := by
 induction n with
 | zero => simp
 | succ n ih =>
  rw [List.range_succ, List.flatMap_append, List.length_append];have := h n;simp only [List.flatMap_cons, List.flatMap_nil, List.append_nil];rw [Nat.mul_succ]; omega
theorem zfw {t : Text} (ht : zbm t = true) (k n : Nat) : (wordsAt t k n).length ≤ 10 := by
 unfold wordsAt ziS;simp only [zbm, Bool.and_eq_true, List.all_eq_true] at ht;cases hc : t.chapters[k]? with
 | none => simp
 | some c =>
  have h1 := ht.1.2 _ (List.mem_of_getElem? hc);simp only [zbN, Bool.and_eq_true, List.all_eq_true] at h1;simp only [Option.map_some, Option.getD_some];cases hl : c.lines[n]? with
  | none => simp
  | some ln =>
   have h2 := h1.2 _ (List.mem_of_getElem? hl);simp only [zgE, Bool.and_eq_true, inB, decide_eq_true_eq] at h2;simp only [Option.getD_some]; omega
theorem zfC {t : Text} (ht : zbm t = true) (k : Nat) : (ziS t k).length ≤ 10 := by
 unfold ziS;simp only [zbm, Bool.and_eq_true, List.all_eq_true] at ht;cases hc : t.chapters[k]? with
 | none => simp
 | some c =>
  have h1 := ht.1.2 _ (List.mem_of_getElem? hc);simp only [zbN, Bool.and_eq_true, inB, decide_eq_true_eq] at h1;simp only [Option.map_some, Option.getD_some]; omega
theorem zev {t : Text} (ht : zbm t = true) : t.chapters.length ≤ 6 := by
 simp only [zbm, Bool.and_eq_true, inB, decide_eq_true_eq] at ht; omega
theorem zjm {t : Text} (ht : zbm t = true) (k n : Nat) : (lineP t k n).length ≤ 10 := by
 rw [lineP, List.length_map, List.length_range]; exact zfw ht k n
theorem zis {t : Text} (ht : zbm t = true) (k : Nat) : (chapP t k).length ≤ 100 := by
 have h1 := zdP (zjm ht k) (ziS t k).length;have h2 := zfC ht k;rw [chapP]; omega
theorem places_len {t : Text} (ht : zbm t = true) : (zdS t).length ≤ 600 := by
 have h1 := zdP (zis ht) t.chapters.length;have h2 := zev ht;rw [zdS]; omega
theorem place_mk {t : Text} {k n w : Nat} {c : Chapter} {ln : List Str} (hc : t.chapters[k]? = some c) (hl : c.lines[n]? = some ln) (hw : w < ln.length) : zbu t (mkP k n w) = true := by
 have h0 : ln[w]? = some ln[w] := List.getElem?_eq_getElem hw;simp [zbu, zhn, zde, mkP, hc, hl, h0]
theorem word_mk {t : Text} {k n w : Nat} {c : Chapter} {ln : List Str} {s : Str} (hc : t.chapters[k]? = some c) (hl : c.lines[n]? = some ln) (hw : ln[w]? = some s) : zbd t (mkP k n w) = s := by
 simp [zbd, zhn, zde, mkP, hc, hl, hw]
theorem lineP_snoc {t : Text} {k n : Nat} {c : Chapter} {ln : List Str} (hc : t.chapters[k]? = some c) (hl : c.lines[n]? = some ln) {w : Nat} (hw : w = ln.length) : (List.range w).map (mkP k n) = lineP t k n := by
 rw [lineP, zea hc hl, hw]
theorem chapP_snoc {t : Text} {k : Nat} {c : Chapter} (hc : t.chapters[k]? = some c) {n : Nat} (hn : n = c.lines.length) : (List.range n).flatMap (lineP t k) = chapP t k := by
 rw [chapP, zdM hc, hn]
theorem zgr {α : Type} (f : Nat → List α) (n : Nat) : (List.range (n + 1)).flatMap f = (List.range n).flatMap f ++ f n := by
 rw [List.range_succ, List.flatMap_append]; simp
theorem placesT_mem {t : Text} {p : Place} (h : p ∈ zdS t) : zbu t p = true := by
 obtain ⟨k, hk, h⟩ := List.mem_flatMap.1 h;obtain ⟨n, hn, h⟩ := List.mem_flatMap.1 h;obtain ⟨w, hw, rfl⟩ := List.mem_map.1 h;have hk' := List.mem_range.1 hk;have hc : t.chapters[k]? = some t.chapters[k] := List.getElem?_eq_getElem hk';rw [zdM hc] at hn;have hn' := List.mem_range.1 hn;have hl : t.chapters[k].lines[n]? = some t.chapters[k].lines[n] := List.getElem?_eq_getElem hn';rw [zea hc hl] at hw;exact place_mk hc hl (List.mem_range.1 hw)
def zfE (t : Text) (x : Lexicon) (p : Place) : Head := (zcn x p (zbd t p)).to
def zfQ (t : Text) (x : Lexicon) (p : Place) : Entry := ⟨p, zbd t p, zfE t x p⟩
def zbv (t : Text) (x : Lexicon) : List Entry := (zdS t).map (zfQ t x)
def headsL (t : Text) (x : Lexicon) : List Head := (zdS t).map (zfE t x)
def headR0 (x : Lexicon) (wd : Str) : Decision := { zcr with to := ⟨((zdm x.rules 4 wd).getLast?).getD [], 0⟩ }
def stepR (p : Place) (wd : Str) (b d : Decision) : Decision := if zdy d p wd = true ∧ (b.number = 0 ∨ betterB d b = true) then d else b
def headR (x : Lexicon) (l : List Decision) (p : Place) (wd : Str) : Decision := l.foldl (stepR p wd) (headR0 x wd)
theorem nodup_of_map {α β : Type} (f : α → β) {l : List α} (h : (l.map f).Nodup) : l.Nodup := (List.pairwise_map.1 h).imp (fun h e => h (by rw [e]))
def zfK (t : Text) (x : Lexicon) (p : Place) : Decision := if zaG t x = 0 ∧ zbu t p = true then zcn x p (zbd t p) else zcr
def askE (t : Text) (x : Lexicon) (p : Place) : Int := if zaG t x = 0 then (if zbu t p = true then 0 else 12) else zaG t x
theorem stepsN_mem_len {rs : List Rule} : ∀ (n : Nat) (w : Str), w.length ≤ 12 → ∀ s ∈ zdm rs n w, s.length ≤ 12
 | 0, w, h, s, hs => by simp [zdm] at hs; subst hs; exact h
 | n + 1, w, h, s, hs => by
  simp only [zdm] at hs;split at hs
  ·simp at hs; subst hs; exact h
  ·rename_i u hu
   rcases List.mem_cons.1 hs with rfl | hs
   ·exact h
   ·obtain ⟨r, _, hr⟩ := List.exists_of_findSome?_eq_some hu;exact stepsN_mem_len n u (made_len hr) s hs
theorem head_of_valid {h : Head} (hv : zdY h = true) : h.stem.length ≤ 12 ∧ 0 ≤ h.mark ∧ h.mark ≤ 3 := by
 simp only [zdY, Bool.and_eq_true, inB, decide_eq_true_eq] at hv;exact ⟨ziv hv.1, hv.2.1, hv.2.2⟩
theorem dec_head {t : Text} {d : Decision} {p : Place} {wd : Str} (h : zan t d = true) (hc : zdy d p wd = true) : zdY d.to = true := by
 simp only [zan, Bool.and_eq_true] at h;have h := h.2;unfold zdy at hc
 by_cases k1 : d.kind = 1
 ·simp only [k1, if_true, Bool.and_eq_true] at h; exact h.1.2
 by_cases k2 : d.kind = 2
 ·simp [k2] at h; exact h.1.2
 by_cases k3 : d.kind = 3
 ·simp [k3] at h; exact h.1.2
 simp [k1, k2, k3] at hc
theorem winD_ok {t : Text} {x : Lexicon} {p : Place} (hx : zaG t x = 0) (hp : zbu t p = true) : (zcn x p (zbd t p)).to.stem.length ≤ 12 ∧ 0 ≤ (zcn x p (zbd t p)).to.mark ∧ (zcn x p (zbd t p)).to.mark ≤ 3 := by
 unfold zcn;split
 ·refine ⟨?_, by simp, by simp⟩;have hw := wordD_len (zcY hx) hp;cases e : (zdm x.rules 4 (zbd t p)).getLast? with
  | none => simp
  | some s => exact stepsN_mem_len 4 _ hw s (List.mem_of_getLast? e)
 rename_i h0
 rcases bestOf_mem (conD x p (zbd t p)) with h | h
 ·rw [h] at h0; exact absurd rfl h0
 obtain ⟨h1, h2⟩ := List.mem_filter.1 h;obtain ⟨q, hq, e⟩ := List.mem_map.1 h1;have h3 := (standM_ok hx hq).1;rw [e] at h3;exact head_of_valid (dec_head h3 h2)
end Go.Pk

namespace Go.Pk
open Go Go.RowKit
section
variable {α : Type}
structure DelF (q : α → Bool) (s ys : List α) (i j : Nat) : Prop where
 len : ys.length = s.length
 le : i ≤ j
 le2 : j ≤ s.length
 head : ys.take i = (s.take j).filter fun x => !q x
 tail : ys.drop j = s.drop j
theorem DelF.get {q : α → Bool} {s ys : List α} {i j : Nat} (d : DelF q s ys i j) {y : α} (h : ys[j]? = some y) : s[j]? = some y := by
 have h1 := congrArg (fun l : List α => l[0]?) d.tail;simp only [List.getElem?_drop, Nat.add_zero] at h1;rw [← h1]; exact h
theorem DelF.start {q : α → Bool} {s : List α} {k : Nat} (h1 : ∀ j x, j < k → s[j]? = some x → q x = false) (h2 : ∀ x, s[k]? = some x → q x = true) (hk : k < s.length) : DelF q s s k (k + 1) := by
 refine ⟨rfl, by omega, by omega, ?_, rfl⟩;have hx : s[k]? = some s[k] := List.getElem?_eq_getElem hk;rw [zbg hx, List.filter_append];have e1 : (s.take k).filter (fun x => !q x) = s.take k := by
  rw [List.filter_eq_self];intro x hx;obtain ⟨j, hj⟩ := List.mem_iff_getElem?.1 hx;rw [List.getElem?_take] at hj;split at hj
  ·rename_i hjk; simp [h1 j x hjk hj]
  ·cases hj
 simp [e1, h2 _ hx]
theorem DelF.keep {q : α → Bool} {s ys : List α} {i j : Nat} (d : DelF q s ys i j) {y : α} (h : ys[j]? = some y) (hq : q y = false) : DelF q s (ys.set i y) (i + 1) (j + 1) := by
 obtain ⟨h1, _⟩ := List.getElem?_eq_some_iff.1 h;have hl := d.len; have hle := d.le;refine ⟨by rw [List.length_set]; exact d.len, by omega, by omega, ?_, ?_⟩
 ·rw [zbg (d.get h), List.filter_append, ← d.head];have e : (ys.set i y)[i]? = some y := by rw [List.getElem?_set]; simp; omega
  rw [zbg e, List.take_set_of_le (Nat.le_refl i)];simp [hq]
 rw [List.drop_set_of_lt zr];have := congrArg (List.drop 1) d.tail;simpa [List.drop_drop] using this
theorem DelF.skip {q : α → Bool} {s ys : List α} {i j : Nat} (d : DelF q s ys i j) {y : α} (h : ys[j]? = some y) (hq : q y = true) : DelF q s ys i (j + 1) := by
 obtain ⟨h1, _⟩ := List.getElem?_eq_some_iff.1 h;have hl := d.len; have hle := d.le;refine ⟨d.len, by omega, by omega, ?_, ?_⟩
 ·rw [zbg (d.get h), List.filter_append, ← d.head];simp [hq]
 have := congrArg (List.drop 1) d.tail;simpa [List.drop_drop] using this
theorem DelF.fin {q : α → Bool} {s ys : List α} {i j : Nat} (d : DelF q s ys i j) (h : s.length ≤ j) : ys.take i = s.filter fun x => !q x := by
 rw [d.head, List.take_of_length_le h]
theorem filter_none {q : α → Bool} {s : List α} (h : ∀ j x, j < s.length → s[j]? = some x → q x = false) : (s.filter fun x => !q x) = s := by
 rw [List.filter_eq_self];intro x hx;obtain ⟨j, hj⟩ := List.mem_iff_getElem?.1 hx;obtain ⟨h1, _⟩ := List.getElem?_eq_some_iff.1 hj;simp [h j x h1 hj]
variable [DecidableEq α]
def zhP (acc : List α) (x : α) : List α := if acc.getLast? = some x then acc else acc ++ [x]
def zcy (l : List α) : List α := l.foldl zhP []
theorem zhH (l : List α) (x : α) : zcy (l ++ [x]) = zhP (zcy l) x := by simp [zcy]
theorem compactL_last (l : List α) : (zcy l).getLast? = l.getLast? := by
 induction l using zgS with
 | nil => rfl
 | snoc l d ih =>
  rw [zhH, zhP];split
  ·rename_i h; rw [h]; simp
  ·simp
theorem zhG {s : List α} {k : Nat} {y z : α} (hz : s[k]? = some z) (hy : s[k + 1]? = some y) : zcy (s.take (k + 2)) = if z = y then zcy (s.take (k + 1)) else zcy (s.take (k + 1)) ++ [y] := by
 have e : (s.take (k + 1)).getLast? = some z := by rw [zbg hz]; simp
 rw [zbg hy, zhH, zhP, compactL_last, e];simp only [Option.some.injEq]
theorem comp_more {s : List α} {k : Nat} {y z : α} (hz : s[k - 1]? = some z) (hy : s[k]? = some y) (hk : 1 ≤ k) (h : zcy (s.take k) = s.take k) (hne : ¬ y = z) : zcy (s.take (k + 1)) = s.take (k + 1) := by
 obtain ⟨m, rfl⟩ : ∃ m, k = m + 1 := ⟨k - 1, by omega⟩;rw [Nat.add_sub_cancel] at hz;rw [show m + 1 + 1 = m + 2 from rfl, zhG hz hy, if_neg (fun e => hne e.symm), h, ← zbg hy]
theorem comp_one {s : List α} (h : 1 ≤ s.length) : zcy (s.take 1) = s.take 1 := by
 cases s with
 | nil => simp at h
 | cons a s => simp [zcy, zhP]
theorem comp_short {s : List α} (h : s.length < 2) : zcy s = s := by
 match s, h with
 | [], _ => rfl
 | [a], _ => simp [zcy, zhP]
structure Comp (s ys : List α) (i j : Nat) : Prop where
 len : ys.length = s.length
 le : i + 1 ≤ j
 le2 : j ≤ s.length
 head : ys.take i = zcy (s.take j)
 tail : ys.drop (j - 1) = s.drop (j - 1)
theorem Comp.start {s : List α} {k : Nat} {y z : α} (hz : s[k - 1]? = some z) (hy : s[k]? = some y) (hk : 1 ≤ k) (h : zcy (s.take k) = s.take k) (he : y = z) : Comp s s k (k + 1) := by
 obtain ⟨h1, _⟩ := List.getElem?_eq_some_iff.1 hy;refine ⟨rfl, Nat.le_refl _, by omega, ?_, rfl⟩;obtain ⟨m, rfl⟩ : ∃ m, k = m + 1 := ⟨k - 1, by omega⟩;rw [Nat.add_sub_cancel] at hz;rw [show m + 1 + 1 = m + 2 from rfl, zhG hz hy, if_pos he.symm, h]
theorem Comp.get {s ys : List α} {i j : Nat} (d : Comp s ys i j) {y : α} {n : Nat} (hn : j - 1 ≤ n) (h : ys[n]? = some y) : s[n]? = some y := by
 have h1 := congrArg (fun l : List α => l[n - (j - 1)]?) d.tail;simp only [List.getElem?_drop] at h1;rw [show j - 1 + (n - (j - 1)) = n by omega] at h1;rw [← h1]; exact h
theorem Comp.keep {s ys : List α} {i j : Nat} (d : Comp s ys i j) {y z : α} (h : ys[j]? = some y) (hz : ys[j - 1]? = some z) (hne : ¬ y = z) : Comp s (ys.set i y) (i + 1) (j + 1) := by
 obtain ⟨h1, _⟩ := List.getElem?_eq_some_iff.1 h;have hl := d.len; have hle := d.le; have hle2 := d.le2;have g1 := d.get zr h;have g2 := d.get (Nat.le_refl _) hz;refine ⟨by rw [List.length_set]; exact d.len, by omega, by omega, ?_, ?_⟩
 ·obtain ⟨m, rfl⟩ : ∃ m, j = m + 1 := ⟨j - 1, by omega⟩;rw [Nat.add_sub_cancel] at g2;rw [show m + 1 + 1 = m + 2 from rfl, zhG g2 g1, if_neg (fun e => hne e.symm), ← d.head];have e : (ys.set i y)[i]? = some y := by rw [List.getElem?_set]; simp; omega
  rw [zbg e, List.take_set_of_le (Nat.le_refl i)]
 rw [Nat.add_sub_cancel, List.drop_set_of_lt zr];have := congrArg (List.drop 1) d.tail;rw [List.drop_drop, List.drop_drop, show j - 1 + 1 = j by omega] at this;exact this
theorem Comp.skip {s ys : List α} {i j : Nat} (d : Comp s ys i j) {y z : α} (h : ys[j]? = some y) (hz : ys[j - 1]? = some z) (he : y = z) : Comp s ys i (j + 1) := by
 obtain ⟨h1, _⟩ := List.getElem?_eq_some_iff.1 h;have hl := d.len; have hle := d.le; have hle2 := d.le2;have g1 := d.get zr h;have g2 := d.get (Nat.le_refl _) hz;refine ⟨d.len, by omega, by omega, ?_, ?_⟩
 ·obtain ⟨m, rfl⟩ : ∃ m, j = m + 1 := ⟨j - 1, by omega⟩;rw [Nat.add_sub_cancel] at g2;rw [show m + 1 + 1 = m + 2 from rfl, zhG g2 g1, if_pos he.symm, ← d.head]
 have := congrArg (List.drop 1) d.tail;rw [List.drop_drop, List.drop_drop, show j - 1 + 1 = j by omega] at this;rw [Nat.add_sub_cancel]; exact this
theorem Comp.fin {s ys : List α} {i j : Nat} (d : Comp s ys i j) (h : s.length ≤ j) : ys.take i = zcy s := by
 rw [d.head, List.take_of_length_le h]
end
end Go.Pk

namespace Go.Pk
open Go Go.RowKit
section
variable {α : Type} [DecidableEq α]
structure TLt (lt : α → α → Bool) : Prop where
 irrefl : ∀ a, lt a a = false
 trans : ∀ a b c, lt a b = true → lt b c = true → lt a c = true
 total : ∀ a b, a ≠ b → lt a b = true ∨ lt b a = true
def insBy (lt : α → α → Bool) (l : List α) (x : α) : List α := if (l.dropWhile fun a => lt a x).head? = some x then l else (l.takeWhile fun a => lt a x) ++ [x] ++ (l.dropWhile fun a => lt a x)
def setL (lt : α → α → Bool) (l : List α) : List α := l.foldl (insBy lt) []
variable {lt : α → α → Bool}
theorem setL_snoc (l : List α) (x : α) : setL lt (l ++ [x]) = insBy lt (setL lt l) x := by simp [setL]
omit [DecidableEq α] in
theorem TLt.asymm (T : TLt lt) {a b : α} (h : lt a b = true) : lt b a = false := by
 cases e : lt b a with
 | false => rfl
 | true => have := T.trans _ _ _ h e; rw [T.irrefl] at this; cases this
theorem insBy_mem {l : List α} {x y : α} : y ∈ insBy lt l x ↔ y ∈ l ∨ y = x := by
 unfold insBy;split
 ·rename_i h;have : x ∈ l.dropWhile fun a => lt a x := List.mem_of_mem_head? h;have hx : x ∈ l := (List.dropWhile_sublist _).subset this;constructor
  ·exact .inl
  ·rintro (h | rfl)
   ·exact h
   ·exact hx
 have e : l = (l.takeWhile fun a => lt a x) ++ (l.dropWhile fun a => lt a x) := (List.takeWhile_append_dropWhile).symm;have : y ∈ l ↔ y ∈ (l.takeWhile fun a => lt a x) ∨ y ∈ (l.dropWhile fun a => lt a x) := by
  rw [← List.mem_append, ← e]
 rw [this];simp only [List.mem_append, List.mem_singleton];constructor
 ·rintro ((h | h) | h)
  ·exact .inl (.inl h)
  ·exact .inr h
  ·exact .inl (.inr h)
 rintro ((h | h) | h)
 ·exact .inl (.inl h)
 ·exact .inr h
 exact .inl (.inr h)
theorem insBy_sorted (T : TLt lt) {l : List α} {x : α} (hs : l.Pairwise fun a b => lt a b = true) : (insBy lt l x).Pairwise fun a b => lt a b = true := by
 unfold insBy;split
 ·exact hs
 rename_i hne;have e : l = (l.takeWhile fun a => lt a x) ++ (l.dropWhile fun a => lt a x) := (List.takeWhile_append_dropWhile).symm;have hs' := hs;rw [e] at hs';obtain ⟨s1, s2, s3⟩ := List.pairwise_append.1 hs';have ht : ∀ a ∈ l.takeWhile (fun a => lt a x), lt a x = true := by
  intro a ha;have := List.all_takeWhile (l := l) (p := fun a => lt a x);exact List.all_eq_true.1 this a ha
 have hd : ∀ b ∈ l.dropWhile (fun a => lt a x), lt x b = true := by
  cases hD : l.dropWhile (fun a => lt a x) with
  | nil => simp
  | cons c D =>
   have hc : ¬ lt c x = true := by
    have := List.head?_dropWhile_not (fun a => lt a x) l;rw [hD] at this; simpa using this
   have hcx : c ≠ x := by
    intro q; rw [hD, q] at hne; exact hne rfl
   have h1 : lt x c = true := (T.total x c (Ne.symm hcx)).resolve_right hc;intro b hb
   rcases List.mem_cons.1 hb with rfl | hb
   ·exact h1
   ·rw [hD] at s2;exact T.trans _ _ _ h1 ((List.pairwise_cons.1 s2).1 b hb)
 rw [List.append_assoc];refine List.pairwise_append.2 ⟨s1, List.pairwise_append.2 ⟨by simp, s2, ?_⟩, ?_⟩
 ·intro a ha b hb;simp at ha; subst ha;exact hd b hb
 intro a ha b hb
 rcases List.mem_append.1 hb with hb | hb
 ·simp at hb; subst hb; exact ht a ha
 exact s3 a ha b hb
theorem setL_sorted (T : TLt lt) (l : List α) : (setL lt l).Pairwise fun a b => lt a b = true := by
 induction l using zgS with
 | nil => exact List.Pairwise.nil
 | snoc l d ih => rw [setL_snoc]; exact insBy_sorted T ih
theorem setL_mem {l : List α} {y : α} : y ∈ setL lt l ↔ y ∈ l := by
 induction l using zgS with
 | nil => simp [setL]
 | snoc l d ih => rw [setL_snoc, insBy_mem, ih]; simp
omit [DecidableEq α] in
theorem strict_eq (T : TLt lt) {a b : List α} (ha : a.Pairwise fun x y => lt x y = true) (hb : b.Pairwise fun x y => lt x y = true) (h : ∀ x, x ∈ a ↔ x ∈ b) : a = b := by
 have na : a.Nodup := ha.imp (fun h e => by subst e; rw [T.irrefl] at h; cases h);have nb : b.Nodup := hb.imp (fun h e => by subst e; rw [T.irrefl] at h; cases h);refine List.Perm.eq_of_pairwise (le := fun x y => lt x y = true) (fun x y _ _ h1 h2 => by have := T.asymm h1; rw [h2] at this; cases this) ha hb ((List.perm_ext_iff_of_nodup na nb).2 h)
theorem setL_len (T : TLt lt) (l : List α) : (setL lt l).length ≤ l.length := by
 induction l using zgS with
 | nil => simp [setL]
 | snoc l d ih =>
  rw [setL_snoc, insBy];split
  ·simp; omega
  ·have e := congrArg List.length (List.takeWhile_append_dropWhile (p := fun a => lt a d) (l := setL lt l));simp only [List.length_append] at e ⊢;simp only [List.length_cons, List.length_nil]; omega
theorem compactL_mem {l : List α} : ∀ {y : α}, y ∈ zcy l ↔ y ∈ l := by
 induction l using zgS with
 | nil => simp [zcy]
 | snoc l d ih =>
  intro y;rw [zhH, zhP];split
  ·rename_i h;rw [ih];have : d ∈ zcy l := List.mem_of_getLast? h;rw [ih] at this;constructor
   ·intro h; simp [h]
   ·intro h
    rcases List.mem_append.1 h with h | h
    ·exact h
    ·simp at h; subst h; exact this
  ·simp [ih]
theorem compactL_sorted (T : TLt lt) {l : List α} (hs : l.Pairwise fun a b => lt b a = false) : (zcy l).Pairwise fun a b => lt a b = true := by
 induction l using zgS with
 | nil => exact List.Pairwise.nil
 | snoc l d ih =>
  obtain ⟨s1, _, s3⟩ := List.pairwise_append.1 hs;rw [zhH, zhP];split
  ·exact ih s1
  ·rename_i hne;refine List.pairwise_append.2 ⟨ih s1, by simp, fun a ha b hb => ?_⟩;simp at hb; subst hb;have hal : a ∈ l := compactL_mem.1 ha;have h1 := s3 a hal b (by simp)
   by_cases e : a = b
   ·exfalso;subst e;rw [compactL_last] at hne;cases hL : l.getLast? with
    | none => rw [List.getLast?_eq_none_iff] at hL; subst hL; cases hal
    | some z =>
     rw [hL] at hne;have hz : z ∈ l := List.mem_of_getLast? hL;have h2 := s3 z hz a (by simp)
     -- a comes ahead of z, or is it
     have h3 : lt z a = false := by
      obtain ⟨i, hi⟩ := List.mem_iff_getElem?.1 hal;rw [List.getLast?_eq_getElem?] at hL;obtain ⟨i1, i2⟩ := List.getElem?_eq_some_iff.1 hi;obtain ⟨z1, z2⟩ := List.getElem?_eq_some_iff.1 hL
      rcases Nat.lt_or_ge i (l.length - 1) with h | h
      ·have := List.pairwise_iff_getElem.1 s1 i (l.length - 1) i1 z1 h;rw [i2, z2] at this; exact this
      ·have : i = l.length - 1 := by omega
       subst this;rw [i2] at z2; subst z2; exact T.irrefl _
     by_cases e2 : z = a
     ·exact hne (by rw [e2])
     ·rcases T.total z a e2 with q | q
      ·rw [q] at h3; cases h3
      ·rw [q] at h2; cases h2
   ·rcases T.total a b e with q | q
    ·exact q
    ·rw [q] at h1; cases h1
theorem setOf_compact (T : TLt lt) {xs ys : List α} (hp : ys.Perm xs) (hs : ys.Pairwise fun a b => lt b a = false) : zcy ys = setL lt xs :=
 strict_eq T (compactL_sorted T hs) (setL_sorted T xs) (fun x => by rw [compactL_mem, setL_mem]; exact hp.mem_iff)
end
theorem sLt_eq (a b : Str) : sLt a b = decide (a < b) := Go.Proofs.bytesLess_eq a b
theorem sLt_T : TLt sLt := by
 refine ⟨fun a => ?_, fun a b c => ?_, fun a b h => ?_⟩
 ·rw [sLt_eq]; simp [List.lt_irrefl]
 ·rw [sLt_eq, sLt_eq, sLt_eq]; simp only [decide_eq_true_eq]; exact fun h1 h2 => List.lt_trans h1 h2
 rw [sLt_eq, sLt_eq]; simp only [decide_eq_true_eq]
 by_cases h1 : a < b
 ·exact .inl h1
 by_cases h2 : b < a
 ·exact .inr h2
 exact absurd (List.le_antisymm (List.not_lt.1 h2) (List.not_lt.1 h1)) h
def headsN (t : Text) (x : Lexicon) : List Head := if zaG t x = 0 then setL zjF (headsL t x) else []
def zdw (t : Text) (x : Lexicon) (hd : Head) : List Place := (zdS t).filter fun p => decide (zfE t x p = hd)
def zfx (t : Text) (x : Lexicon) (hd : Head) : Int := if zaG t x = 0 then (if zdY hd = true then (if zdw t x hd = [] then 6 else 0) else 2) else zaG t x
def underR (t : Text) (x : Lexicon) (hd : Head) : List Place := if zfx t x hd = 0 then zdw t x hd else []
def zfl (t : Text) (x : Lexicon) (hd : Head) : List Entry := if zfx t x hd = 0 then (zbv t x).filter fun y => !decide (y.head ≠ hd) else []
def formsR (t : Text) (x : Lexicon) (hd : Head) : List Str := if zfx t x hd = 0 then setL sLt ((zdw t x hd).map (zbd t)) else []
theorem under_filter (t : Text) (x : Lexicon) (hd : Head) : ((zbv t x).filter fun y => !decide (y.head ≠ hd)) = (zdw t x hd).map (zfQ t x) := by
 rw [zbv, zdw, List.filter_map];congr 1;apply List.filter_congr;intro p _;simp only [zfQ, Function.comp]
 by_cases e : zfE t x p = hd <;> simp [e]
theorem ziV {t : Text} (ht : zbm t = true) (x : Lexicon) : (zbv t x).length ≤ 600 := by rw [zbv, List.length_map]; exact places_len ht
theorem under_check {t : Text} {x : Lexicon} {hd : Head} (h : zfx t x hd = 0) : zaG t x = 0 := by
 unfold zfx at h;split at h
 ·assumption
 rename_i q; exact absurd h q
theorem setOf_sort (l : List Str) : zcy (l.mergeSort fun a b => decide (a ≤ b)) = setL sLt l := by
 refine setOf_compact sLt_T (List.mergeSort_perm _ _) ?_;have h := List.pairwise_mergeSort (le := fun a b : Str => decide (a ≤ b)) (by intro a b c h1 h2; simp only [decide_eq_true_eq] at *; exact List.le_trans h1 h2) (by intro a b; simp only [Bool.or_eq_true, decide_eq_true_eq]; exact List.le_total a b) l;refine h.imp fun h => ?_;rw [sLt_eq]; simp only [decide_eq_true_eq] at h; simpa using h
end Go.Pk

namespace Go.Pk
open Go Go.RowKit
def zdT (es : List Entry) (w : Str) : Option Head := (es.find? fun y => decide (y.word = w)).map (·.head)
def homAt (es : List Entry) (y : Entry) : List Str := match zdT es y.word with
 | some h => if h ≠ y.head then [y.word] else []
 | none => []
def homsN (es : List Entry) : Nat → List Str
 | 0 => []
 | n + 1 => homsN es n ++ (match es[n]? with
  | some y => homAt (es.take n) y
  | none => [])
theorem homsN_succ {es : List Entry} {n : Nat} {y : Entry} (h : es[n]? = some y) : homsN es (n + 1) = homsN es n ++ homAt (es.take n) y := by simp only [homsN, h]
theorem zir (es : List Entry) : ∀ n, (homsN es n).length ≤ n
 | 0 => by simp [homsN]
 | n + 1 => by
  have ih := zir es n;simp only [homsN, List.length_append];split
  ·unfold homAt;split
   ·split <;> simp <;> omega
   ·simp; omega
  ·simp; omega
theorem hdFirst_snoc (es : List Entry) (y : Entry) (w : Str) : zdT (es ++ [y]) w = match zdT es w with
  | some h => some h
  | none => if y.word = w then some y.head else none := by
 unfold zdT;rw [List.find?_append];cases h : es.find? fun y => decide (y.word = w) with
 | some z => simp
 | none =>
  by_cases e : y.word = w <;> simp [e]
theorem hdFirst_put {es : List Entry} {n : Nat} {y : Entry} (h : es[n]? = some y) {m : List (Str × Head)} (hm : ∀ w, zbU m w = zdT (es.take n) w) (hc : ∀ z, zdT (es.take n) y.word = some z → z = y.head) : ∀ w, zbU (zgV m y.word y.head) w = zdT (es.take (n + 1)) w := by
 intro w;rw [zjl, zbg h, hdFirst_snoc, hm]
 by_cases e : w = y.word
 ·subst e;simp only [if_true];cases q : zdT (es.take n) y.word with
  | some z => rw [hc z q]
  | none => rfl
 rw [if_neg e];cases q : zdT (es.take n) w with
 | some z => rfl
 | none => simp only []; rw [if_neg (fun q => e q.symm)]
theorem hdFirst_keep {es : List Entry} {n : Nat} {y : Entry} (h : es[n]? = some y) {m : List (Str × Head)} (hm : ∀ w, zbU m w = zdT (es.take n) w) {z : Head} (hc : zdT (es.take n) y.word = some z) : ∀ w, zbU m w = zdT (es.take (n + 1)) w := by
 intro w;rw [zbg h, hdFirst_snoc, hm];cases q : zdT (es.take n) w with
 | some z => rfl
 | none =>
  simp only []
  by_cases e : y.word = w
  ·subst e; rw [hc] at q; cases q
  ·rw [if_neg e]
def pairAt (es : List Entry) (i j : Nat) : List Str := match es[i]?, es[j]? with
 | some a, some b => if a.word = b.word ∧ a.head ≠ b.head then [a.word] else []
 | _, _ => []
def pairRow (es : List Entry) (i : Nat) : List Str := (List.range i).flatMap (pairAt es i)
def pairsN (es : List Entry) (n : Nat) : List Str := (List.range n).flatMap (pairRow es)
def homR (t : Text) (x : Lexicon) : List Str := if zaG t x = 0 then setL sLt (homsN (zbv t x) (zbv t x).length) else []
def lessX (x : Lexicon) (n : Int) : Lexicon := { x with decisions := x.decisions.filter fun d => decide (d.number ≠ n) }
theorem lexiconB_of {t : Text} {x y : Lexicon} (h : zaG t x = 0) (hr : y.rules = x.rules) (hd : ∀ d ∈ y.decisions, zan t d = true) (hl : y.decisions.length ≤ 20) (hn : (y.decisions.map (·.number)).Nodup) : zaG t y = 0 := by
 obtain ⟨h1, h2⟩ := zhu h;have h3 : zcu t y = true := by
  simp only [zcu, Bool.and_eq_true, decide_eq_true_eq, List.all_eq_true] at h2 ⊢;exact ⟨⟨⟨⟨by rw [hr]; exact h2.1.1.1.1, hl⟩, by rw [hr]; exact h2.1.1.2⟩, hd⟩, hn⟩
 simp [zaG, h1, h3]
theorem lexicon_12 {t : Text} {x : Lexicon} (h : zaG t x = 0) : x.rules.length ≤ 12 := by
 have h1 := (zhu h).2;simp only [zcu, Bool.and_eq_true, decide_eq_true_eq] at h1;exact h1.1.1.1.1
def idleB (t : Text) (x : Lexicon) (n : Int) : Bool := decide ((lessX x n).decisions.length < x.decisions.length) && decide (headsL t (lessX x n) = headsL t x)
def natI (k : Nat) : Int := (k : Int) + 1
def idleK (t : Text) (x : Lexicon) (k : Nat) : List Int := ((List.range k).map natI).filter (idleB t x)
def idleR (t : Text) (x : Lexicon) : List Int := idleK t x 999
def idleN (t : Text) (x : Lexicon) : List Int := if zaG t x = 0 then idleR t x else []
def idleP (t : Text) (x : Lexicon) (d : Decision) : Bool := decide (zbv t (lessX x d.number) = zbv t x)
def moreX (x : Lexicon) (d : Decision) : Lexicon := { x with decisions := x.decisions ++ [d] }
def ascD (l : List Decision) : List Decision := l.mergeSort fun a b => decide (a.number ≤ b.number)
def zik (x : Lexicon) (d : Decision) : Lexicon := { x with decisions := ascD (x.decisions ++ [d]) }
def zfV (t : Text) (x : Lexicon) (d : Decision) : Int := if zaG t x ≠ 0 then zaG t x else if x.decisions.length = 20 then 9 else if zaG t (moreX x d) ≠ 0 then 41 else 0
def zfv : Lexicon := ⟨[], []⟩
def zil (t : Text) (x : Lexicon) (d : Decision) : Lexicon := if zfV t x d = 0 then zik x d else zfv
theorem ascD_perm (l : List Decision) : (ascD l).Perm l := List.mergeSort_perm _ _
theorem ascD_sorted (l : List Decision) : (ascD l).Pairwise fun a b => a.number ≤ b.number := by
 have h := List.pairwise_mergeSort (le := fun a b : Decision => decide (a.number ≤ b.number)) (by intro a b c h1 h2; simp at *; omega) (by intro a b; simp; omega) l;exact h.imp (fun h => by simpa using h)
theorem ascD_eq {l ys : List Decision} (hp : ys.Perm l) (hs : ys.Pairwise fun a b => a.number ≤ b.number) (hn : (l.map (·.number)).Nodup) : ys = ascD l := by
 refine List.Perm.eq_of_pairwise (le := fun a b : Decision => a.number ≤ b.number) ?_ hs (ascD_sorted l) (hp.trans (ascD_perm l).symm);intro a b ha hb h1 h2;exact zjk hn (hp.mem_iff.1 ha) ((ascD_perm l).mem_iff.1 hb) zr
theorem addE_zero {t : Text} {x : Lexicon} {d : Decision} (h : zfV t x d = 0) : zaG t x = 0 ∧ ¬ x.decisions.length = 20 ∧ zaG t (moreX x d) = 0 := by
 unfold zfV at h;split at h
 ·rename_i q; exact absurd h q
 rename_i q;split at h
 ·cases h
 rename_i q2;split at h
 ·cases h
 rename_i q3;exact ⟨by simpa using q, q2, by simpa using q3⟩
theorem addX_check {t : Text} {x : Lexicon} {d : Decision} (h : zaG t (moreX x d) = 0) : zaG t (zik x d) = 0 := by
 have hp := ascD_perm (x.decisions ++ [d]);refine lexiconB_of h rfl (fun e he => ziT h e (hp.mem_iff.1 he)) ?_ ?_
 ·have := zhv h;rw [show (zik x d).decisions.length = (moreX x d).decisions.length from hp.length_eq]; exact this
 exact (hp.map _).nodup_iff.2 (zgh h).1
def changesP (t : Text) (x : Lexicon) (d : Decision) : List Place := (zdS t).filter fun p => decide (zfE t (zik x d) p ≠ zfE t x p)
def changesR (t : Text) (x : Lexicon) (d : Decision) : List Place := if zfV t x d = 0 then changesP t x d else []
theorem hom_keep {es : List Entry} {n : Nat} {y : Entry} (h : es[n]? = some y) {m : List (Str × Head)} (hm : ∀ w, zbU m w = zdT (es.take n) w) (h1 : (zbU m y.word).isSome = true) : ∀ w, zbU m w = zdT (es.take (n + 1)) w := by
 obtain ⟨z, hz⟩ := Option.isSome_iff_exists.1 h1;exact hdFirst_keep h hm ((hm _).symm.trans hz)
theorem hom_put {es : List Entry} {n : Nat} {y : Entry} (h : es[n]? = some y) {m : List (Str × Head)} (hm : ∀ w, zbU m w = zdT (es.take n) w) (h1 : (zbU m y.word).isSome = true → (zbU m y.word).getD zdG = y.head) : ∀ w, zbU (zgV m y.word y.head) w = zdT (es.take (n + 1)) w := by
 refine hdFirst_put h hm fun z hz => ?_;rw [← hm] at hz;rw [hz] at h1;exact h1 rfl
theorem homAt_yes {es : List Entry} {y : Entry} {m : List (Str × Head)} (hm : ∀ w, zbU m w = zdT es w) (h1 : (zbU m y.word).isSome = true) (h2 : (zbU m y.word).getD zdG ≠ y.head) : homAt es y = [y.word] := by
 obtain ⟨z, hz⟩ := Option.isSome_iff_exists.1 h1;rw [hz] at h2;rw [hm] at hz;simp only [homAt, hz];exact if_pos h2
theorem homAt_no {es : List Entry} {y : Entry} {m : List (Str × Head)} (hm : ∀ w, zbU m w = zdT es w) (h1 : (zbU m y.word).isSome = true → (zbU m y.word).getD zdG = y.head) : homAt es y = [] := by
 unfold homAt;rw [← hm];cases hz : zbU m y.word with
 | none => rfl
 | some z =>
  rw [hz] at h1;simp only [];exact if_neg (fun q => q (h1 rfl))
theorem entries_length (t : Text) (x : Lexicon) : (zbv t x).length = (zdS t).length := by rw [zbv, List.length_map]
theorem addE_bad {t : Text} {x : Lexicon} {d : Decision} (h : ¬ zaG t x = 0) : zfV t x d = zaG t x ∧ zil t x d = zfv := by
 have e : zfV t x d = zaG t x := if_pos h;exact ⟨e, by rw [zil, e]; exact if_neg h⟩
theorem addE_full {t : Text} {x : Lexicon} {d : Decision} (h : zaG t x = 0) (h2 : x.decisions.length = 20) : zfV t x d = 9 ∧ zil t x d = zfv := by
 have e : zfV t x d = 9 := by rw [zfV, if_neg (fun q => q h), if_pos h2]
 exact ⟨e, by rw [zil, e]; rfl⟩
theorem addE_err {t : Text} {x : Lexicon} {d : Decision} (h : zaG t x = 0) (h2 : ¬ x.decisions.length = 20) (h3 : ¬ zaG t (moreX x d) = 0) : zfV t x d = 41 ∧ zil t x d = zfv := by
 have e : zfV t x d = 41 := by rw [zfV, if_neg (fun q => q h), if_neg h2, if_pos h3]
 exact ⟨e, by rw [zil, e]; rfl⟩
theorem addE_ok {t : Text} {x : Lexicon} {d : Decision} (h : zaG t x = 0) (h2 : ¬ x.decisions.length = 20) (h3 : zaG t (moreX x d) = 0) : zfV t x d = 0 ∧ zil t x d = zik x d := by
 have e : zfV t x d = 0 := by rw [zfV, if_neg (fun q => q h), if_neg h2, if_neg (fun q => q h3)]
 exact ⟨e, by rw [zil, e]; rfl⟩
end Go.Pk

namespace Go.Pk
open Go Go.RowKit
def insK (ds : List Decision) (i k : Nat) (y : Decision) : List Decision := ds.take k ++ y :: ((ds.take i).drop k ++ ds.drop (i + 1))
def sortedTo (ds : List Decision) (i : Nat) : Prop := (ds.take i).Pairwise fun a b => a.number ≤ b.number
end Go.Pk

namespace Go.Pk
open Go Go.RowKit
def winV (x : Lexicon) (p : Place) (wd : Str) : Decision :=
 if (zaM ((x.decisions.filter (zcS x)).filter fun d => zdy d p wd)).number = 0 then { zcr with to := ⟨((zdm x.rules 4 wd).getLast?).getD [], 0⟩ } else zaM ((x.decisions.filter (zcS x)).filter fun d => zdy d p wd)
theorem standM_perm (x : Lexicon) : ((zeR x).map (·.2)).Perm (x.decisions.filter (zcS x)) := by
 have : (zeR x).map (·.2) = (zdn x).filter (zcS x) := by simp [zeR, zgd, List.map_map, Function.comp_def]
 rw [this];exact (zdW x).filter _
theorem ziJ {x : Lexicon} (h : OkD x) : zcn x = winV x := by
 funext p wd;have hp : (conD x p wd).Perm ((x.decisions.filter (zcS x)).filter fun d => zdy d p wd) := (standM_perm x).filter _;have e : zaM (conD x p wd) = zaM ((x.decisions.filter (zcS x)).filter fun d => zdy d p wd) := by
  refine bestOf_perm hp ?_ ?_
  ·intro y hy;exact (h.2 _ (List.mem_filter.1 (List.mem_filter.1 hy).1).1).1
  ·exact ((List.filter_sublist.trans List.filter_sublist).map _).nodup h.1
 rw [zcn, winV, e]
def headV (t : Text) (x : Lexicon) (p : Place) : Head := (winV x p (zbd t p)).to
theorem headV_eq {t : Text} {x : Lexicon} (h : OkD x) : zfE t x = headV t x := by
 funext p;rw [zfE, headV, ziJ h]
def entryV (t : Text) (x : Lexicon) (p : Place) : Entry := ⟨p, zbd t p, headV t x p⟩
def headsV (t : Text) (x : Lexicon) : List Head := (zdS t).map (headV t x)
def entriesV (t : Text) (x : Lexicon) : List Entry := (zdS t).map (entryV t x)
theorem entriesV_eq {t : Text} {x : Lexicon} (h : OkD x) : zbv t x = entriesV t x := by
 rw [zbv, entriesV];refine List.map_congr_left fun p _ => ?_;rw [zfQ, entryV, headV_eq h]
def underV (t : Text) (x : Lexicon) (hd : Head) : List Place := (zdS t).filter fun p => decide (headV t x p = hd)
def homV (t : Text) (x : Lexicon) : List Str := setL sLt (homsN (entriesV t x) (zdS t).length)
theorem homV_eq {t : Text} {x : Lexicon} (h : zaG t x = 0) : homR t x = homV t x := by
 rw [homR, if_pos h, homV, entries_length, entriesV_eq (zgh h)]
def idleV (t : Text) (x : Lexicon) (n : Int) : Bool := decide ((lessX x n).decisions.length < x.decisions.length) && decide (headsV t (lessX x n) = headsV t x)
def changesV (t : Text) (x y : Lexicon) : List Place := (zdS t).filter fun p => decide (headV t y p ≠ headV t x p)
theorem addX_eq {x : Lexicon} {d : Decision} {ys : List Decision} (hp : ys.Perm (x.decisions ++ [d])) (hs : ys.Pairwise fun a b => a.number ≤ b.number) (hn : ((x.decisions ++ [d]).map (·.number)).Nodup) : zik x d = ⟨x.rules, ys⟩ := by
 rw [zik, ← ascD_eq hp hs hn]
def wThe : Str := [116, 104, 101]
def zdH : Str := [115, 101, 97]
def wSee : Str := [115, 101, 101]
def wIs : Str := [105, 115]
def ziw : Str := [111, 108, 100]
def wOlde : Str := [111, 108, 100, 101]
def wAnd : Str := [97, 110, 100]
def wAge : Str := [97, 103, 101]
def zix : Text := ⟨[⟨7, [[wThe, zdH, wIs, ziw], [ziw, wThe, zdH]]⟩, ⟨3, [[zdH, wAnd, zdH]]⟩]⟩
def rulesE : List Rule := [⟨[115], [], 2⟩, ⟨[108, 100], [108, 100, 101], 1⟩]
def d1E : Decision := ⟨1, 1, zdH, zdN, ⟨zdH, 1⟩, 0⟩
def d2E : Decision := ⟨2, 2, ziw, ⟨0, 1, 0⟩, ⟨wAge, 3⟩, 0⟩
def d3E : Decision := ⟨3, 3, [], ⟨1, 0, 2⟩, ⟨wSee, 2⟩, 0⟩
def d4E : Decision := ⟨4, 1, zdH, zdN, ⟨wSee, 2⟩, 0⟩
def d5E : Decision := ⟨5, 4, [], zdN, zdG, 3⟩
def lexE (more : List Decision) : Lexicon := ⟨rulesE, [d1E, d2E, d3E] ++ more⟩
theorem askR_eq {t : Text} {x : Lexicon} {p : Place} (hx : zaG t x = 0) (hp : zbu t p = true) : zfK t x p = winV x p (zbd t p) := by rw [zfK, if_pos ⟨hx, hp⟩, ziJ (zgh hx)]
theorem askE_eq {t : Text} {x : Lexicon} {p : Place} (hx : zaG t x = 0) (hp : zbu t p = true) : askE t x p = 0 := by rw [askE, if_pos hx, if_pos hp]
end Go.Pk

namespace Go.Pk
open Go Go.RowKit
theorem made_word {r : Rule} {w s : Str} (hr : zgm r = true) (hw : zdx w = true) (h : made r w = some s) : zdx s = true := by
 unfold made at h;split at h
 ·rename_i h1;cases h;simp only [zgm, Bool.and_eq_true, zcE, inB, decide_eq_true_eq] at hr;simp only [zdx, zcE, inB, Bool.and_eq_true, decide_eq_true_eq, List.all_eq_true] at hw ⊢;refine ⟨?_, ?_⟩
  ·intro c hc
   rcases List.mem_append.1 hc with hc | hc
   ·exact hw.1 c (List.mem_of_mem_take hc)
   ·exact List.all_eq_true.1 hr.1.1.2.1 c hc
  ·rw [List.length_append, List.length_take];have := hr.2;omega
 cases h
theorem stepsN_word {rs : List Rule} (hr : ∀ r ∈ rs, zgm r = true) : ∀ (n : Nat) (w : Str), zdx w = true → ∀ s ∈ zdm rs n w, zdx s = true
 | 0, w, hw, s, hs => by simp [zdm] at hs; subst hs; exact hw
 | n + 1, w, hw, s, hs => by
  simp only [zdm] at hs;split at hs
  ·simp at hs; subst hs; exact hw
  ·rename_i u hu
   rcases List.mem_cons.1 hs with rfl | hs
   ·exact hw
   ·obtain ⟨r, hr1, hr2⟩ := List.exists_of_findSome?_eq_some hu;exact stepsN_word hr n u (made_word (hr r hr1) hw hr2) s hs
theorem lexicon_rs {t : Text} {x : Lexicon} (h : zaG t x = 0) : ∀ r ∈ x.rules, zgm r = true := by
 have h1 := (zhu h).2;simp only [zcu, Bool.and_eq_true, List.all_eq_true] at h1;exact h1.1.1.2
def zdX (x : Lexicon) (p : Place) (wd : Str) : List Decision := (x.decisions.filter (zcS x)).filter fun d => zdy d p wd
theorem winV_of {x y : Lexicon} {p : Place} {wd : Str} (hr : y.rules = x.rules) (hx : OkD x) (h : (zdX y p wd).Perm (zdX x p wd)) : winV y p wd = winV x p wd := by
 have e : zaM (zdX y p wd) = zaM (zdX x p wd) := by
  refine bestOf_perm h ?_ ?_
  ·intro z hz;exact (hx.2 _ (List.mem_filter.1 (List.mem_filter.1 hz).1).1).1
  ·exact ((List.filter_sublist.trans List.filter_sublist).map _).nodup hx.1
 simp only [zdX] at e;rw [winV, winV, e, hr]
end Go.Pk

namespace Go.Pk
open Go Go.RowKit
def zhW (x : Lexicon) : List Int := (standingR x).map (·.number)
theorem standS_mem {x : Lexicon} (hx : OkD x) {n : Int} : n ∈ zhW x ↔ ∃ d ∈ x.decisions, d.number = n ∧ zcS x d = true := by
 simp only [zhW, standingR, List.mem_map, List.mem_flatMap, List.mem_range, standAt_mem];constructor
 ·rintro ⟨d, ⟨k, _, h1, _, h3⟩, rfl⟩; exact ⟨d, h1, rfl, h3⟩
 rintro ⟨d, h1, rfl, h3⟩;have h4 := hx.2 _ h1;exact ⟨d, ⟨(d.number - 1).toNat, by omega, h1, by omega, h3⟩, rfl⟩
theorem zjh {x : Lexicon} (hx : OkD x) {d : Decision} (hd : d ∈ x.decisions) : d.number ∈ zhW x ↔ zcS x d = true := by
 rw [standS_mem hx];constructor
 ·rintro ⟨e, h1, h2, h3⟩;rw [← zjk hx.1 h1 hd h2]; exact h3
 intro h; exact ⟨d, hd, rfl, h⟩
def cntQ {α : Type} (q : α → Bool) (l : List α) (i : Nat) : Nat := ((l.take i).filter q).length
theorem addX_perm (x : Lexicon) (d : Decision) : (zik x d).decisions.Perm (x.decisions ++ [d]) := ascD_perm _
theorem addX_ok {t : Text} {x : Lexicon} {d : Decision} (h : zfV t x d = 0) : OkD x ∧ OkD (zik x d) ∧ ∀ e ∈ x.decisions, e.number ≠ d.number := by
 obtain ⟨h1, _, h3⟩ := addE_zero h;refine ⟨zgh h1, zgh (addX_check h3), fun e he => ?_⟩;have hn := (zgh h3).1;simp only [moreX, List.map_append, List.map_cons, List.map_nil] at hn;exact (List.nodup_append.1 hn).2.2 _ (List.mem_map_of_mem he) _ (by simp)
theorem mem_addX {x : Lexicon} {d e : Decision} : e ∈ (zik x d).decisions ↔ e ∈ x.decisions ∨ e = d := by
 rw [(addX_perm x d).mem_iff, List.mem_append]; simp
theorem countV_nodup {x : Lexicon} (hx : OkD x) (p : Place) (wd : Str) : (zdX x p wd).Nodup := nodup_of_map _ (((List.filter_sublist.trans List.filter_sublist).map _).nodup hx.1)
theorem zfH {x : Lexicon} {p : Place} {wd : Str} {e : Decision} : e ∈ zdX x p wd ↔ e ∈ x.decisions ∧ zcS x e = true ∧ zdy e p wd = true := by
 simp only [zdX, List.mem_filter];constructor
 ·rintro ⟨⟨a, b⟩, c⟩; exact ⟨a, b, c⟩
 rintro ⟨a, b, c⟩; exact ⟨⟨a, b⟩, c⟩
theorem standsF_more {x : Lexicon} {d : Decision} (hk : d.kind ≠ 4) : ∀ n e, zeo (zik x d) n e = zeo x n e
 | 0, _ => rfl
 | n + 1, e => by
  simp only [zeo];rw [(addX_perm x d).all_eq, List.all_append];simp only [List.all_cons, List.all_nil, hk, decide_false, Bool.false_and, Bool.not_false, Bool.and_true];congr 1;funext v;rw [standsF_more hk n v]
end Go.Pk

namespace Go.Pk
open Go Go.RowKit
theorem winV_none {x : Lexicon} {p : Place} {wd : Str} (h : zdX x p wd = []) : winV x p wd = { zcr with to := ⟨((zdm x.rules 4 wd).getLast?).getD [], 0⟩ } := by
 simp only [zdX] at h;rw [winV, h, if_pos (show (zaM []).number = 0 from rfl)]
theorem winV_some {x : Lexicon} (hx : OkD x) {p : Place} {wd : Str} (h : zdX x p wd ≠ []) : winV x p wd = zaM (zdX x p wd) ∧ zaM (zdX x p wd) ∈ zdX x p wd ∧ ∀ y ∈ zdX x p wd, y ≠ zaM (zdX x p wd) → lexD y (zaM (zdX x p wd)) := by
 have hp : ∀ z ∈ zdX x p wd, 1 ≤ z.number := fun z hz => (hx.2 _ (zfH.1 hz).1).1;have hn : ((zdX x p wd).map (·.number)).Nodup := ((List.filter_sublist.trans List.filter_sublist).map _).nodup hx.1;have hb := ziG hp h;refine ⟨?_, hb.2, bestOf_best hp hn⟩;have h1 := hb.1;simp only [zdX] at h1 ⊢;rw [winV, if_neg zr]
theorem wins_none {x : Lexicon} (hx : OkD x) {p : Place} {wd : Str} (h : ∀ d ∈ x.decisions, ¬ (d.number ∈ zhW x ∧ zdy d p wd = true)) : zcn x p wd = { zcr with to := ⟨((zdm x.rules 4 wd).getLast?).getD [], 0⟩ } := by
 rw [ziJ hx];refine winV_none ?_;cases hc : zdX x p wd with
 | nil => rfl
 | cons e l =>
  obtain ⟨h1, h2, h3⟩ := zfH.1 (show e ∈ zdX x p wd by rw [hc]; exact List.mem_cons_self ..);exact absurd ⟨(zjh hx h1).2 h2, h3⟩ (h e h1)
theorem wins_some {x : Lexicon} (hx : OkD x) {p : Place} {wd : Str} {d : Decision} (hd : d ∈ x.decisions) (h1 : d.number ∈ zhW x) (h2 : zdy d p wd = true) :
  zcn x p wd ∈ x.decisions ∧ 1 ≤ (zcn x p wd).number ∧ (zcn x p wd).number ∈ zhW x ∧ zdy (zcn x p wd) p wd = true ∧ ∀ e ∈ x.decisions, e.number ∈ zhW x → zdy e p wd = true → e.number ≠ (zcn x p wd).number → lexD e (zcn x p wd) := by
 rw [ziJ hx];have hne : zdX x p wd ≠ [] := by
  intro q;have : d ∈ zdX x p wd := zfH.2 ⟨hd, (zjh hx hd).1 h1, h2⟩;rw [q] at this; cases this
 obtain ⟨e1, e2, e3⟩ := winV_some hx hne;rw [e1];obtain ⟨a1, a2, a3⟩ := zfH.1 e2;refine ⟨a1, (hx.2 _ a1).1, (zjh hx a1).2 a2, a3, fun e he hs hc hn => ?_⟩;exact e3 e (zfH.2 ⟨he, (zjh hx he).1 hs, hc⟩) (fun q => hn (by rw [q]))
theorem stands_free {x : Lexicon} (hx : OkD x) {d : Decision} (hd : 1 ≤ d.number) (h : ∀ v ∈ x.decisions, v.kind = 4 → v.of_ ≠ d.number) : zcS x d = true := by
 rw [standsB_eq hx hd, List.all_eq_true];intro v hv
 by_cases hk : v.kind = 4
 ·simp [h v hv hk]
 simp [hk]
theorem conc_void {d : Decision} (h : d.kind = 4) (p : Place) (wd : Str) : zdy d p wd = false := by simp [zdy, h]
def voidD (n o : Int) : Decision := ⟨n, 4, [], zdN, zdG, o⟩
section
variable {t : Text} {x : Lexicon} {d : Decision} {most : Int}
end
end Go.Pk

namespace Go.Pk
open Go Go.RowKit
def zRule : Rule := ⟨[], [], 0⟩
def chooseN (l : List Int) (i : Nat) : Int := (l[i % l.length]?).getD 0
theorem askR_win {t : Text} {x : Lexicon} {p : Place} (hx : zaG t x = 0) (hp : zbu t p = true) : zfK t x p = zcn x p (zbd t p) := by
 rw [zfK, if_pos ⟨hx, hp⟩]
end Go.Pk

namespace Go.Pk
open Go Go.RowKit
theorem at_word {t : Text} {p : Place} (ht : zbm t = true) : (if zbm t = true then (zhn t p).getD [] else []) = zbd t p := by rw [if_pos ht]; rfl
theorem at_err {t : Text} {p : Place} (ht : zbm t = true) (hp : zbu t p = true) : (if (zbm t && zbu t p) = true then (0 : Int) else if zbm t = true then 12 else 10) = 0 := by rw [if_pos (by rw [ht, hp]; rfl)]
theorem placesT_in {t : Text} {k n w : Nat} {c : Chapter} {ln : List Str} (hc : t.chapters[k]? = some c) (hl : c.lines[n]? = some ln) (hw : w < ln.length) : mkP k n w ∈ zdS t := by
 refine List.mem_flatMap.2 ⟨k, List.mem_range.2 (List.getElem?_eq_some_iff.1 hc).1, List.mem_flatMap.2 ⟨n, List.mem_range.2 ?_, List.mem_map.2 ⟨w, List.mem_range.2 ?_, rfl⟩⟩⟩
 ·rw [zdM hc]; exact (List.getElem?_eq_some_iff.1 hl).1
 rw [zea hc hl]; exact hw
theorem wordD_word {t : Text} {p : Place} (ht : zbm t = true) (hp : zbu t p = true) : zdx (zbd t p) = true := by
 obtain ⟨c, ln, wd, _, hc, _, hl, _, hw, e⟩ := place_at hp;rw [e];simp only [zbm, Bool.and_eq_true, List.all_eq_true] at ht;have h1 := ht.1.2 _ (List.mem_of_getElem? hc);simp only [zbN, Bool.and_eq_true, List.all_eq_true] at h1;have h2 := h1.2 _ (List.mem_of_getElem? hl);simp only [zgE, Bool.and_eq_true, List.all_eq_true] at h2;exact h2.2 _ (List.mem_of_getElem? hw)
def trM (l : List Int) : List (Int × Bool) := l.map fun n => (n, true)
def wonF (l : List Decision) (n : Int) : Decision := l.foldl (fun a d => if d.number = n then d else a) zcr
theorem any_snoc {α : Type} {q : α → Bool} {l : List α} {k : Nat} {a : α} (h : l[k]? = some a) : (l.take (k + 1)).any q = ((l.take k).any q || q a) := by rw [zbg h, List.any_append]; simp
def someS (x : Lexicon) (p : Place) (wd : Str) (d : Decision) : Bool := decide (d.number ∈ zhW x) && zdy d p wd
def zge (l : List Decision) : Int := l.foldl (fun a d => max a d.number) 0
theorem mostN_snoc {l : List Decision} {k : Nat} {d : Decision} (h : l[k]? = some d) : zge (l.take (k + 1)) = max (zge (l.take k)) d.number := by rw [zge, zbg h, List.foldl_append]; rfl
theorem fold_max : ∀ (l : List Decision) (a : Int), a ≤ l.foldl (fun a d => max a d.number) a ∧ ∀ d ∈ l, d.number ≤ l.foldl (fun a d => max a d.number) a
 | [], a => ⟨Int.le_refl _, fun d hd => by cases hd⟩
 | e :: l, a => by
  have ⟨h1, h2⟩ := fold_max l (max a e.number);rw [List.foldl_cons];refine ⟨by omega, fun d hd => ?_⟩
  rcases List.mem_cons.1 hd with rfl | hd
  ·omega
  ·exact h2 d hd
theorem fold_max_le : ∀ (l : List Decision) (a b : Int), a ≤ b → (∀ d ∈ l, d.number ≤ b) → l.foldl (fun a d => max a d.number) a ≤ b
 | [], a, b, h, _ => h
 | e :: l, a, b, h, h2 => by
  rw [List.foldl_cons];exact fold_max_le l _ b (by have := h2 e List.mem_cons_self; omega) fun d hd => h2 d (List.mem_cons_of_mem _ hd)
theorem mostN_ge {l : List Decision} {d : Decision} (h : d ∈ l) : d.number ≤ zge l := (fold_max l 0).2 d h
theorem mostN_pos (l : List Decision) : 0 ≤ zge l := (fold_max l 0).1
theorem all_snoc {α : Type} {P : α → Prop} {l : List α} {k : Nat} {a : α} (h : ∀ o ∈ l.take k, P o) (ha : l[k]? = some a) (hp : P a) : ∀ o ∈ l.take (k + 1), P o := by
 intro o ho;rw [zbg ha, List.mem_append] at ho
 rcases ho with ho | ho
 ·exact h o ho
 simp at ho; rw [ho]; exact hp
theorem small_of {t : Text} {x : Lexicon} (h : zaG t x = 0) : zfm x = true := by
 have h1 := (zhu h).2;simp only [zcu, Bool.and_eq_true, List.all_eq_true, decide_eq_true_eq] at h1;obtain ⟨⟨⟨⟨a, b⟩, c⟩, d⟩, _⟩ := h1;simp only [zfm, Bool.and_eq_true, List.all_eq_true, decide_eq_true_eq];refine ⟨⟨⟨by omega, by omega⟩, fun r hr => ?_⟩, fun e he => ?_⟩
 ·have q := c r hr;simp only [zgm, Bool.and_eq_true, zcE, inB, decide_eq_true_eq] at q;simp only [smallR, Bool.and_eq_true, decide_eq_true_eq];omega
 have q := d e he;simp only [zan, Bool.and_eq_true] at q;have q2 := q.2;simp only [smallD, Bool.and_eq_true, decide_eq_true_eq];split at q2
 ·simp only [Bool.and_eq_true, zdY] at q2;have a := ziv q2.1.1.1; have b := ziv q2.1.2.1; omega
 split at q2
 ·simp only [Bool.and_eq_true, zdY] at q2;have a := ziv q2.1.1.1; have b := ziv q2.1.2.1; omega
 split at q2
 ·simp only [Bool.and_eq_true, zdY, decide_eq_true_eq] at q2;have b := ziv q2.1.2.1;have a := q2.1.1.1;rw [a]; simp; omega
 split at q2
 ·simp only [Bool.and_eq_true, decide_eq_true_eq] at q2;have a := q2.1.1.1; have b := q2.1.2;rw [a, b]; simp [zdG]
 cases q2
def chQ (t : Text) (x : Lexicon) (d : Decision) (p : Place) : Bool := decide (zfE t (zik x d) p ≠ zfE t x p)
section
variable {t : Text} {x : Lexicon} {d : Decision}
def cdQ (x y : Lexicon) (p : Place) (wd : Str) (o : Decision) : Bool := (decide (o.number ∈ zhW x) != decide (o.number ∈ zhW y)) && zdy o p wd
theorem addN_check (h : zfV t x d = 0) : zaG t (zil t x d) = 0 := by
 rw [show zil t x d = zik x d by rw [zil, if_pos h]];exact addX_check (addE_zero h).2.2
end
end Go.Pk

namespace Go.Pk
open Go Go.RowKit
def zText : Text := ⟨[]⟩
end Go.Pk

namespace Go.Pk
open Go Go.RowKit
def numI (t : Text) (p : Place) : Int := (((zdS t).idxOf p : Nat) : Int)
theorem under_mem {t : Text} {x : Lexicon} {h : Head} {p : Place} : p ∈ zdw t x h ↔ p ∈ zdS t ∧ zfE t x p = h := by rw [zdw, List.mem_filter, decide_eq_true_eq]
def underA (t : Text) (x : Lexicon) (hs : List Head) : List Place := hs.flatMap (zdw t x)
def seenL (t : Text) (x : Lexicon) (hs : List Head) (u : List Place) : List Int := (underA t x hs ++ u).map (numI t)
def putAll (ws : List Str) : List (Str × Bool) := ws.foldl (fun m w => zgV m w true) []
theorem headAt_ok {t : Text} {x : Lexicon} {p : Place} (h : zaG t x = 0) (hp : zbu t p = true) : zdY (zfE t x p) = true := by
 have hx := zgh h;have ht := zcY h;rw [zfE]
 by_cases hc : zdX x p (zbd t p) = []
 ·rw [ziJ hx, winV_none hc];have hw := stepsN_word (lexicon_rs h) 4 (zbd t p) (wordD_word ht hp) (((zdm x.rules 4 (zbd t p)).getLast?).getD []) (by
   cases e : (zdm x.rules 4 (zbd t p)).getLast? with
   | none => exact absurd (List.getLast?_eq_none_iff.1 e) (stepsN_ne x.rules 4 (zbd t p))
   | some s => exact List.mem_of_getLast? e)
  simp [zdY, hw, inB]
 have hb := (winV_some hx hc);rw [ziJ hx, hb.1];obtain ⟨h1, _, h3⟩ := zfH.1 hb.2.1;have q := ziT h _ h1;simp only [zan, Bool.and_eq_true] at q;have q2 := q.2;split at q2
 ·simp only [Bool.and_eq_true] at q2; exact q2.1.2
 split at q2
 ·simp only [Bool.and_eq_true] at q2; exact q2.1.2
 split at q2
 ·simp only [Bool.and_eq_true] at q2; exact q2.1.2
 split at q2
 ·rename_i hk;rw [conc_void hk] at h3; cases h3
 cases q2
theorem under_of {t : Text} {x : Lexicon} {h : Head} (hx : zaG t x = 0) (hh : h ∈ setL zjF (headsL t x)) : zfx t x h = 0 ∧ zdw t x h ≠ [] := by
 obtain ⟨p, hp, rfl⟩ := List.mem_map.1 (setL_mem.1 hh);have hne : zdw t x (zfE t x p) ≠ [] := List.ne_nil_of_mem (under_mem.2 ⟨hp, rfl⟩);exact ⟨by rw [zfx, if_pos hx, if_pos (headAt_ok hx (placesT_mem hp)), if_neg hne], hne⟩
theorem place_in {t : Text} {p : Place} (hp : zbu t p = true) : p ∈ zdS t := by
 obtain ⟨c, ln, wd, h1, hc, h2, hl, h3, hw, _⟩ := place_at hp;have e : p = mkP p.chapter.toNat p.line.toNat p.word.toNat := by
  rcases p with ⟨a, b, c⟩
  simp only [mkP, Place.mk.injEq] at *;omega
 rw [e];exact placesT_in hc hl (List.getElem?_eq_some_iff.1 hw).1
end Go.Pk

namespace Go.Pk
open Go Go.RowKit
theorem St.mid {h0 h : Heap} {w0 w : World} {A rest : Own} {o : List (Nat × Obj)} (st : St h0 w0 h w ((A ++ rest) ++ [o])) : St h0 w0 h w (A ++ o :: rest) := by
 refine st.perm ?_;rw [List.append_assoc];exact (List.perm_append_comm (l₁ := rest) (l₂ := [o])).append_left A
theorem St.over {h0 h h' : Heap} {w0 w w' : World} {own rest : Own} (a : St h0 w0 h w rest) (b : St h w h' w' own) : St h0 w0 h' w' rest := a.call0 (b.take 0)
theorem St.keep {h0 h h' : Heap} {w0 w w' : World} {own rest : Own} (a : St h0 w0 h w rest) (b : St h w h' w' own) : St h0 w0 h' w' (own ++ rest) := (a.call b).perm List.perm_append_comm
def GivesA {α : Type} (P : Program) (gf : FuncId) (caps : List Value) (A : List α → Heap → Value → α → Prop) (S : List α → Prop) (h : Heap) : Prop :=
 ∀ h0 w0 h', Le h h' → GivesG P gf caps (fun pre h us x => ∃ u, us = [u] ∧ A pre h u x) S h0 w0 h'
theorem GivesA.up {α : Type} {P : Program} {gf : FuncId} {caps : List Value} {A : List α → Heap → Value → α → Prop} {S : List α → Prop} {h h' : Heap} (g : GivesA P gf caps A S h) (le : Le h h') : GivesA P gf caps A S h' :=
 fun h0 w0 h1 l1 => g h0 w0 h1 (le.trans l1)
theorem zim {α : Type} {P : Program} {n : Nat} {Q : Exit → VS → World → Prop} {A : List α → Heap → Value → α → Prop} {g : Operand} {p : Tmp} {assign body : Code} {σ : Env} {w : World} {gf : FuncId} {caps : List Value} {S : List α → Prop} {h0 h : Heap} {w0 : World} {own : Own}
  (st : St h0 w0 h w own) (hg : ev σ g = .func (.func gf) #[] caps.toArray) (eg : ∀ a w, (callFunc gf a).run P w = .ok (.enter gf a) w) (hp : Nat.blt p n = true)
  (seq : GivesG P gf caps (fun pre h us x => ∃ u, us = [u] ∧ A pre h u x) S h0 w0 h) (I : List α → Heap → Own → Prop) (Ix : Code → List α → Heap → Own → Prop)
  (hI : ∀ xs h1 h2 o, I xs h1 o → Le h1 h2 → I xs h2 o) (hIx : ∀ c xs h1 h2 o, Ix c xs h1 o → Le h1 h2 → Ix c xs h2 o) (h00 : I [] h own)
  (hround : ∀ (l : Nat) pre x h1 w1 own1 tail u, Le h h1 → I pre h1 own1 → St h0 w0 h1 w1 (own1 ++ tail) → A pre h1 u x →
   V { Fence.wide with round := some l } P n assign (APost { Fence.wide with round := some l } P n body I Ix h0 w0 h1 (pre ++ [x]) tail) ([], upd σ p u) w1)
  (hdone : ∀ D xs h' w' own', Le h h' → S xs → I xs h' own' → St h0 w0 h' w' (own' ++ [[(D, .deferred (some []))]]) → Q .normal ([{ target := .collected D, args := #[] }], σ) w')
  (hstop : ∀ D c pre h' w' own', Le h h' → Ix c pre h' own' → St h0 w0 h' w' (own' ++ [[(D, .deferred (some []))]]) → V Fence.wide P n c Q ([{ target := .collected D, args := #[] }], σ) w') :
  V Fence.wide P n (.rangeFunc g #[p] assign body) Q ([], σ) w := by
 refine V.rangeFuncG (up := fun us => upd σ p (us.headD undef)) st hg eg ?_ (by rintro _ _ _ _ ⟨u, rfl, _⟩; rfl) seq I Ix hI hIx h00 ?_ hdone hstop
 ·rintro a pre us h x hf ⟨u, rfl, _⟩;have h2 := hf.bare.put (d := some p) (by exact hp) u;have e1 : (#[p].zip [u].toArray).foldl (fun tmps (x : Nat × Value) => tmps.setIfInBounds x.1 x.2) a.tmps = a.tmps.setIfInBounds p u := by simp
  show FitsD [] n ({ tmps := (#[p].zip [u].toArray).foldl (fun tmps (x : Nat × Value) => tmps.setIfInBounds x.1 x.2) a.tmps, defers := [] } : Act) (upd σ p u);rw [e1]; exact ⟨h2.size, rfl, h2.at_⟩
 ·rintro l pre x h1 w1 own1 tail us a b c ⟨u, rfl, d⟩;exact hround l pre x h1 w1 own1 tail u a b c d
end Go.Pk

namespace Go.Pk
open Go Go.RowKit
def zio : Question := ⟨zdN, []⟩
def zVoter : Voter := ⟨0, 0, []⟩
def zSpan : Span := ⟨0, 0⟩
def zdi (hs : List Head) (k : Nat) : Bool := match hs[k]? with | some h => zdY h && (decide (k = 0) || zjF ((hs[k - 1]?).getD zdG) h) | none => true
def headsOk (hs : List Head) : Bool := (List.range hs.length).all (zdi hs)
def zeH (p : Poll) (i : Nat) : Bool := match p.questions[i]? with
 | some q => zbu p.text q.at_ && (decide (i = 0) || zdo ((p.questions[i - 1]?).getD zio).at_ q.at_) && inB q.heads.length 2 3 && headsOk q.heads
 | none => true
def zgO (p : Poll) (v : Voter) (k : Nat) : Bool := match v.votes[k]?, p.questions[k]? with | some n, some q => inB n (-1) ((q.heads.length : Int) - 1) | _, _ => true
def ziK (p : Poll) (v : Voter) : Bool := (List.range v.votes.length).all (zgO p v)
def zjv (p : Poll) (v : Voter) : Bool := inB v.id 0 9999 && inB v.wrong 0 6 && decide (v.votes.length = p.questions.length) && ziK p v
def zeu (p : Poll) (i : Nat) : Bool := match p.voters[i]? with | some v => zjv p v && (p.voters.take i).all fun u => decide (u.id ≠ v.id) | none => true
def zcW (p : Poll) : Bool := decide (p.questions.length ≤ 6) && decide (p.voters.length ≤ 6) && (List.range p.questions.length).all (zeH p) && (List.range p.voters.length).all (zeu p)
def zci (p : Poll) : Int := if zaG p.text p.lexicon ≠ 0 then zaG p.text p.lexicon else if zcW p = true then 0 else 70
def zgp (v : Voter) (hs : List Int) (k : Nat) : Bool := match v.votes[k]?, hs[k]? with | some a, some b => decide (0 ≤ a) && decide (a ≠ b) | _, _ => false
def zdv (v : Voter) (hs : List Int) : Nat := ((List.range hs.length).filter (zgp v hs)).length
def inAt (p : Poll) (hs : List Int) (k : Nat) : Bool := match hs[k]?, p.questions[k]? with | some n, some q => inB n 0 ((q.heads.length : Int) - 1) | _, _ => true
def trueB (p : Poll) (hs : List Int) : Bool := decide (hs.length = p.questions.length) && (List.range hs.length).all (inAt p hs) && p.voters.all fun v => decide ((zdv v hs : Int) ≤ v.wrong)
def candL : List Nat → List (List Int)
 | [] => [[]]
 | n :: ns => (List.range n).flatMap fun (h : Nat) => (candL ns).map fun t => (h : Int) :: t
def zhY (p : Poll) : List Nat := p.questions.map (·.heads.length)
def zac (p : Poll) : List (List Int) := (candL (zhY p)).filter (trueB p)
theorem wrongN_snoc (v : Voter) (hs : List Int) (h : Int) : zdv v (hs ++ [h]) = zdv v hs + if (match v.votes[hs.length]? with | some a => decide (0 ≤ a) && decide (a ≠ h) | none => false) = true then 1 else 0 := by
 rw [zdv, List.length_append, List.length_cons, List.length_nil, Nat.zero_add, List.range_succ, List.filter_append, List.length_append];congr 1
 ·rw [zdv];congr 1;refine List.filter_congr fun k hk => ?_;have hk := List.mem_range.1 hk;simp only [zgp];rw [List.getElem?_append_left hk]
 have e : zgp v (hs ++ [h]) hs.length = (match v.votes[hs.length]? with | some a => decide (0 ≤ a) && decide (a ≠ h) | none => false) := by
  simp only [zgp];have e1 : (hs ++ [h])[hs.length]? = some h := by simp
  rw [e1];cases v.votes[hs.length]? <;> rfl
 rw [List.filter_cons, e, List.filter_nil];generalize (match v.votes[hs.length]? with | some a => decide (0 ≤ a) && decide (a ≠ h) | none => false) = c;cases c <;> rfl
theorem wrongN_pre (v : Voter) : ∀ (t hs : List Int), zdv v hs ≤ zdv v (hs ++ t)
 | [], hs => by simp
 | a :: t, hs => by
  have h1 := wrongN_pre v t (hs ++ [a]);have h2 := wrongN_snoc v hs a;rw [List.append_assoc] at h1;have : zdv v hs ≤ zdv v (hs ++ [a]) := by omega
  exact Nat.le_trans this h1
theorem flat_congr {α β : Type} {f g : α → List β} : ∀ {l : List α}, (∀ a ∈ l, f a = g a) → l.flatMap f = l.flatMap g
 | [], _ => rfl
 | a :: l, h => by rw [List.flatMap_cons, List.flatMap_cons, h a List.mem_cons_self, flat_congr fun b hb => h b (List.mem_cons_of_mem _ hb)]
theorem filter_flat {α β : Type} (q : β → Bool) (f : α → List β) : ∀ l : List α, (l.flatMap f).filter q = l.flatMap fun a => (f a).filter q
 | [] => rfl
 | a :: l => by rw [List.flatMap_cons, List.flatMap_cons, List.filter_append, filter_flat q f l]
theorem map_flat {α β γ : Type} (g : β → γ) (f : α → List β) : ∀ l : List α, (l.flatMap f).map g = l.flatMap fun a => (f a).map g
 | [] => rfl
 | a :: l => by rw [List.flatMap_cons, List.flatMap_cons, List.map_append, map_flat g f l]
def zcx (p : Poll) (now : List Int) : List (List Int) := ((candL ((zhY p).drop now.length)).map (now ++ ·)).filter (trueB p)
theorem truthsFrom_nil (p : Poll) : zcx p [] = zac p := by simp [zcx, zac]
theorem truthsFrom_next {p : Poll} {now : List Int} {n : Nat} (hn : (zhY p)[now.length]? = some n) : zcx p now = (List.range n).flatMap fun (h : Nat) => zcx p (now ++ [(h : Int)]) := by
 rw [zcx, zhy hn, candL, map_flat, filter_flat];refine flat_congr fun h _ => ?_;rw [zcx];congr 1;rw [List.map_map, List.length_append, List.length_cons, List.length_nil, Nat.zero_add];refine List.map_congr_left fun t _ => ?_;simp
theorem truthsFrom_all {p : Poll} {now : List Int} (hn : now.length = p.questions.length) : zcx p now = if trueB p now = true then [now] else [] := by
 have e : (zhY p).drop now.length = [] := List.drop_eq_nil_of_le (by rw [zhY, List.length_map]; omega);rw [zcx, e, candL];simp only [List.map_cons, List.map_nil, List.append_nil, List.filter_cons, List.filter_nil]
theorem truthsFrom_none {p : Poll} {now : List Int} {v : Voter} (hv : v ∈ p.voters) (hw : v.wrong < (zdv v now : Int)) : zcx p now = [] := by
 rw [zcx, List.filter_eq_nil_iff];intro hs hh;obtain ⟨t, _, rfl⟩ := List.mem_map.1 hh;simp only [trueB, Bool.and_eq_true, List.all_eq_true, decide_eq_true_eq, not_and];intro _ q;have h1 := q v hv;have h2 := wrongN_pre v t now;omega
theorem zdu {P : Nat → Bool} {k : Nat} (h : ∀ j, j < k → P j = true) (hk : P k = true) : ∀ j, j < k + 1 → P j = true := by
 intro j hj
 by_cases e : j = k
 ·subst e; exact hk
 exact h j zr
theorem zhr {P : Nat → Bool} {n k : Nat} (h : ∀ j, j < k → P j = true) (hk : n ≤ k) : (List.range n).all P = true := by
 rw [List.all_eq_true];intro j hj;exact h j (by have := List.mem_range.1 hj; omega)
theorem range_no {P : Nat → Bool} {n k : Nat} (h : P k = false) (hk : k < n) : (List.range n).all P = false := by
 rw [List.all_eq_false];exact ⟨k, List.mem_range.2 hk, by simp [h]⟩
theorem all_snocB {α : Type} {q : α → Bool} {l : List α} {k : Nat} {a : α} (h : l[k]? = some a) : (l.take (k + 1)).all q = ((l.take k).all q && q a) := by rw [zbg h, List.all_append]; simp
theorem headsOk_no {hs : List Head} {k : Nat} (h : zdi hs k = false) : headsOk hs = false := by
 refine range_no h ?_;refine Classical.byContradiction fun q => ?_;simp [zdi, List.getElem?_eq_none (show hs.length ≤ k by omega)] at h
theorem votesOk_no {p : Poll} {v : Voter} {k : Nat} (h : zgO p v k = false) : ziK p v = false := by
 refine range_no h ?_;refine Classical.byContradiction fun q => ?_;simp [zgO, List.getElem?_eq_none (show v.votes.length ≤ k by omega)] at h
theorem poll_q {p : Poll} {i : Nat} (h : zeH p i = false) : zcW p = false := by
 have : (List.range p.questions.length).all (zeH p) = false := by
  refine range_no h ?_;refine Classical.byContradiction fun q => ?_;simp [zeH, List.getElem?_eq_none (show p.questions.length ≤ i by omega)] at h
 rw [zcW, this]; simp
theorem poll_v {p : Poll} {i : Nat} (h : zeu p i = false) : zcW p = false := by
 have : (List.range p.voters.length).all (zeu p) = false := by
  refine range_no h ?_;refine Classical.byContradiction fun q => ?_;simp [zeu, List.getElem?_eq_none (show p.voters.length ≤ i by omega)] at h
 rw [zcW, this]; simp
theorem poll_true {p : Poll} {i j : Nat} (h1 : p.questions.length ≤ 6) (h2 : p.voters.length ≤ 6) (h3 : ∀ k, k < i → zeH p k = true) (hi : p.questions.length ≤ i) (h4 : ∀ k, k < j → zeu p k = true) (hj : p.voters.length ≤ j) : zcW p = true := by
 rw [zcW, zhr h3 hi, zhr h4 hj, decide_eq_true h1, decide_eq_true h2]; rfl
theorem zez {p : Poll} (h : zcW p = true) {i : Nat} {q : Question} (hq : p.questions[i]? = some q) : zbu p.text q.at_ = true ∧ 2 ≤ q.heads.length ∧ q.heads.length ≤ 3 ∧ headsOk q.heads = true := by
 simp only [zcW, Bool.and_eq_true, List.all_eq_true] at h;have h1 := h.1.2 i (List.mem_range.2 (List.getElem?_eq_some_iff.1 hq).1);simp only [zeH, hq, Bool.and_eq_true, inB, decide_eq_true_eq] at h1;refine ⟨h1.1.1.1, by omega, by omega, h1.2⟩
theorem zhs {p : Poll} (h : zcW p = true) {v : Voter} (hv : v ∈ p.voters) : 0 ≤ v.wrong ∧ v.wrong ≤ 6 ∧ v.votes.length = p.questions.length ∧ ziK p v = true := by
 obtain ⟨i, hi⟩ := List.mem_iff_getElem?.1 hv;simp only [zcW, Bool.and_eq_true, List.all_eq_true] at h;have h1 := h.2 i (List.mem_range.2 (List.getElem?_eq_some_iff.1 hi).1);simp only [zeu, hi, zjv, Bool.and_eq_true, inB, decide_eq_true_eq] at h1;obtain ⟨⟨⟨⟨_, h2⟩, h3⟩, h4⟩, _⟩ := h1;exact ⟨h2.1, h2.2, h3, h4⟩
theorem zds {p : Poll} (h : zcW p = true) : p.questions.length ≤ 6 ∧ p.voters.length ≤ 6 := by
 simp only [zcW, Bool.and_eq_true, decide_eq_true_eq] at h;exact ⟨h.1.1.1, h.1.1.2⟩
theorem true_len {p : Poll} {hs : List Int} (h : trueB p hs = true) : hs.length = p.questions.length := by
 simp only [trueB, Bool.and_eq_true, decide_eq_true_eq] at h; exact h.1.1
theorem true_in {p : Poll} {hs : List Int} (h : trueB p hs = true) {k : Nat} {a : Int} {q : Question} (ha : hs[k]? = some a) (hq : p.questions[k]? = some q) : 0 ≤ a ∧ a < (q.heads.length : Int) := by
 simp only [trueB, Bool.and_eq_true, List.all_eq_true] at h;have := h.1.2 k (List.mem_range.2 (List.getElem?_eq_some_iff.1 ha).1);simp only [inAt, ha, hq, inB, Bool.and_eq_true, decide_eq_true_eq] at this;omega
theorem true_yes {p : Poll} {hs : List Int} {i k : Nat} (h1 : hs.length = p.questions.length) (h2 : ∀ j, j < i → inAt p hs j = true) (hi : hs.length ≤ i) (h3 : ∀ v ∈ p.voters.take k, (zdv v hs : Int) ≤ v.wrong) (hk : p.voters.length ≤ k) : trueB p hs = true := by
 rw [List.take_of_length_le hk] at h3;have : (p.voters.all fun v => decide ((zdv v hs : Int) ≤ v.wrong)) = true := List.all_eq_true.2 fun v hv => decide_eq_true (h3 v hv);rw [trueB, zhr h2 hi, this, decide_eq_true h1]; rfl
def ziu (v : Voter) (hs : List Int) (k : Nat) : Nat := ((List.range k).filter (zgp v hs)).length
theorem wrongK_succ (v : Voter) (hs : List Int) (k : Nat) : ziu v hs (k + 1) = ziu v hs k + if zgp v hs k = true then 1 else 0 := by
 rw [ziu, List.range_succ, List.filter_append, List.length_append, List.filter_cons, List.filter_nil, ziu];split <;> rfl
theorem wrongK_le (v : Voter) (hs : List Int) (k : Nat) : ziu v hs k ≤ k := by
 have := List.length_filter_le (zgp v hs) (List.range k);rw [List.length_range] at this; exact this
theorem poll_q2 {p : Poll} {i k : Nat} {q : Question} (hq : p.questions[i]? = some q) (h : zdi q.heads k = false) : zcW p = false := by
 refine poll_q (i := i) ?_;simp only [zeH, hq, headsOk_no h, Bool.and_false]
theorem poll_v2 {p : Poll} {i k : Nat} {v : Voter} (hv : p.voters[i]? = some v) (h : zgO p v k = false) : zcW p = false := by
 refine poll_v (i := i) ?_;simp only [zeu, hv, zjv, votesOk_no h, Bool.and_false, Bool.false_and]
theorem poll_v3 {p : Poll} {i k : Nat} {v u : Voter} (hv : p.voters[i]? = some v) (hu : p.voters[k]? = some u) (hk : k < i) (h : u.id = v.id) : zcW p = false := by
 refine poll_v (i := i) ?_;have : ((p.voters.take i).all fun u => decide (u.id ≠ v.id)) = false := by
  refine List.all_eq_false.2 ⟨u, ?_, by simp [h]⟩;exact List.mem_of_getElem? (i := k) (by rw [List.getElem?_take_of_lt hk]; exact hu)
 simp only [zeu, hv, this, Bool.and_false]
theorem wrongAt_neg {v : Voter} {xs : List Int} {k : Nat} {a : Int} (ha : v.votes[k]? = some a) (h : ¬ 0 ≤ a) : zgp v xs k = false := by
 simp only [zgp, ha];cases xs[k]? with
 | none => rfl
 | some c => simp [h]
theorem zhm {v : Voter} {xs : List Int} {k : Nat} {a c : Int} (ha : v.votes[k]? = some a) (hc : xs[k]? = some c) : zgp v xs k = (decide (0 ≤ a) && decide (a ≠ c)) := by simp only [zgp, ha, hc]
end Go.Pk

namespace Go.Pk
open Go Go.RowKit
def zcZ (p : Poll) (so : Bool) : Int := if zci p ≠ 0 then zci p else if so = false then 2 else if zac p = [] then 8 else 0
def zes (p : Poll) (so : Bool) : List (List Int) := if zcZ p so = 0 then zac p else []
theorem zbM {p : Poll} (h : zci p = 0) : zaG p.text p.lexicon = 0 ∧ zcW p = true := by
 unfold zci at h;split at h
 ·rename_i q; exact absurd h q
 rename_i q;split at h
 ·rename_i q2; exact ⟨by simpa using q, q2⟩
 cases h
theorem zhB {p : Poll} {so : Bool} (h : zcZ p so = 0) : zci p = 0 ∧ so = true ∧ zac p ≠ [] ∧ zes p so = zac p := by
 have h0 := h;unfold zcZ at h;split at h
 ·rename_i q; exact absurd h q
 rename_i q;split at h
 ·cases h
 rename_i q2;split at h
 ·cases h
 rename_i q3;exact ⟨by simpa using q, by simpa using q2, q3, by rw [zes, if_pos h0]⟩
def prodL : List Nat → Nat
 | [] => 1
 | n :: ns => n * prodL ns
theorem candL_len : ∀ ns : List Nat, (candL ns).length = prodL ns
 | [] => rfl
 | n :: ns => by
  rw [candL, prodL, List.length_flatMap];simp only [List.length_map, candL_len ns]
  induction n with
  | zero => simp
  | succ n ih => rw [List.range_succ, List.map_append, List.sum_append, ih, Nat.succ_mul]; simp
def zgX (l : List (List Int)) (q : Nat) (h : Int) : Nat := (l.filter fun t => decide (t[q]? = some h)).length
def worstK (l : List (List Int)) (q : Nat) : Nat → Int
 | 0 => 0
 | k + 1 => zht (worstK l q k) (zgX l q (k : Int))
def zdk (l : List (List Int)) (q : Nat) : Int := worstK l q 3
theorem cntH_snoc {l : List (List Int)} {i : Nat} {t : List Int} {q : Nat} {h : Int} (ht : l[i]? = some t) : zgX (l.take (i + 1)) q h = zgX (l.take i) q h + if t[q]? = some h then 1 else 0 := by
 rw [zgX, zbg ht, List.filter_append, List.length_append, List.filter_cons, List.filter_nil, zgX];congr 1
 by_cases e : t[q]? = some h <;> simp [e]
theorem zfR (l : List (List Int)) (q : Nat) (h : Int) : zgX l q h ≤ l.length := List.length_filter_le _ _
end Go.Pk

namespace Go.Pk
open Go Go.RowKit
theorem sizes_len (p : Poll) : (zhY p).length = p.questions.length := by rw [zhY, List.length_map]
theorem sizes_ok {p : Poll} (h : zcW p = true) : ∀ n ∈ zhY p, 2 ≤ n ∧ n ≤ 3 := by
 intro n hn;obtain ⟨q, hq, rfl⟩ := List.mem_map.1 hn;obtain ⟨i, hi⟩ := List.mem_iff_getElem?.1 hq;have := zez h hi;exact ⟨this.2.1, this.2.2.1⟩
theorem prod_pow : ∀ {ns : List Nat}, (∀ n ∈ ns, n ≤ 3) → prodL ns ≤ 3 ^ ns.length
 | [], _ => Nat.le_refl _
 | n :: ns, h => by
  rw [prodL, List.length_cons, Nat.pow_succ, Nat.mul_comm];exact Nat.mul_le_mul (prod_pow fun m hm => h m (List.mem_cons_of_mem _ hm)) (h n List.mem_cons_self)
theorem prod_le {p : Poll} (h : zcW p = true) : prodL (zhY p) ≤ 729 := by
 refine Nat.le_trans (prod_pow fun n hn => (sizes_ok h n hn).2) ?_;have : (zhY p).length ≤ 6 := by rw [sizes_len]; exact (zds h).1
 exact Nat.pow_le_pow_right zr this
theorem zfi {p : Poll} (hp : zcW p = true) : (zac p).length ≤ 729 := by
 refine Nat.le_trans (List.length_filter_le _ _) ?_;rw [candL_len]; exact prod_le hp
end Go.Pk

namespace Go.Pk
open Go Go.RowKit
def ltL : List Int → List Int → Bool
 | a :: s, b :: t => if a = b then ltL s t else decide (a < b)
 | _, _ => false
def zjP (a b : List Int) : Bool := if a.length ≠ b.length then decide (a.length < b.length) else ltL a b
def alikeL (a b l : List Int) : Bool := l.all fun k => decide (a[k.toNat]? = b[k.toNat]?)
def zjz (ts : List (List Int)) (l : List Int) (i : Nat) : Bool := match ts[i]? with | some t => (ts.take i).all fun u => !alikeL t u l | none => true
def zjy (ts : List (List Int)) (l : List Int) : Bool := (List.range ts.length).all (zjz ts l)
theorem tells_no {ts : List (List Int)} {l : List Int} {i : Nat} (h : zjz ts l i = false) : zjy ts l = false := by
 refine range_no h ?_;refine Classical.byContradiction fun q => ?_;simp [zjz, List.getElem?_eq_none (show ts.length ≤ i by omega)] at h
def zca (s : Int) (n : Nat) : List Int := ((List.range n).filter fun (i : Nat) => decide (zje s (i : Int) = 1)).map fun (i : Nat) => (i : Int)
theorem zjD (s : Int) (n : Nat) : zca s (n + 1) = zca s n ++ if zje s (n : Int) = 1 then [(n : Int)] else [] := by
 rw [zca, List.range_succ, List.filter_append, List.map_append, List.filter_cons, List.filter_nil, zca]
 by_cases h : zje s (n : Int) = 1 <;> simp [h]
theorem ziR (s : Int) (n : Nat) : (zca s n).length ≤ n := by
 rw [zca, List.length_map];have := List.length_filter_le (fun i : Nat => decide (zje s (i : Int) = 1)) (List.range n);rwa [List.length_range] at this
def askK (ts : List (List Int)) (n : Nat) : Nat → Option (List Int)
 | 0 => none
 | k + 1 => if ((match askK ts n k with | none => true | some b => zjP (zca (k : Int) n) b) && zjy ts (zca (k : Int) n)) = true then some (zca (k : Int) n) else askK ts n k
def askR7 (p : Poll) : List Int := if zcZ p true = 0 then (askK (zac p) p.questions.length (2 ^ p.questions.length)).getD [] else []
def zhK (ts : List (List Int)) : Nat → Nat
 | 0 => 0
 | k + 1 => if zdk ts (k + 1) < zdk ts (zhK ts k) then k + 1 else zhK ts k
def nextE (p : Poll) : Int := if zcZ p true ≠ 0 then zcZ p true else if (zac p).length = 1 then 6 else 0
def nextR (p : Poll) : Int := if nextE p = 0 then (zhK (zac p) (p.questions.length - 1) : Int) else 0
theorem zeh {p : Poll} {t : List Int} (h : t ∈ zac p) : t.length = p.questions.length := true_len (List.mem_filter.1 h).2
theorem truth_in {p : Poll} {t : List Int} (h : t ∈ zac p) {k : Nat} {a : Int} {q : Question} (ha : t[k]? = some a) (hq : p.questions[k]? = some q) : 0 ≤ a ∧ a < (q.heads.length : Int) := true_in (List.mem_filter.1 h).2 ha hq
def openB (ts : List (List Int)) (q : Nat) (h : Int) : Bool := ts.any fun t => decide (t[q]? = some h)
def ziQ (ts : List (List Int)) (q n : Nat) : List Int := ((List.range n).filter fun (h : Nat) => openB ts q (h : Int)).map fun (h : Nat) => (h : Int)
theorem openK_succ (ts : List (List Int)) (q n : Nat) : ziQ ts q (n + 1) = ziQ ts q n ++ if openB ts q (n : Int) = true then [(n : Int)] else [] := by
 rw [ziQ, List.range_succ, List.filter_append, List.map_append, List.filter_cons, List.filter_nil, ziQ]
 by_cases h : openB ts q (n : Int) = true <;> simp [h]
theorem openK_len (ts : List (List Int)) (q n : Nat) : (ziQ ts q n).length ≤ n := by
 rw [ziQ, List.length_map];have := List.length_filter_le (fun h : Nat => openB ts q (h : Int)) (List.range n);rwa [List.length_range] at this
def openR (p : Poll) (question : Int) : List Int := if zcZ p (inB question 0 ((p.questions.length : Int) - 1)) = 0 then ziQ (zac p) question.toNat (((p.questions[question.toNat]?).getD zio).heads.length) else []
def zfy (vs : List Voter) (q n : Nat) : List Int := (List.range n).map fun (h : Nat) => (((vs.filter fun v => decide (v.votes[q]? = some (h : Int))).length : Nat) : Int)
theorem zgB (vs : List Voter) (q n : Nat) : (zfy vs q n).length = n := by simp [zfy]
theorem tally_zero (q n : Nat) : List.replicate n (0 : Int) = zfy [] q n := by
 refine List.ext_getElem (by simp [zgB]) fun i h1 h2 => ?_;simp [zfy]
theorem tally_at (vs : List Voter) (q : Nat) {n h : Nat} (hh : h < n) : (zfy vs q n)[h]? = some (((vs.filter fun v => decide (v.votes[q]? = some (h : Int))).length : Nat) : Int) := by
 rw [zfy, List.getElem?_map, List.getElem?_range hh]; rfl
theorem tally_skip {vs : List Voter} {q n i : Nat} {v : Voter} {a : Int} (hv : vs[i]? = some v) (ha : v.votes[q]? = some a) (h : a < 0) : zfy (vs.take (i + 1)) q n = zfy (vs.take i) q n := by
 rw [zfy, zfy];refine List.map_congr_left fun k _ => ?_;rw [zbg hv, List.filter_append, List.length_append, List.filter_cons, List.filter_nil, ha, if_neg (by simp; omega)];rfl
theorem tally_set {vs : List Voter} {q n i : Nat} {v : Voter} {a x : Int} (hv : vs[i]? = some v) (ha : v.votes[q]? = some a) (h : 0 ≤ a) (hx : (zfy (vs.take i) q n)[a.toNat]? = some x) : (zfy (vs.take i) q n).set a.toNat (x + 1) = zfy (vs.take (i + 1)) q n := by
 have hl := (List.getElem?_eq_some_iff.1 hx).1;rw [zgB] at hl;rw [tally_at _ _ hl] at hx;refine List.ext_getElem? fun k => ?_
 by_cases hk : k < n
 ·rw [tally_at _ _ hk, zbg hv, List.filter_append, List.length_append, List.filter_cons, List.filter_nil, ha]
  by_cases e : k = a.toNat
  ·subst e;rw [List.getElem?_set_self (by rw [zgB]; exact hk), ← Option.some.inj hx, if_pos (by simp; omega)];simp
  ·rw [List.getElem?_set_ne (Ne.symm e), tally_at _ _ hk, if_neg (by simp; omega)];simp
 rw [List.getElem?_eq_none (by rw [List.length_set, zgB]; omega), List.getElem?_eq_none (by rw [zgB]; omega)]
def ziZ (p : Poll) (question : Int) : Int := if zci p ≠ 0 then zci p else if inB question 0 ((p.questions.length : Int) - 1) = true then 0 else 2
def tallyR (p : Poll) (question : Int) : List Int := if ziZ p question = 0 then zfy p.voters question.toNat (((p.questions[question.toNat]?).getD zio).heads.length) else []
theorem zft {s b : Int} (h0 : 0 ≤ s) (h1 : s ≤ 1000000) : 0 ≤ s / 2 ^ b.toNat ∧ s / 2 ^ b.toNat ≤ 1000000 := by
 have hp : (0 : Int) < 2 ^ b.toNat := by
  have : 0 < (2 : Nat) ^ b.toNat := Nat.pow_pos zr
  exact_mod_cast this
 exact ⟨Int.ediv_nonneg h0 zr, Int.le_trans (Int.ediv_le_self _ h0) h1⟩
theorem pow_le {n : Nat} (h : n ≤ 6) : 2 ^ n ≤ 64 ∧ (2 : Int) ^ ((n : Int)).toNat = ((2 ^ n : Nat) : Int) := by
 refine ⟨Nat.le_trans (Nat.pow_le_pow_right zr h) (by decide), ?_⟩;rw [Int.toNat_natCast]; exact_mod_cast rfl
theorem votes_in {p : Poll} {v : Voter} (h : ziK p v = true) {k : Nat} {a : Int} {q : Question} (ha : v.votes[k]? = some a) (hq : p.questions[k]? = some q) : -1 ≤ a ∧ a < (q.heads.length : Int) := by
 rw [ziK, List.all_eq_true] at h;have := h k (List.mem_range.2 (List.getElem?_eq_some_iff.1 ha).1);simp only [zgO, ha, hq, inB, Bool.and_eq_true, decide_eq_true_eq] at this;omega
theorem tally_small {vs : List Voter} {q n h : Nat} {x : Int} (hx : (zfy vs q n)[h]? = some x) : 0 ≤ x ∧ x ≤ (vs.length : Int) := by
 have hl := (List.getElem?_eq_some_iff.1 hx).1;rw [zgB] at hl;rw [tally_at _ _ hl] at hx;have := List.length_filter_le (fun v : Voter => decide (v.votes[q]? = some (h : Int))) vs;have := Option.some.inj hx;omega
end Go.Pk

namespace Go.Pk
open Go Go.RowKit
def setAt (ts : List (List Int)) (a0 : List Int) (k : Nat) : Int := match a0[k]? with | some h => if (ts.all fun t => decide (t[k]? = some h)) = true then h else -1 | none => -1
def setK (ts : List (List Int)) (a0 : List Int) : List Int := (List.range a0.length).map (setAt ts a0)
def zdr (ts : List (List Int)) : List Int := match ts[0]? with | some a0 => setK ts a0 | none => []
theorem zgl (ts : List (List Int)) (a0 : List Int) : (setK ts a0).length = a0.length := by simp [setK]
theorem setK_get {ts : List (List Int)} {a0 : List Int} {k : Nat} (hk : k < a0.length) : (setK ts a0)[k]? = some (setAt ts a0 k) := by rw [setK, List.getElem?_map, List.getElem?_range hk]; rfl
def setM (ts : List (List Int)) (a0 : List Int) (i k : Nat) : List Int := (setK (ts.take (i + 1)) a0).take k ++ (setK (ts.take i) a0).drop k
theorem setM_len (ts : List (List Int)) (a0 : List Int) (i k : Nat) : (setM ts a0 i k).length = a0.length := by
 rw [setM, List.length_append, List.length_take, List.length_drop, zgl, zgl]; omega
theorem setM_zero (ts : List (List Int)) (a0 : List Int) (i : Nat) : setM ts a0 i 0 = setK (ts.take i) a0 := by simp [setM]
theorem setM_end {ts : List (List Int)} {a0 : List Int} {i k : Nat} (hk : a0.length ≤ k) : setM ts a0 i k = setK (ts.take (i + 1)) a0 := by
 rw [setM, List.take_of_length_le (by rw [zgl]; omega), List.drop_eq_nil_of_le (by rw [zgl]; omega), List.append_nil]
theorem setM_at {ts : List (List Int)} {a0 : List Int} {i k : Nat} (hk : k < a0.length) : setM ts a0 i (k + 1) = (setM ts a0 i k).set k (setAt (ts.take (i + 1)) a0 k) := by
 have h1 : (setK (ts.take (i + 1)) a0)[k]? = some (setAt (ts.take (i + 1)) a0 k) := setK_get hk;have h2 : (setK (ts.take i) a0)[k]? = some (setAt (ts.take i) a0 k) := setK_get hk;have hl : ((setK (ts.take (i + 1)) a0).take k).length = k := by rw [List.length_take, zgl]; omega
 rw [setM, zbg h1, setM, List.set_append_right _ _ zr, hl, Nat.sub_self, zhy h2, List.set_cons_zero, List.append_assoc]; rfl
theorem setAt_snoc {ts : List (List Int)} {a0 t : List Int} {i k : Nat} {h x : Int} (ht : ts[i]? = some t) (h0 : a0[k]? = some h) (hx : t[k]? = some x) : setAt (ts.take (i + 1)) a0 k = if x = h then setAt (ts.take i) a0 k else -1 := by
 simp only [setAt, h0];rw [zbg ht, List.all_append, List.all_cons, List.all_nil, Bool.and_true, hx]
 by_cases e : x = h
 ·simp [e]
 simp [e]
theorem setM_same {ts : List (List Int)} {a0 t : List Int} {i k : Nat} {h x : Int} (ht : ts[i]? = some t) (h0 : a0[k]? = some h) (hx : t[k]? = some x) (e : x = h) : setM ts a0 i (k + 1) = setM ts a0 i k := by
 have hk : k < a0.length := (List.getElem?_eq_some_iff.1 h0).1;rw [setM_at hk, setAt_snoc ht h0 hx, if_pos e];refine List.ext_getElem? fun j => ?_
 by_cases ej : j = k
 ·subst ej;rw [List.getElem?_set_self (by rw [setM_len]; exact hk), setM, List.getElem?_append_right (by rw [List.length_take]; omega), List.length_take, zgl, Nat.min_eq_left zr, Nat.sub_self, List.getElem?_drop, Nat.add_zero, setK_get hk]
 rw [List.getElem?_set_ne (Ne.symm ej)]
theorem setM_else {ts : List (List Int)} {a0 t : List Int} {i k : Nat} {h x : Int} (ht : ts[i]? = some t) (h0 : a0[k]? = some h) (hx : t[k]? = some x) (e : ¬ x = h) : setM ts a0 i (k + 1) = (setM ts a0 i k).set k (-1) := by
 rw [setM_at (List.getElem?_eq_some_iff.1 h0).1, setAt_snoc ht h0 hx, if_neg e]
def zcL (p : Poll) : List Int := if zcZ p true = 0 then zdr (zac p) else []
def spanK (v : Voter) (ts : List (List Int)) : Span := ts.foldl (fun s t => ⟨minI s.lo (zdv v t), zht s.hi (zdv v t)⟩) ⟨6, 0⟩
theorem spanK_snoc {v : Voter} {ts : List (List Int)} {i : Nat} {t : List Int} (ht : ts[i]? = some t) : spanK v (ts.take (i + 1)) = ⟨minI (spanK v (ts.take i)).lo (zdv v t), zht (spanK v (ts.take i)).hi (zdv v t)⟩ := by rw [spanK, zbg ht, List.foldl_append]; rfl
def zhD (p : Poll) (voter : Int) : Span := if zcZ p (inB voter 0 ((p.voters.length : Int) - 1)) = 0 then spanK ((p.voters[voter.toNat]?).getD zVoter) (zac p) else zSpan
end Go.Pk

namespace Go.Pk
open Go Go.RowKit
section
variable {P : Program} {σ : Env} {w : World} {ty : TypeId} {pos : String} {aft : Array Edge} {g : Option (Nat × Bool)} {dst : Option Tmp}
theorem r_sgtr {t t' : TypeId} {x y : Operand} {a b : Str} (hx : ev σ x = zN a) (hy : ev σ y = zN b) : Run P σ w ⟨dst, .binOp .gtr t x y t', ty, pos, aft, g⟩ (.bool (!(Op.bytesLess a b || decide (a = b)))) w := by
 simp only [zN] at hx hy;simp [Run, execOp, hx, hy, eqGuard, binOp, Op.stringOp, beq_str]
theorem zgU {t e : TypeId} {x ix : Operand} {i : Int} {k m n : Nat} {vs us : List Value} (hx : ev σ x = .agg vs.toArray) (hi : ev σ ix = .int .i64 i) (hk : i = (k : Int)) (hlt : Nat.blt k n = true) (hu : P.underlying t = some (.array n e)) (ha : ∀ w, (isAgg e).run P w = .ok true w) (hz : ∀ w, (sizeOf e).run P w = .ok m w) (hv : (vs.drop (k * m)).take m = us) :
  Run P σ w ⟨dst, .index t x ix, ty, pos, aft, g⟩ (.agg us.toArray) w := by
 subst hk hv;have h1 : k < n := by rwa [Nat.blt_eq] at hlt
 simp [Run, execOp, hx, hi, Instr.index, asIntOf, run_underlying hu, h1, part, ha, hz]
end
def cmpT (a b : Str) : Int := if sLt a b = true then -1 else if a = b then 0 else 1
def orL : List Int → Int
 | [] => 0
 | a :: l => if a ≠ 0 then a else orL l
theorem orL_drop {l : List Int} {k : Nat} {a : Int} (h : l[k]? = some a) : orL (l.drop k) = if a ≠ 0 then a else orL (l.drop (k + 1)) := by rw [zhy h]; rfl
theorem places_lt (a b : Place) : decide (orL [zdd a.chapter b.chapter, zdd a.line b.line, zdd a.word b.word] < 0) = zdo a b := by
 rcases a with ⟨a1, a2, a3⟩; rcases b with ⟨b1, b2, b3⟩
 simp only [orL, zdd, zdo, ne_eq];rw [Bool.eq_iff_iff, decide_eq_true_eq]
 by_cases h1 : a1 = b1 <;> by_cases h2 : a2 = b2 <;> simp only [h1, h2, not_true_eq_false, not_false_eq_true, if_true, if_false, decide_eq_true_eq, Int.lt_irrefl] <;> (repeat' split) <;> omega
theorem heads_lt (a b : Head) : decide (orL [cmpT a.stem b.stem, zdd a.mark b.mark] < 0) = zjF a b := by
 rcases a with ⟨s1, m1⟩; rcases b with ⟨s2, m2⟩
 simp only [orL, cmpT, zdd, zjF, ne_eq];rw [Bool.eq_iff_iff, decide_eq_true_eq]
 by_cases h1 : sLt s1 s2 = true
 ·simp [h1]
 simp only [h1, if_false, Bool.or_eq_true, Bool.and_eq_true, decide_eq_true_eq, false_or, Bool.false_eq_true]
 by_cases h2 : s1 = s2
 ·subst h2;simp only [if_true, not_true_eq_false, if_false, true_and]
  (repeat' split) <;> omega
 simp [h2]
def zey (p : Poll) (i : Nat) (q : Question) : Bool := zbu p.text q.at_ && (decide (i = 0) || zdo ((p.questions[i - 1]?).getD zio).at_ q.at_) && inB q.heads.length 2 3
def zgg (p : Poll) (i : Nat) (q : Question) (k : Nat) : Bool := zey p i q && (List.range k).all (zdi q.heads)
theorem ziP (p : Poll) (i : Nat) (q : Question) (k : Nat) : zgg p i q (k + 1) = (zgg p i q k && zdi q.heads k) := by
 simp only [zgg, List.range_succ, List.all_append, List.all_cons, List.all_nil, Bool.and_true, Bool.and_assoc]
theorem questK_zero (p : Poll) (i : Nat) (q : Question) : zgg p i q 0 = zey p i q := by simp [zgg]
theorem quest_eq {p : Poll} {i k : Nat} {q : Question} (hq : p.questions[i]? = some q) (hk : q.heads.length = k) : zeH p i = zgg p i q k := by
 subst hk;simp only [zeH, hq, zgg, zey, headsOk]
section
variable {p : Poll} {i k : Nat} {q q1 : Question} {hd h1 : Head}
theorem q_init0 (a : (if zbu p.text q.at_ = true then (0 : Int) else 12) = 0) (b : zcU [(q.heads.length : Int)] 2 3 = true) (c : (i : Int) = 0) : true = zey p i q := by
 have a : zbu p.text q.at_ = true := by
  cases e : zbu p.text q.at_
  ·rw [e] at a; simp at a
  ·rfl
 rw [inAll_one] at b;simp only [zey, a, b, decide_eq_true (show i = 0 by omega), Bool.and_true, Bool.true_or]
theorem q_init1 (a : (if zbu p.text q.at_ = true then (0 : Int) else 12) = 0) (b : zcU [(q.heads.length : Int)] 2 3 = true) (c : ¬ (i : Int) = 0) (d : p.questions[i - 1]? = some q1) : decide (orL [zdd q1.at_.chapter q.at_.chapter, zdd q1.at_.line q.at_.line, zdd q1.at_.word q.at_.word] < 0) = zey p i q := by
 have a : zbu p.text q.at_ = true := by
  cases e : zbu p.text q.at_
  ·rw [e] at a; simp at a
  ·rfl
 rw [inAll_one] at b;simp only [zey, a, b, decide_eq_false (show ¬ i = 0 by omega), Bool.and_true, Bool.true_and, Bool.false_or, places_lt, d, Option.getD_some]
theorem q_init2 (b : zcU [(q.heads.length : Int)] 2 3 = false) : false = zey p i q := by
 rw [inAll_one] at b;simp only [zey, b, Bool.and_false]
theorem q_init3 (a : ¬ (if zbu p.text q.at_ = true then (0 : Int) else 12) = 0) : false = zey p i q := by
 have a : zbu p.text q.at_ = false := by
  cases e : zbu p.text q.at_
  ·rfl
  ·rw [e] at a; simp at a
 simp only [zey, a, Bool.false_and]
theorem q_step0 (a : zgg p i q k = true) (b : zdY hd = true) (c : (k : Int) = 0) (d : q.heads[k]? = some hd) : true = (zgg p i q k && zdi q.heads k) := by
 simp only [a, zdi, d, b, decide_eq_true (show k = 0 by omega), Bool.true_or, Bool.and_true]
theorem q_step1 (a : zgg p i q k = true) (b : zdY hd = true) (c : ¬ (k : Int) = 0) (d : q.heads[k]? = some hd) (e : q.heads[k - 1]? = some h1) : decide (orL [cmpT h1.stem hd.stem, zdd h1.mark hd.mark] < 0) = (zgg p i q k && zdi q.heads k) := by
 simp only [a, zdi, d, b, e, decide_eq_false (show ¬ k = 0 by omega), Bool.false_or, Bool.true_and, heads_lt, Option.getD_some]
theorem q_step2 (b : zdY hd = false) (d : q.heads[k]? = some hd) : false = (zgg p i q k && zdi q.heads k) := by
 simp only [zdi, d, b, Bool.false_and, Bool.and_false]
theorem q_step3 (a : zgg p i q k = false) : false = (zgg p i q k && zdi q.heads k) := by simp only [a, Bool.false_and]
end
def zcg (p : Poll) (v : Voter) (i : Nat) : Nat → Bool
 | 0 => inB v.id 0 9999
 | 1 => inB v.wrong 0 6
 | 2 => decide (v.votes.length = p.questions.length)
 | 3 => ziK p v
 | _ => !((p.voters.take i).any fun u => decide (u.id = v.id))
theorem ask_all {p : Poll} {v : Voter} {i k : Nat} (hv : p.voters[i]? = some v) (h : ∀ m, m < k → zcg p v i m = true) (hk : 5 ≤ k) : zeu p i = true := by
 have h0 := h 0 zr; have h1 := h 1 zr; have h2 := h 2 zr; have h3 := h 3 zr; have h4 := h 4 zr;simp only [zcg] at h0 h1 h2 h3 h4;simp only [zeu, hv, zjv, h0, h1, h2, h3, Bool.and_true, Bool.true_and];rw [List.all_eq_true];intro u hu;simp only [Bool.not_eq_true', List.any_eq_false, decide_eq_true_eq] at h4;exact decide_eq_true (h4 u hu)
theorem ask_no {p : Poll} {v : Voter} {i k : Nat} (hv : p.voters[i]? = some v) (h : zcg p v i k = false) : zcW p = false := by
 refine poll_v (i := i) ?_;simp only [zeu, hv, zjv]
 match k, h with
 | 0, h => simp only [zcg] at h; simp [h]
 | 1, h => simp only [zcg] at h; simp [h]
 | 2, h => simp only [zcg] at h; simp [h]
 | 3, h => simp only [zcg] at h; simp [h]
 | k + 4, h =>
  simp only [zcg, Bool.not_eq_false', List.any_eq_true, decide_eq_true_eq] at h;obtain ⟨u, hu, e⟩ := h;have : ((p.voters.take i).all fun u => decide (u.id ≠ v.id)) = false := List.all_eq_false.2 ⟨u, hu, by simp [e]⟩;rw [this, Bool.and_false]
theorem asked_len {p : Poll} {v u : Voter} {j : Nat} (hv : p.voters[j]? = some v) (h : zcg p v j 2 = true) : u.votes.length = p.questions.length ∨ p.voters[((j : Int)).toNat]? ≠ some u := by
 by_cases e : p.voters[((j : Int)).toNat]? = some u
 ·rw [Int.toNat_natCast, hv] at e;cases e;exact .inl (by simpa [zcg] using h)
 exact .inr e
theorem zgH {p : Poll} (h0 : zaG p.text p.lexicon = 0) (h : zcW p = false) : zci p = 70 := by simp [zci, h0, h]
theorem check_yes {p : Poll} (h0 : zaG p.text p.lexicon = 0) (h : zcW p = true) : zci p = 0 := by simp [zci, h0, h]
theorem quest_no {p : Poll} {i : Nat} {q : Question} (hq : p.questions[i]? = some q) (h : zey p i q = false) : zeH p i = false := by
 simp only [zeH, hq];show (zey p i q && headsOk q.heads) = false;rw [h]; rfl
theorem quest_ok {p : Poll} {i : Nat} {q : Question} (h : zey p i q = true) : zbu p.text q.at_ = true ∧ (decide (i = 0) || zdo ((p.questions[i - 1]?).getD zio).at_ q.at_) = true ∧ inB q.heads.length 2 3 = true := by
 simp only [zey, Bool.and_eq_true] at h;exact ⟨h.1.1, h.1.2, h.2⟩
def voteB (p : Poll) (v : Voter) : Bool := inB v.id 0 9999 && inB v.wrong 0 6 && decide (v.votes.length = p.questions.length)
theorem vote_no {p : Poll} {i : Nat} {v : Voter} (hv : p.voters[i]? = some v) (h : voteB p v = false) : zeu p i = false := by
 simp only [zeu, hv, zjv];show ((voteB p v && ziK p v) && _) = false;rw [h]; rfl
theorem vote_ok {p : Poll} {v : Voter} (h : voteB p v = true) : inB v.id 0 9999 = true ∧ inB v.wrong 0 6 = true ∧ v.votes.length = p.questions.length := by
 simp only [voteB, Bool.and_eq_true, decide_eq_true_eq] at h;exact ⟨h.1.1, h.1.2, h.2⟩
end Go.Pk

namespace Go.Pk
open Go Go.RowKit
def zfD (now : List Int) (v : Voter) : Int := v.wrong - (zdv v now : Int)
def leftL (p : Poll) (now : List Int) : List Int := p.voters.map (zfD now)
def zgF (p : Poll) (now : List Int) (h : Int) (i : Nat) : List Int := (p.voters.take i).map (zfD (now ++ [h])) ++ (p.voters.drop i).map (zfD now)
structure NowOk (p : Poll) (now : List Int) : Prop where
 len : now.length ≤ p.questions.length
 ins : ∀ k, k < now.length → inAt p now k = true
 wr : ∀ v ∈ p.voters, (zdv v now : Int) ≤ v.wrong
theorem now_nil {p : Poll} (hp : zcW p = true) : NowOk p [] := by
 refine ⟨Nat.zero_le _, fun k hk => absurd hk (by simp), fun v hv => ?_⟩;have := zhs hp hv;have e : zdv v [] = 0 := rfl;rw [e]; omega
theorem now_true {p : Poll} {now : List Int} (h : NowOk p now) (hl : now.length = p.questions.length) : trueB p now = true :=
 true_yes (i := now.length) (k := p.voters.length) hl h.ins (Nat.le_refl _) (fun v hv => h.wr v (List.mem_of_mem_take hv)) (Nat.le_refl _)
theorem now_snoc {p : Poll} {now : List Int} {q : Question} {h : Nat} (hn : NowOk p now) (hq : p.questions[now.length]? = some q) (hh : h < q.heads.length) (hw : ∀ v ∈ p.voters, (zdv v (now ++ [(h : Int)]) : Int) ≤ v.wrong) : NowOk p (now ++ [(h : Int)]) := by
 have hlt := (List.getElem?_eq_some_iff.1 hq).1;refine ⟨by simp; omega, fun k hk => ?_, hw⟩;rw [List.length_append, List.length_cons, List.length_nil] at hk
 by_cases e : k < now.length
 ·have := hn.ins k e;simp only [inAt, List.getElem?_append_left e] at this ⊢;exact this
 obtain rfl : k = now.length := by omega
 simp only [inAt, hq, List.getElem?_append_right (Nat.le_refl _), Nat.sub_self, List.getElem?_cons_zero, inB, Bool.and_eq_true, decide_eq_true_eq];omega
theorem zjn (p : Poll) (now : List Int) : (leftL p now).length = p.voters.length := by simp [leftL]
theorem zhw (p : Poll) (now : List Int) (h : Int) (i : Nat) : (zgF p now h i).length = p.voters.length := by simp [zgF]; omega
theorem leftM_zero (p : Poll) (now : List Int) (h : Int) : zgF p now h 0 = leftL p now := by simp [zgF, leftL]
theorem leftM_all {p : Poll} (now : List Int) (h : Int) {i : Nat} (hi : p.voters.length ≤ i) : zgF p now h i = leftL p (now ++ [h]) := by
 rw [zgF, List.take_of_length_le hi, List.drop_eq_nil_of_le hi]; simp [leftL]
theorem leftM_at {p : Poll} {now : List Int} {h : Int} {i : Nat} {v : Voter} (hv : p.voters[i]? = some v) : (zgF p now h i)[i]? = some (zfD now v) := by
 have hlt := (List.getElem?_eq_some_iff.1 hv).1;rw [zgF, List.getElem?_append_right (by simp; omega)];simp [List.length_take, Nat.min_eq_left (Nat.le_of_lt hlt), hv]
theorem leftM_next {p : Poll} {now : List Int} {h : Int} {i : Nat} {v : Voter} (hv : p.voters[i]? = some v) : zgF p now h (i + 1) = (zgF p now h i).set i (zfD (now ++ [h]) v) := by
 have hlt := (List.getElem?_eq_some_iff.1 hv).1;rw [zgF, zgF, zbg hv, zhy hv, List.map_append, List.map_cons, List.map_nil, List.map_cons, List.set_append_right _ _ (by simp; omega), List.length_map, List.length_take, Nat.min_eq_left (Nat.le_of_lt hlt), Nat.sub_self, List.set_cons_zero, List.append_assoc];rfl
theorem leftV_same {now : List Int} {h a : Int} {v : Voter} (ha : v.votes[now.length]? = some a) (hc : a < 0 ∨ a = h) : zdv v (now ++ [h]) = zdv v now := by
 rw [wrongN_snoc, ha, if_neg, Nat.add_zero];simp only [Bool.and_eq_true, decide_eq_true_eq];rintro ⟨h1, h2⟩
 rcases hc with hc | hc
 ·omega
 exact h2 hc
theorem leftV_less {now : List Int} {h a : Int} {v : Voter} (ha : v.votes[now.length]? = some a) (h1 : ¬ a < 0) (h2 : ¬ a = h) : zdv v (now ++ [h]) = zdv v now + 1 := by
 rw [wrongN_snoc, ha, if_pos];simp only [Bool.and_eq_true, decide_eq_true_eq];exact ⟨by omega, h2⟩
theorem leftM_skip {p : Poll} {now : List Int} {h a : Int} {i : Nat} {v : Voter} (hv : p.voters[i]? = some v) (ha : v.votes[now.length]? = some a) (hc : a < 0 ∨ a = h) : zgF p now h (i + 1) = zgF p now h i := by
 rw [leftM_next hv];have e : zfD (now ++ [h]) v = zfD now v := by rw [zfD, zfD, leftV_same ha hc]
 rw [e];have q := leftM_at (now := now) (h := h) hv;refine List.ext_getElem? fun j => ?_;rw [List.getElem?_set];split
 ·rename_i ej;subst ej;rw [q, if_pos (List.getElem?_eq_some_iff.1 q).1]
 rfl
theorem leftM_less {p : Poll} {now : List Int} {h a : Int} {i : Nat} {v : Voter} (hv : p.voters[i]? = some v) (ha : v.votes[now.length]? = some a) (h1 : ¬ a < 0) (h2 : ¬ a = h) : zgF p now h (i + 1) = (zgF p now h i).set i (zfD now v - 1) := by
 rw [leftM_next hv];have e : zfD (now ++ [h]) v = zfD now v - 1 := by rw [zfD, zfD, leftV_less ha h1 h2]; omega
 rw [e]
theorem left_neg {now : List Int} {h a z : Int} {v : Voter} (ha : v.votes[now.length]? = some a) (h1 : ¬ a < 0) (h2 : ¬ a = h) (hz : z = zfD now v - 1) (hn : z < 0) : v.wrong < (zdv v (now ++ [h]) : Int) := by
 rw [leftV_less ha h1 h2]; rw [zfD] at hz; omega
theorem left_pos {now : List Int} {h a z : Int} {v : Voter} (ha : v.votes[now.length]? = some a) (h1 : ¬ a < 0) (h2 : ¬ a = h) (hz : z = zfD now v - 1) (hn : ¬ z < 0) : (zdv v (now ++ [h]) : Int) ≤ v.wrong := by
 rw [leftV_less ha h1 h2]; rw [zfD] at hz; omega
theorem left_skip {p : Poll} {now : List Int} {h a : Int} {v : Voter} (hn : NowOk p now) (hv : v ∈ p.voters) (ha : v.votes[now.length]? = some a) (hc : a < 0 ∨ a = h) : (zdv v (now ++ [h]) : Int) ≤ v.wrong := by
 rw [leftV_same ha hc]; exact hn.wr v hv
theorem left_at {p : Poll} {now : List Int} {h x : Int} {i : Nat} {v : Voter} (hv : p.voters[i]? = some v) (hx : (zgF p now h i)[i]? = some x) : x = zfD now v := by
 rw [leftM_at hv] at hx; exact (Option.some.inj hx).symm
theorem left_bound {p : Poll} {now : List Int} {v : Voter} (hp : zcW p = true) (hn : NowOk p now) (hv : v ∈ p.voters) : 0 ≤ zfD now v ∧ zfD now v ≤ 6 := by
 have h1 := zhs hp hv;have h2 := hn.wr v hv;rw [zfD]; omega
theorem set_at {l : List Int} {i : Nat} {x z : Int} (h : (l.set i x)[i]? = some z) : z = x := by
 rw [List.getElem?_set] at h;simp only [if_true] at h;split at h
 ·exact (Option.some.inj h).symm
 cases h
def zhV (p : Poll) (i : Nat) : List Int := (p.voters.take i).map (·.wrong) ++ List.replicate (p.voters.length - i) 0
theorem startL_zero (p : Poll) : zhV p 0 = List.replicate p.voters.length 0 := by simp [zhV]
theorem startL_len {p : Poll} {i : Nat} (h : i ≤ p.voters.length) : (zhV p i).length = p.voters.length := by simp [zhV]; omega
theorem startL_set {p : Poll} {i : Nat} {v : Voter} (hv : p.voters[i]? = some v) : (zhV p i).set i v.wrong = zhV p (i + 1) := by
 have hlt := (List.getElem?_eq_some_iff.1 hv).1;rw [zhV, zhV, zbg hv, List.set_append_right _ _ (by simp; omega), List.length_map, List.length_take, Nat.min_eq_left (Nat.le_of_lt hlt), Nat.sub_self, show p.voters.length - i = (p.voters.length - (i + 1)) + 1 by omega, List.replicate_succ, List.set_cons_zero, List.map_append, List.append_assoc];rfl
theorem startL_all {p : Poll} {i : Nat} (h : p.voters.length ≤ i) : zhV p i = leftL p [] := by
 rw [zhV, List.take_of_length_le h, show p.voters.length - i = 0 by omega, leftL];simp only [List.replicate_zero, List.append_nil];refine List.map_congr_left fun v _ => ?_;have e : zdv v [] = 0 := rfl;rw [zfD, e]; simp
def zhF (p : Poll) (now : List Int) (k : Nat) : List (List Int) := (List.range k).flatMap fun (h : Nat) => zcx p (now ++ [(h : Int)])
theorem zjw (p : Poll) (now : List Int) (k : Nat) : zhF p now (k + 1) = zhF p now k ++ zcx p (now ++ [(k : Int)]) := by
 rw [zhF, List.range_succ, List.flatMap_append, List.flatMap_cons, List.flatMap_nil, List.append_nil]; rfl
theorem truthsK_all {p : Poll} {now : List Int} {q : Question} {k : Nat} (hq : p.questions[now.length]? = some q) (hk : q.heads.length = k) : zcx p now = zhF p now k := by
 subst hk;exact truthsFrom_next (by simp [zhY, hq])
def OnWay (p : Poll) (done : List (List Int)) (now : List Int) : Prop := ∃ tl, zac p = done ++ zcx p now ++ tl
theorem onway_nil (p : Poll) : OnWay p [] [] := ⟨[], by rw [truthsFrom_nil]; simp⟩
theorem onway_next {p : Poll} {done : List (List Int)} {now : List Int} {q : Question} {k : Nat} (h : OnWay p done now) (hq : p.questions[now.length]? = some q) (hk : k < q.heads.length) : OnWay p (done ++ zhF p now k) (now ++ [(k : Int)]) := by
 obtain ⟨tl, h⟩ := h;rw [truthsK_all hq rfl] at h;have e : zhF p now q.heads.length = zhF p now k ++ zcx p (now ++ [(k : Int)]) ++ ((List.range (q.heads.length - (k + 1))).map (k + 1 + ·)).flatMap fun (h : Nat) => zcx p (now ++ [(h : Int)]) := by
  rw [← zjw];simp only [zhF];rw [← List.flatMap_append];congr 1
  conv => lhs; rw [show q.heads.length = (k + 1) + (q.heads.length - (k + 1)) by omega]
  rw [List.range_add]
 rw [e] at h;exact ⟨((List.range (q.heads.length - (k + 1))).map (k + 1 + ·)).flatMap (fun (h : Nat) => zcx p (now ++ [(h : Int)])) ++ tl, by rw [h]; simp only [List.append_assoc]⟩
theorem onway_at {p : Poll} {done : List (List Int)} {now : List Int} (h : OnWay p done now) (hn : zcx p now = [now]) : (zac p)[done.length]? = some now := by
 obtain ⟨tl, h⟩ := h;rw [h, hn]; simp
theorem truths_one {p : Poll} {now : List Int} (h : NowOk p now) (hl : now.length = p.questions.length) : zcx p now = [now] := by
 rw [truthsFrom_all hl, if_pos (now_true h hl)]
end Go.Pk

namespace Go.Pk
open Go Go.RowKit
theorem intLt_T : TLt (fun a b : Int => decide (a < b)) := by
 refine ⟨fun a => by simp, fun a b c h1 h2 => ?_, fun a b h => ?_⟩
 ·simp only [decide_eq_true_eq] at *; omega
 simp only [decide_eq_true_eq]; omega
def choiceAt (q : Nat) (t : List Int) : Int := (t[q]?).getD 0
theorem zjb {q : Nat} {t : List Int} {a : Int} (h : t[q]? = some a) : choiceAt q t = a := by rw [choiceAt, h]; rfl
theorem openK_sorted (ts : List (List Int)) (q : Nat) : ∀ n, (ziQ ts q n).Pairwise fun a b => decide (a < b) = true
 | 0 => by simp [ziQ]
 | n + 1 => by
  rw [openK_succ, List.pairwise_append];refine ⟨openK_sorted ts q n, by split <;> simp, fun a ha b hb => ?_⟩;split at hb
  ·rw [List.mem_singleton] at hb;subst hb;simp only [ziQ, List.mem_map, List.mem_filter, List.mem_range] at ha;obtain ⟨k, ⟨hk, _⟩, rfl⟩ := ha;simp; omega
  ·cases hb
theorem open_sorted {ts : List (List Int)} {q n : Nat} (h : ∀ t ∈ ts, ∃ a, t[q]? = some a ∧ 0 ≤ a ∧ a < (n : Int)) : zcy ((ts.map (choiceAt q)).mergeSort fun a b => decide (a ≤ b)) = ziQ ts q n := by
 rw [setOf_compact intLt_T (List.mergeSort_perm _ _)]
 ·refine strict_eq intLt_T (setL_sorted intLt_T _) (openK_sorted ts q n) fun x => ?_;rw [setL_mem];simp only [ziQ, List.mem_map, List.mem_filter, List.mem_range, openB, List.any_eq_true, decide_eq_true_eq];constructor
  ·rintro ⟨t, ht, rfl⟩;obtain ⟨a, ha, h0, h1⟩ := h t ht;refine ⟨a.toNat, ⟨by omega, t, ht, ?_⟩, ?_⟩
   ·rw [ha]; congr 1; omega
   ·rw [zjb ha]; omega
  ·rintro ⟨k, ⟨_, t, ht, e⟩, rfl⟩;exact ⟨t, ht, zjb e⟩
 have := List.pairwise_mergeSort (le := fun a b : Int => decide (a ≤ b)) (by intro a b c h1 h2; simp only [decide_eq_true_eq] at *; omega) (by intro a b; simp only [Bool.or_eq_true, decide_eq_true_eq]; omega) (ts.map (choiceAt q));exact this.imp fun {a b} h => by simp only [decide_eq_true_eq, decide_eq_false_iff_not] at *; omega
theorem truth_at {p : Poll} {t : List Int} {q : Nat} {x : Question} (h : t ∈ zac p) (hx : p.questions[q]? = some x) : ∃ a, t[q]? = some a ∧ 0 ≤ a ∧ a < (x.heads.length : Int) := by
 have hl := zeh h;have hlt := (List.getElem?_eq_some_iff.1 hx).1;refine ⟨_, List.getElem?_eq_getElem zr, ?_⟩;exact truth_in h (List.getElem?_eq_getElem zr) hx
theorem setK_nil (ts : List (List Int)) (a0 : List Int) : setK (ts.take 0) a0 = a0 := by
 refine List.ext_getElem (zgl _ _) fun k h1 h2 => ?_;have := setK_get (ts := ts.take 0) h2;rw [List.getElem?_eq_getElem h1] at this;have e := Option.some.inj this;rw [e, setAt, List.getElem?_eq_getElem h2];simp
def zhX (q : Question) : Bool := decide (q.heads.length ≤ 6) && q.heads.all fun h => decide (h.stem.length ≤ 40)
def smallV (v : Voter) : Bool := decide (v.votes.length ≤ 20)
def zfn (p : Poll) : Bool := zfA p.text && zfm p.lexicon && decide (p.questions.length ≤ 10) && decide (p.voters.length ≤ 10) && p.questions.all zhX && p.voters.all smallV
theorem smallP_q {p : Poll} (h : zfn p = true) {i : Nat} {q : Question} (hq : p.questions[i]? = some q) : q.heads.length ≤ 6 := by
 simp only [zfn, Bool.and_eq_true, List.all_eq_true] at h;have := h.1.2 q (List.mem_of_getElem? hq);simp only [zhX, Bool.and_eq_true, decide_eq_true_eq] at this;exact this.1
theorem smallP_v {p : Poll} (h : zfn p = true) {i : Nat} {v : Voter} (hv : p.voters[i]? = some v) : v.votes.length ≤ 20 := by
 simp only [zfn, Bool.and_eq_true, List.all_eq_true] at h;have := h.2 v (List.mem_of_getElem? hv);simpa [smallV] using this
theorem smallP_len {p : Poll} (h : zfn p = true) : zfA p.text = true ∧ zfm p.lexicon = true ∧ p.questions.length ≤ 10 ∧ p.voters.length ≤ 10 := by
 simp only [zfn, Bool.and_eq_true, decide_eq_true_eq] at h;exact ⟨h.1.1.1.1.1, h.1.1.1.1.2, h.1.1.1.2, h.1.1.2⟩
theorem small_yes {p : Poll} {i j : Nat} (h1 : zfA p.text = true) (h2 : zfm p.lexicon = true) (h3 : p.questions.length ≤ 10) (h4 : p.voters.length ≤ 10) (hA : (p.questions.take i).all zhX = true) (hi : p.questions.length ≤ i) (hV : (p.voters.take j).all smallV = true) (hj : p.voters.length ≤ j) : zfn p = true := by
 rw [List.take_of_length_le hi] at hA;rw [List.take_of_length_le hj] at hV;simp only [zfn, h1, h2, hA, hV, decide_eq_true h3, decide_eq_true h4, Bool.and_true]
theorem small_no (p : Poll) (h : zfA p.text = false ∨ zfm p.lexicon = false ∨ 10 < p.questions.length ∨ 10 < p.voters.length) : zfn p = false := by
 cases e : zfn p with
 | false => rfl
 | true =>
  have h2 := smallP_len e
  rcases h with h | h | h | h
  ·rw [h2.1] at h; cases h
  ·rw [h2.2.1] at h; cases h
  ·omega
  ·omega
theorem small_noq {p : Poll} {i : Nat} {q : Question} (hq : p.questions[i]? = some q) (h : zhX q = false) : zfn p = false := by
 have : p.questions.all zhX = false := List.all_eq_false.2 ⟨q, List.mem_of_getElem? hq, by simp [h]⟩;simp only [zfn, this, Bool.and_false, Bool.false_and]
theorem small_nov {p : Poll} {i : Nat} {v : Voter} (hv : p.voters[i]? = some v) (h : 20 < v.votes.length) : zfn p = false := by
 have : p.voters.all smallV = false := List.all_eq_false.2 ⟨v, List.mem_of_getElem? hv, by simp [smallV]; omega⟩;simp only [zfn, this, Bool.and_false]
theorem small_q6 {q : Question} (h : 6 < q.heads.length) : zhX q = false := by simp [zhX]; intros; omega
theorem small_qh {q : Question} {k : Nat} {hd : Head} (hh : q.heads[k]? = some hd) (h : 40 < hd.stem.length) : zhX q = false := by
 have : (q.heads.all fun h => decide (h.stem.length ≤ 40)) = false := List.all_eq_false.2 ⟨hd, List.mem_of_getElem? hh, by simp; omega⟩;simp only [zhX, this, Bool.and_false]
theorem small_qy {q : Question} {k : Nat} (h : q.heads.length ≤ 6) (hB : ((q.heads.take k).all fun h => decide (h.stem.length ≤ 40)) = true) (hk : q.heads.length ≤ k) : zhX q = true := by
 rw [List.take_of_length_le hk] at hB;simp only [zhX, hB, decide_eq_true h, Bool.and_true]
end Go.Pk
