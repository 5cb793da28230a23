/- A PART OF THE PROOF: contracts of functions, each walked once (much of it printed by a program of the author's own). -/
import Derived.Test.YtjdbapoodefncaaGreatDoorT0
import Derived.Shelf.SlSortCmp.NoneTotal
import Derived.Test.YtjdbapoodefncaaGreatDoorT2
import Derived.Test.YtjdbapoodefncaaGreatDoorT1
import Derived.Lib.Bytealg
import Derived.Sort.Walk0
set_option linter.unusedSimpArgs false
set_option linter.unusedVariables false
set_option maxRecDepth 4000
namespace Go.Pk
open Go Go.RowKit Go.Proofs Go.Shelf Go.Lib Go.Sort
theorem bel_grow {W w' : World} (b : Bel W.heap.size W w') : ∃ q os', w' = grow (W.drewN q) os' := by
 refine ⟨w'.drawn - W.drawn, w'.heap.extract W.heap.size w'.heap.size, ?_⟩;obtain ⟨h1, h2, h3, h4, h5, h6⟩ := b;cases w'; cases W;simp only at h1 h2 h3 h4 h5 h6;subst h1; subst h2; subst h3;simp only [grow, World.drewN, World.mk.injEq, true_and, and_true];refine ⟨?_, by omega⟩;apply Array.ext_getElem?;intro i;rw [Array.getElem?_append];split
 ·rename_i hi; exact h5 i hi
 rename_i hi;rw [Array.getElem?_extract];split
 ·congr 1; omega
 rw [Array.getElem?_eq_none zr]
theorem Bel.grow {B : Nat} {a w : World} (b : Bel B a w) (hB : B ≤ w.heap.size) (os : Array Obj) : Bel B a (grow w os) :=
 b.trans ⟨rfl, rfl, rfl, by simp [Go.Sort.grow], fun k hk => by simp only [Go.Sort.grow]; rw [Array.getElem?_append_left zr], Nat.le_refl _⟩
theorem St.grow {h0 h : Heap} {w0 w : World} {own : Own} (st : St h0 w0 h w own) (os : Array Obj) : St h0 w0 h (grow w os) own := by
 have e : ∀ b o, w.heap[b]? = some o → (Go.Sort.grow w os).heap[b]? = some o := fun b o hb => by
  simp only [Go.Sort.grow]; rw [Array.getElem?_append_left (zcC hb)]; exact hb
 exact ⟨st.le, st.new, fun b o hb => e b o (st.sub b o hb), st.below.grow st.below.size os, fun p hp => ⟨e _ _ (st.mine p hp).1, (st.mine p hp).2⟩, st.nodup⟩
theorem putRow_own {w : World} {b : Nat} {cur : Array Value} {T : TypeId} {F : Array Value} (hb : w.heap[b]? = some (.cells cur T)) (n : Nat) :
  putRow id (Go.Sort.ahead w n) b 0 F = { w with drawn := w.drawn + n, heap := w.heap.setIfInBounds b (.cells (putCells id 0 F cur) T) } := by
 have hlt := zcC hb;have hb' : w.heap[b] = .cells cur T := by rw [Array.getElem?_eq_getElem hlt] at hb; simpa using hb
 simp only [putRow, mapBlock, Go.Sort.ahead, World.mk.injEq, and_true, true_and];apply Array.ext_getElem?;intro i;rw [Array.getElem?_modify, Array.getElem?_setIfInBounds]
 by_cases e : b = i
 ·subst e; simp [hlt, hb', onCells]
 ·simp [e]
theorem putCells_take {F cur : Array Value} (h : F.size ≤ cur.size) : (putCells id 0 F cur).toList.take F.size = F.toList := by
 apply List.ext_getElem?;intro i;rw [List.getElem?_take];split
 ·rename_i hi;simp only [putCells, Array.getElem?_toList, Array.getElem?_mapIdx];rw [Array.getElem?_eq_getElem (show i < cur.size by omega), Array.getElem?_eq_getElem hi];simp [hi]
 rename_i hi;rw [List.getElem?_eq_none (by simpa using hi)]
theorem flatK_enc {α : Type} [Inhabited α] {L : Lay α} {h : Heap} {enc : α → List Value} (d : Array α) (hk : ∀ x, (enc x).length = L.size) (hR : ∀ x ∈ d.toList, L.R h (enc x) x) : Enc L h (flatK enc L.size d).toList d.toList := by
 refine ⟨by simp, fun i x hi => ?_⟩;obtain ⟨h1, h2⟩ := List.getElem?_eq_some_iff.1 hi;have h1' : i < d.size := by simpa using h1
 have e : ((flatK enc L.size d).toList.drop (i * L.size)).take L.size = enc x := by
  apply List.ext_getElem?;intro j;rw [List.getElem?_take]
  by_cases hj : j < L.size
  ·rw [if_pos hj, List.getElem?_drop];have ht : i * L.size + j < d.size * L.size := by
    have : (i + 1) * L.size ≤ d.size * L.size := Nat.mul_le_mul_right _ h1';rw [Nat.add_mul, Nat.one_mul] at this; omega
   have h3 := get_flatK enc L.size d _ ht;have hd : (i * L.size + j) / L.size = i := by rw [Nat.mul_comm, Nat.mul_add_div zr, Nat.div_eq_of_lt hj]; rfl
   have hm : (i * L.size + j) % L.size = j := by rw [Nat.mul_comm, Nat.mul_add_mod, Nat.mod_eq_of_lt hj]
   rw [hd, hm, getElem!_pos d i h1', getElem!_pos (flatK enc L.size d) _ (by simpa using ht)] at h3;have hx : d[i] = x := by simpa using h2
   rw [hx, getElem!_pos (enc x) j (by rw [hk]; exact hj)] at h3;rw [List.getElem?_eq_getElem (by simpa using ht), List.getElem?_eq_getElem (by rw [hk]; exact hj)];simpa using h3
  ·rw [if_neg hj, List.getElem?_eq_none (by rw [hk]; omega)]
 rw [e];exact hR x (List.mem_of_getElem? hi)
theorem enc_flatK {α : Type} [Inhabited α] {L : Lay α} {h : Heap} {enc : α → List Value} (hpos : 0 < L.size) (d : Array α) (hE : ∀ {vs x}, L.R h vs x → vs = enc x) {cs : List Value} (e : Enc L h cs d.toList) {j : Nat} (hj : j < d.size * L.size) : cs[j]? = some (flatK enc L.size d)[j]! := by
 have hi : j / L.size < d.size := Nat.div_lt_of_lt_mul (by rwa [Nat.mul_comm]);have hr := hE (e.2 (j / L.size) d[j / L.size] (by simp [hi]));rw [get_flatK enc L.size d j hj, getElem!_pos d _ hi, ← hr];have hlen : cs.length = d.size * L.size := by simpa using e.1
 have hm := Nat.mod_lt j hpos;have hdm := Nat.div_add_mod j L.size;rw [Nat.mul_comm] at hdm;have hl : j % L.size < ((cs.drop (j / L.size * L.size)).take L.size).length := by
  simp only [List.length_take, List.length_drop]; omega
 rw [getElem!_pos ((cs.drop (j / L.size * L.size)).take L.size) (j % L.size) hl];simp only [List.getElem_take, List.getElem_drop, hdm];rw [List.getElem?_eq_getElem zr]
theorem sortFunc {α : Type} {L : Lay α} {T : TypeId} {P : Program} {ρ : Ren} (LL : SlLaysF0.n6 P ρ) (aE : ∀ w, (isAgg (ρ.t 24)).run P w = .ok true w) (zE : ∀ w, (Go.sizeOf (ρ.t 24)).run P w = .ok L.size w) (hpos : 0 < L.size)
  (enc : α → List Value) (hE : ∀ {h vs x}, L.R h vs x → vs = enc x) (cf : α → α → Int) (hS : SWO (ltOf cf)) {g : Nat} {caps : List Value} {h0 h : Heap} {w0 w : World} {own : Own} {i : Nat} {v : Value} {xs : List α} {o : List (Nat × Obj)}
  (st : St h0 w0 h w own) (hO : OSl L T h v xs o) (hi : own[i]? = some o) (hlen : xs.length < 4611686018427387904) (eg : ∀ a w, (callFunc g a).run P w = .ok (.enter g a) w)
  (hcmp : ∀ x ∈ xs, ∀ y ∈ xs, ∀ w', Sub h w' → Calls P g (.agg (enc x).toArray :: .agg (enc y).toArray :: caps).toArray w' (Rets h w' fun _ _ r => r = .int .i64 (cf x y))) :
  Calls P (ρ.f 6) #[v, .func (.func g) #[] caps.toArray] w fun e w' => e = .returned (.tuple #[]) ∧ ∃ ys o' own', own' = own.set i o' ∧ ys.Perm xs ∧ ys.Pairwise (fun a b => ¬ cf b a < 0) ∧ OSl L T h v ys o' ∧ St h0 w0 h w' own' := by
 by_cases hx : xs = []
 ·subst hx;obtain ⟨p, c, rfl⟩ := hO.form;refine (AnyF.slices_SortFunc_none LL p c _ w).mono ?_;rintro e w' ⟨he, rfl⟩;refine ⟨he, [], o, _, rfl, List.Perm.refl _, List.Pairwise.nil, hO, ?_⟩;have e3 : own.set i o = own := by
   apply List.ext_getElem?;intro j;rw [List.getElem?_set];split
   ·rename_i e4; subst e4;split
    ·exact hi.symm
    ·rename_i h5; rw [List.getElem?_eq_none zr]
   ·rfl
  rw [e3]; exact st
 obtain ⟨cs, e1, ⟨⟨p, rfl⟩, rfl, rfl⟩ | ⟨b, cap, cur, rfl, rfl, hnc, hcm, hsz, htk⟩⟩ := hO
 ·exact absurd rfl hx
 -- the elements, each with its place in the list
 let β := { x : α // x ∈ xs }
 haveI : Inhabited β := ⟨⟨xs.head hx, List.head_mem hx⟩⟩
 let enc' : β → List Value := fun x => enc x.1
 let cf' : β → β → Int := fun x y => cf x.1 y.1
 let d : Array β := xs.attach.toArray
 have hdl : d.size = xs.length := by show xs.attach.toArray.size = xs.length; rw [List.size_toArray]; exact List.length_attach
 have hmap : d.toList.map (·.1) = xs := by show xs.attach.map (·.1) = xs; exact List.attach_map_subtype_val xs
 have hRx : ∀ x : β, L.R h (enc x.1) x.1 := by
  intro x;obtain ⟨j, hj⟩ := List.mem_iff_getElem?.1 x.2;have := e1.2 j x.1 hj;rwa [hE this] at this
 have hk : ∀ x : β, (enc' x).length = L.size := fun x => L.len (hRx x)
 let L' : Lay β := { size := L.size, R := fun h vs x => L.R h vs x.1, up := fun a b => L.up a b, len := fun a => L.len a, one := fun a => L.one a }
 have hb := st.get hi;have hcsl : cs.length = xs.length * L.size := e1.1;have e1' : Enc L' h cs d.toList := ⟨by rw [hcsl, ← hdl]; rfl, fun j x hj => e1.2 j x.1 (by
  have := congrArg (Option.map (·.1)) hj;rw [← List.getElem?_map, hmap] at this;simpa using this)⟩
 have hH : HoldsK enc' L.size w b 0 d := by
  intro j hj;have hj' : j < d.size * L.size := by simpa using hj
  have hcj := enc_flatK (L := L') (enc := enc') hpos d (fun h => hE h) e1' hj';have hjc : j < cs.length := by rw [hcsl, ← hdl]; exact hj'
  have hcur : cur[j]? = some (flatK enc' L.size d)[j]! := by
   rw [← htk, List.getElem?_take] at hcj;split at hcj
   ·simpa using hcj
   ·cases hcj
  refine ⟨?_, ?_⟩
  ·simp only [World.cell?, hb, Option.isSome_none, Bool.false_eq_true, if_false, Nat.zero_add, id];exact hcur
  ·simp [World.frozen?, hb]
 have hlt := zcC hb;have hsubs : ∀ m (os : Array Obj) (dk : Array β), Sub h (sortWorldK enc' L.size w b 0 m dk os) := by
  intro m os dk;unfold sortWorldK putRowK;rw [putRow_own hb];have := (((st.set (.cells (putCells id 0 (flatK enc' L.size dk) cur) T) hi).same (w' := { w with drawn := w.drawn + m, heap := w.heap.setIfInBounds b (.cells (putCells id 0 (flatK enc' L.size dk) cur) T) }) rfl rfl rfl rfl (Nat.le_add_right _ _)).grow os).sub;exact this
 have hC : CmpLays P g caps.toArray enc' L.size cf' b 0 d.size w := by
  intro m os dk hdk x y;have c : Calls P g (#[.agg (enc' x).toArray, .agg (enc' y).toArray] ++ caps.toArray) (sortWorldK enc' L.size w b 0 m dk os) (Rets h (sortWorldK enc' L.size w b 0 m dk os) fun _ _ r => r = .int .i64 (cf x.1 y.1)) := by
   simpa using hcmp x.1 x.2 y.1 y.2 _ (hsubs m os dk)
  refine c.mono ?_;rintro e w' ⟨h', r, rfl, s, rfl⟩;exact ⟨rfl, bel_grow s.below⟩
 have hS' : SWO (ltOf cf') := ⟨fun x => hS.irrefl x.1, fun x y z => hS.trans x.1 y.1 z.1, fun x y z => hS.ntrans x.1 y.1 z.1⟩;have con := AnyQ.slices_SortFunc LL L.size aE zE enc' hk (fun x => L.one (hRx x)) cf' hS' g caps.toArray b 0 cap d w eg hC hH hlt (by rw [hdl]; exact hlen);rw [hdl] at con;refine con.mono ?_;rintro e w' ⟨he, d', n, os, ⟨p1, p2, p3⟩, hsort, rfl⟩;have hd' : d'.size = xs.length := by rw [p1, hdl]
 refine ⟨he, d'.toList.map (·.1), [(b, .cells (putCells id 0 (flatK enc' L.size d') cur) T)], _, rfl, ?_, ?_, ?_, ?_⟩
 ·have e3 : d'.extract 0 xs.length = d' := by rw [← hd']; simp
  have e4 : d.extract 0 xs.length = d := by rw [← hdl]; simp
  rw [e3, e4] at p3;have := p3.map (fun x : β => x.1);rwa [hmap] at this
 ·rw [List.pairwise_map, List.pairwise_iff_getElem];intro q r hq hr hqr;have := hsort q r (Nat.zero_le _) hqr (by simpa [hd'] using hr);rw [getElem!_pos d' r (by simpa using hr), getElem!_pos d' q (by simpa using hq)] at this;simp only [ltOf, decide_eq_false_iff_not, cf'] at this;simpa using this
 ·have hsf : (flatK enc' L.size d').size = xs.length * L.size := by simp [hd']
  have hfc : (flatK enc' L.size d').size ≤ cur.size := by rw [hsf, hsz]; exact Nat.mul_le_mul_right _ hnc
  refine ⟨(flatK enc' L.size d').toList, ?_, .inr ⟨b, cap, _, by simp [hd'], rfl, by simpa [hd'] using hnc, hcm, by simpa [putCells] using hsz, ?_⟩⟩
  ·have := flatK_enc (L := L') (h := h) (enc := enc') d' hk (fun x _ => hRx x);refine ⟨by simp [hd'], fun j x hj => ?_⟩;rw [List.getElem?_map] at hj;obtain ⟨y, hy, rfl⟩ := Option.map_eq_some_iff.1 hj;exact this.2 j y hy
  ·have := putCells_take hfc;rw [hsf] at this;simpa [hd'] using this
 ·unfold sortWorldK putRowK;rw [putRow_own hb];exact ((st.set (.cells (putCells id 0 (flatK enc' L.size d') cur) T) hi).same (w' := { w with drawn := w.drawn + n, heap := w.heap.setIfInBounds b (.cells (putCells id 0 (flatK enc' L.size d') cur) T) }) rfl rfl rfl rfl (Nat.le_add_right _ _)).grow os
theorem swo_asc {α : Type} (f : α → Int) : SWO (ltOf fun a b => f a - f b) := by
 refine ⟨fun x => ?_, fun x y z h1 h2 => ?_, fun x y z h1 h2 => ?_⟩ <;> simp only [ltOf, decide_eq_true_eq, decide_eq_false_iff_not] at * <;> omega
theorem swo_desc {α : Type} (f : α → Int) : SWO (ltOf fun a b => f b - f a) := by
 refine ⟨fun x => ?_, fun x y z h1 h2 => ?_, fun x y z h1 h2 => ?_⟩ <;> simp only [ltOf, decide_eq_true_eq, decide_eq_false_iff_not] at * <;> omega
theorem OSl.memR {α : Type} {L : Lay α} {T : TypeId} {h : Heap} {v : Value} {xs : List α} {o : List (Nat × Obj)} (hO : OSl L T h v xs o) {x : α} (hx : x ∈ xs) : ∃ vs, L.R h vs x := by
 obtain ⟨cs, e, _⟩ := hO;obtain ⟨j, hj⟩ := List.mem_iff_getElem?.1 hx;exact ⟨_, e.2 j x hj⟩
theorem Sl.memR {α : Type} {L : Lay α} {h : Heap} {v : Value} {xs : List α} (hs : Sl L h v xs) {x : α} (hx : x ∈ xs) : ∃ vs, L.R h vs x := by
 obtain ⟨p, c, _, _, rfl | ⟨b, off, _, hh⟩⟩ := hs
 ·cases hx
 obtain ⟨j, hj⟩ := List.mem_iff_getElem?.1 hx;obtain ⟨vs, _, hr⟩ := hh j x hj;exact ⟨vs, hr⟩
theorem putRow_own1 {α : Type} [Inhabited α] {enc : α → Value} {w : World} {b : Nat} {cur : Array Value} {T : TypeId} {F : Array α} (hb : w.heap[b]? = some (.cells cur T)) (n : Nat) :
  putRow enc (Go.Sort.ahead w n) b 0 F = { w with drawn := w.drawn + n, heap := w.heap.setIfInBounds b (.cells (putCells enc 0 F cur) T) } := by
 have hlt := zcC hb;have hb' : w.heap[b] = .cells cur T := by rw [Array.getElem?_eq_getElem hlt] at hb; simpa using hb
 simp only [putRow, mapBlock, Go.Sort.ahead, World.mk.injEq, and_true, true_and];apply Array.ext_getElem?;intro i;rw [Array.getElem?_modify, Array.getElem?_setIfInBounds]
 by_cases e : b = i
 ·subst e; simp [hlt, hb', onCells]
 ·simp [e]
theorem putCells_take1 {α : Type} [Inhabited α] {enc : α → Value} {F : Array α} {cur : Array Value} (h : F.size ≤ cur.size) : (putCells enc 0 F cur).toList.take F.size = F.toList.map enc := by
 apply List.ext_getElem?;intro i;rw [List.getElem?_take, List.getElem?_map];split
 ·rename_i hi;simp only [putCells, Array.getElem?_toList, Array.getElem?_mapIdx];rw [Array.getElem?_eq_getElem (show i < cur.size by omega), Array.getElem?_eq_getElem hi];simp [hi]
 rename_i hi;rw [List.getElem?_eq_none (by simpa using hi)]; rfl
theorem sort1 {α : Type} [Inhabited α] {L : Lay α} {T : TypeId} {P : Program} {f : FuncId} (enc : α → Value) (hE : ∀ {h vs x}, L.R h vs x → vs = [enc x]) (hz : L.size = 1) (srt : List α → List α) (hp : ∀ l, (srt l).Perm l)
  (hc : ∀ blk off cap (zs : List α) w, Holds enc w blk off zs.toArray → blk < w.heap.size → zs.length < 4611686018427387904 → Calls P f #[.slice (some ⟨blk, off, none⟩) zs.length cap] w fun e w' => e = .returned (.tuple #[]) ∧ ∃ n os, w' = Go.Sort.grow (putRow enc (Go.Sort.ahead w n) blk off (srt zs).toArray) os)
  (hn : ∀ p cap w, Calls P f #[.slice p 0 cap] w fun e w' => e = .returned (.tuple #[]) ∧ w' = w)
  {h0 h : Heap} {w0 w : World} {own : Own} {i : Nat} {v : Value} {xs : List α} {o : List (Nat × Obj)} (st : St h0 w0 h w own) (hO : OSl L T h v xs o) (hi : own[i]? = some o) (hlen : xs.length < 4611686018427387904) :
  Calls P f #[v] w fun e w' => e = .returned (.tuple #[]) ∧ ∃ o' own', own' = own.set i o' ∧ OSl L T h v (srt xs) o' ∧ St h0 w0 h w' own' := by
 obtain ⟨cs, e1, ⟨⟨p, rfl⟩, rfl, rfl⟩ | ⟨b, cap, cur, rfl, rfl, hnc, hcm, hsz, htk⟩⟩ := hO
 ·refine (hn p 0 w).mono ?_;rintro e w' ⟨he, rfl⟩;have e0 : srt [] = [] := (hp []).eq_nil;rw [e0];exact ⟨he, [], _, rfl, OSl.nil0 L T h ⟨p, rfl⟩, st.drop i⟩
 have hb := st.get hi;have hlt := zcC hb;have hcs : cs = xs.map enc := by
  apply List.ext_getElem?;intro j;rw [List.getElem?_map]
  by_cases hj : j < xs.length
  ·have hr := hE (e1.2 j xs[j] (List.getElem?_eq_getElem hj));rw [hz, Nat.mul_one] at hr;have hjc : j < cs.length := by rw [e1.1, hz]; omega
   rw [List.getElem?_eq_getElem hj, List.getElem?_eq_getElem hjc];have h1 := congrArg (·[0]?) hr;simp only [List.getElem?_take, List.getElem?_drop, List.getElem?_cons_zero] at h1;simp only [Nat.zero_lt_one, if_true, Nat.add_zero] at h1;rw [List.getElem?_eq_getElem hjc] at h1;simpa using h1
  ·rw [List.getElem?_eq_none (by rw [e1.1, hz]; omega), List.getElem?_eq_none zr]; rfl
 have hH : Holds enc w b 0 xs.toArray := by
  intro j hj;have hj' : j < xs.length := by simpa using hj
  have h2 : cs[j]? = some (enc xs[j]) := by rw [hcs, List.getElem?_map, List.getElem?_eq_getElem hj']; rfl
  have hcur : cur[j]? = some (enc xs[j]) := by
   rw [← htk, List.getElem?_take] at h2;split at h2
   ·simpa using h2
   ·cases h2
  refine ⟨?_, by simp [World.frozen?, hb]⟩;simp only [World.cell?, hb, Option.isSome_none, Bool.false_eq_true, if_false, Nat.zero_add];rw [hcur, getElem!_pos xs.toArray j (by simpa using hj')];simp
 refine (hc b 0 cap xs w hH hlt hlen).mono ?_;rintro e w' ⟨he, n, os, rfl⟩;have hl : (srt xs).length = xs.length := (hp xs).length_eq;refine ⟨he, [(b, .cells (putCells enc 0 (srt xs).toArray cur) T)], _, rfl, ?_, ?_⟩
 ·have hfc : (srt xs).toArray.size ≤ cur.size := by rw [List.size_toArray, hl, hsz, hz]; omega
  refine ⟨(srt xs).map enc, ⟨by simp [hz], fun j x hj => ?_⟩, .inr ⟨b, cap, _, by rw [hl], rfl, by omega, hcm, by simpa [putCells] using hsz, ?_⟩⟩
  ·have hm : x ∈ xs := (hp xs).mem_iff.1 (List.mem_of_getElem? hj);obtain ⟨q, hq⟩ := List.mem_iff_getElem?.1 hm;have hr := e1.2 q x hq;rw [hE hr] at hr;obtain ⟨h1, h2⟩ := List.getElem?_eq_some_iff.1 hj;have e3 : (((srt xs).map enc).drop (j * L.size)).take L.size = [enc x] := by
    rw [hz, Nat.mul_one, List.drop_eq_getElem_cons (by simpa using h1)];simp [h2]
   rw [e3]; exact hr
  ·have := putCells_take1 (enc := enc) hfc;rw [hz, Nat.mul_one];simpa using this
 ·rw [putRow_own1 hb];exact ((st.set (.cells (putCells enc 0 (srt xs).toArray cur) T) hi).same (w' := { w with drawn := w.drawn + n, heap := w.heap.setIfInBounds b (.cells (putCells enc 0 (srt xs).toArray cur) T) }) rfl rfl rfl rfl (Nat.le_add_right _ _)).grow os
end Go.Pk

namespace Go.Pk
open Go Go.RowKit
def zdh (x : Lexicon) : List Decision := x.decisions.mergeSort fun a b => decide (b.number ≤ a.number)
def zfT (d : Decision) : Int × Decision := (d.number, d)
def zfb (x : Lexicon) : List (Int × Decision) := ((zdh x).filter (zdC x)).map zfT
def OkD (x : Lexicon) : Prop := (x.decisions.map (·.number)).Nodup ∧ ∀ v ∈ x.decisions, 1 ≤ v.number ∧ v.number ≤ 999 ∧ (v.kind = 4 → v.of_ < v.number)
theorem zdN (x : Lexicon) : (zdh x).Perm x.decisions := List.mergeSort_perm _ _
theorem downD_sorted (x : Lexicon) : (zdh x).Pairwise fun a b => b.number ≤ a.number := by
 have h := List.pairwise_mergeSort (le := fun a b : Decision => decide (b.number ≤ a.number)) (by intro a b c h1 h2; simp at *; omega) (by intro a b; simp; omega) x.decisions;exact h.imp (fun h => by simpa using h)
theorem nodup_key {α : Type} {f : α → Int} {xs : List α} (hn : (xs.map f).Nodup) {a b : α} (ha : a ∈ xs) (hb : b ∈ xs) (e : f a = f b) : a = b := by
 obtain ⟨i, hi⟩ := List.mem_iff_getElem?.1 ha;obtain ⟨j, hj⟩ := List.mem_iff_getElem?.1 hb
 rcases Nat.lt_trichotomy i j with h | h | h
 ·exact absurd hn (ziU hi hj h e)
 ·subst h; rw [hi] at hj; exact Option.some.inj hj
 exact absurd hn (ziU hj hi h e.symm)
theorem downD_eq {x : Lexicon} {ys : List Decision} (hp : ys.Perm x.decisions) (hs : ys.Pairwise fun a b => ¬ a.number - b.number < 0) (hn : (x.decisions.map (·.number)).Nodup) : ys = zdh x := by
 refine List.Perm.eq_of_pairwise (le := fun a b : Decision => b.number ≤ a.number) ?_ (hs.imp (fun h => by omega)) (downD_sorted x) (hp.trans (zdN x).symm);intro a b ha hb h1 h2;exact nodup_key hn (hp.mem_iff.1 ha) ((zdN x).mem_iff.1 hb) zr
theorem ziE {x : Lexicon} (hn : (x.decisions.map (·.number)).Nodup) : ((zdh x).map (·.number)).Nodup := ((zdN x).map _).nodup_iff.2 hn
theorem putM_new {κ υ : Type} [DecidableEq κ] {m : List (κ × υ)} {k : κ} {u : υ} (h : zbO m k = none) : zgL m k u = m ++ [(k, u)] := by simp [zgL, h]
theorem look_pair {l : List Decision} {n : Int} (hn : (l.map (·.number)).Nodup) {d : Decision} : zbO (l.map zfT) n = some d ↔ d ∈ l ∧ d.number = n := by
 induction l with
 | nil => simp [zbO]
 | cons e l ih =>
  simp only [List.map_cons, List.nodup_cons] at hn;have ih := ih hn.2;simp only [zbO, List.map_cons, List.find?_cons, zfT] at ih ⊢
  by_cases h : e.number = n
  ·simp only [h, decide_true, Option.map_some, Option.some.injEq, List.mem_cons];constructor
   ·rintro rfl; exact ⟨.inl rfl, h⟩
   ·rintro ⟨rfl | h1, h2⟩
    ·rfl
    ·exact absurd (List.mem_map.2 ⟨d, h1, h2.trans h.symm⟩) hn.1
  ·simp only [h, decide_false, List.mem_cons];rw [ih];constructor
   ·rintro ⟨h1, h2⟩; exact ⟨.inr h1, h2⟩
   ·rintro ⟨rfl | h1, h2⟩
    ·exact absurd h2 h
    ·exact ⟨h1, h2⟩
theorem look_pair_none {l : List Decision} {n : Int} (h : n ∉ l.map (·.number)) : zbO (l.map zfT) n = none := by
 simp only [zbO, Option.map_eq_none_iff, List.find?_eq_none];intro p hp;obtain ⟨d, hd, rfl⟩ := List.mem_map.1 hp;intro e;have e' : d.number = n := of_decide_eq_true e;exact h (e' ▸ List.mem_map_of_mem hd)
theorem map_fill {l : List Decision} {k : Nat} {d : Decision} (hn : (l.map (·.number)).Nodup) (hd : l[k]? = some d) : zgL ((l.take k).map zfT) d.number d = (l.take (k + 1)).map zfT := by
 rw [putM_new (look_pair_none ?_), zbf hd, List.map_append]
 ·rfl
 intro h;exact ziJ (f := (·.number)) hd h hn
def zgw (x : Lexicon) (k : Nat) (d : Decision) : Bool := ((zdh x).take k).all fun v => !(decide (v.kind = 4) && decide (v.of_ = d.number) && zdC x v)
theorem standsB_eq {x : Lexicon} (hx : OkD x) {d : Decision} (hd : 1 ≤ d.number) : zdC x d = x.decisions.all fun v => !(decide (v.kind = 4) && decide (v.of_ = d.number) && zdC x v) := by
 have hv : ∀ v ∈ x.decisions, v.number ≤ 999 ∧ (v.kind = 4 → v.of_ < v.number) := fun v h => (hx.2 v h).2;unfold zdC;rw [standsF_eq hv zr];rw [Bool.eq_iff_iff, List.all_eq_true, List.all_eq_true];refine forall_congr' fun v => forall_congr' fun hm => ?_;have h1 := (hx.2 v hm).1;have e : zeK x (1000 - 1) v = zeK x 1000 v := by
  rw [standsF_eq hv (show 999 < v.number + ((1000 - 1 : Nat) : Int) by omega), standsF_eq hv (show 999 < v.number + ((1000 : Nat) : Int) by omega)]
  -- both say the same of what makes v void
  rw [Bool.eq_iff_iff, List.all_eq_true, List.all_eq_true];refine forall_congr' fun u => forall_congr' fun hu => ?_
  by_cases hk : u.kind = 4
  ·by_cases ho : u.of_ = v.number
   ·have h2 := (hx.2 u hu).2.2 hk;have : zeK x (1000 - 1 - 1) u = zeK x (1000 - 1) u := by
     have h3 : 2 ≤ u.number := by omega
     have key : ∀ (n m : Nat) (w : Decision), 999 < w.number + (n : Int) → 999 < w.number + (m : Int) → zeK x n w = zeK x m w := by
      intro n
      induction n with
      | zero =>
       intro m w hw hm';cases m with
       | zero => rfl
       | succ m =>
        simp only [zeK]
        symm
        rw [List.all_eq_true];intro y hy;have hy' := hx.2 y hy
        by_cases hk' : y.kind = 4
        ·have : ¬ y.of_ = w.number := by have := hy'.2.2 hk'; omega
         simp [this]
        ·simp [hk']
      | succ n ih =>
       intro m w hw hm';cases m with
       | zero =>
        simp only [zeK];rw [List.all_eq_true];intro y hy;have hy' := hx.2 y hy
        by_cases hk' : y.kind = 4
        ·have : ¬ y.of_ = w.number := by have := hy'.2.2 hk'; omega
         simp [this]
        ·simp [hk']
       | succ m =>
        simp only [zeK];rw [Bool.eq_iff_iff, List.all_eq_true, List.all_eq_true];refine forall_congr' fun y => forall_congr' fun hy => ?_;have hy' := hx.2 y hy
        by_cases hk' : y.kind = 4
        ·by_cases ho' : y.of_ = w.number
         ·have := hy'.2.2 hk';rw [ih m y zr zr]
         ·simp [ho']
        ·simp [hk']
     exact key _ _ u zr zr
    simp only [voids, this]
   ·simp [voids, ho]
  ·simp [voids, hk]
 simp only [voids, e]
theorem leftK_at {x : Lexicon} (hx : OkD x) {k : Nat} {d : Decision} (hd : (zdh x)[k]? = some d) : zgw x k d = zdC x d := by
 have hm : d ∈ x.decisions := (zdN x).mem_iff.1 (List.mem_of_getElem? hd);rw [standsB_eq hx (hx.2 d hm).1];rw [Bool.eq_iff_iff, zgw, List.all_eq_true, List.all_eq_true];constructor
 ·intro h v hv
  by_cases hk : v.kind = 4
  ·by_cases ho : v.of_ = d.number
   ·have h1 := (hx.2 v hv).2.2 hk;obtain ⟨j, hj⟩ := List.mem_iff_getElem?.1 ((zdN x).mem_iff.2 hv);have hjk : j < k := by
     rcases Nat.lt_or_ge j k with h2 | h2
     ·exact h2
     ·rcases Nat.eq_or_lt_of_le h2 with h3 | h3
      ·subst h3; rw [hj] at hd; cases hd; omega
      ·obtain ⟨a1, a2⟩ := List.getElem?_eq_some_iff.1 hd;obtain ⟨b1, b2⟩ := List.getElem?_eq_some_iff.1 hj;have := List.pairwise_iff_getElem.1 (downD_sorted x) k j a1 b1 h3;rw [a2, b2] at this; omega
    exact h v (List.mem_of_getElem? (by rw [List.getElem?_take, if_pos hjk]; exact hj))
   ·simp [ho]
  ·simp [hk]
 intro h v hv;exact h v ((zdN x).mem_iff.1 (List.mem_of_mem_take hv))
theorem leftK_zero (x : Lexicon) : ((zdh x).filter (zgw x 0)).map zfT = (zdh x).map zfT := by
 congr 1;rw [List.filter_eq_self];intro d _; simp [zgw]
theorem leftK_end {x : Lexicon} (hx : OkD x) : ((zdh x).filter (zgw x (zdh x).length)).map zfT = zfb x := by
 unfold zfb;congr 1;apply List.filter_congr;intro d hd;have hm : d ∈ x.decisions := (zdN x).mem_iff.1 hd;rw [standsB_eq hx (hx.2 d hm).1, zgw, List.take_length, Bool.eq_iff_iff, List.all_eq_true, List.all_eq_true];exact ⟨fun h v hv => h v ((zdN x).mem_iff.2 hv), fun h v hv => h v ((zdN x).mem_iff.1 hv)⟩
theorem zjq {x : Lexicon} (hx : OkD x) (p : Decision → Bool) : (((zdh x).filter p).map (·.number)).Nodup := (List.filter_sublist.map _).nodup (ziE hx.1)
theorem look_left {x : Lexicon} (hx : OkD x) {k : Nat} {d : Decision} (hd : (zdh x)[k]? = some d) : (zbO (((zdh x).filter (zgw x k)).map zfT) d.number).isSome = zdC x d := by
 rw [← leftK_at hx hd];have hm := List.mem_of_getElem? hd;cases h : zgw x k d with
 | true =>
  have := (look_pair (zjq hx (zgw x k))).2 ⟨List.mem_filter.2 ⟨hm, h⟩, rfl⟩;rw [this]; rfl
 | false =>
  cases hl : zbO (((zdh x).filter (zgw x k)).map zfT) d.number with
  | none => rfl
  | some e =>
   obtain ⟨h1, h2⟩ := (look_pair (zjq hx (zgw x k))).1 hl;have h3 := List.mem_filter.1 h1;have : e = d := nodup_key (ziE hx.1) h3.1 hm h2;subst this;rw [h] at h3; cases h3.2
theorem leftK_succ {x : Lexicon} {k : Nat} {d e : Decision} (hd : (zdh x)[k]? = some d) : zgw x (k + 1) e = (zgw x k e && !(decide (d.kind = 4) && decide (d.of_ = e.number) && zdC x d)) := by
 simp only [zgw, zbf hd, List.all_append, List.all_cons, List.all_nil, Bool.and_true]
theorem map_void {x : Lexicon} {k : Nat} {d : Decision} (hd : (zdh x)[k]? = some d) (h : d.kind = 4 ∧ zdC x d = true) :
  delM (((zdh x).filter (zgw x k)).map zfT) d.of_ = ((zdh x).filter (zgw x (k + 1))).map zfT := by
 rw [delM, List.filter_map, List.filter_filter];congr 1;apply List.filter_congr;intro e _;rw [leftK_succ hd, h.1, h.2];simp only [Function.comp, zfT, decide_true, Bool.and_true, Bool.true_and];rw [Bool.and_comm];congr 2;exact decide_eq_decide.2 eq_comm
theorem map_stay {x : Lexicon} {k : Nat} {d : Decision} (hd : (zdh x)[k]? = some d) (h : ¬ (d.kind = 4 ∧ zdC x d = true)) :
  ((zdh x).filter (zgw x k)).map zfT = ((zdh x).filter (zgw x (k + 1))).map zfT := by
 congr 1;apply List.filter_congr;intro e _;rw [leftK_succ hd]
 by_cases h1 : d.kind = 4
 ·have h2 : zdC x d = false := by
   cases q : zdC x d with
   | false => rfl
   | true => exact absurd ⟨h1, q⟩ h
  simp [h2]
 ·simp [h1]
theorem standM_mem {x : Lexicon} {p : Int × Decision} (h : p ∈ zfb x) : p.2 ∈ x.decisions ∧ p.1 = p.2.number ∧ zdC x p.2 = true := by
 obtain ⟨d, hd, rfl⟩ := List.mem_map.1 h;obtain ⟨h1, h2⟩ := List.mem_filter.1 hd;exact ⟨(zdN x).mem_iff.1 h1, rfl, h2⟩
theorem zif {t : Text} {x : Lexicon} (h : zaQ t x = 0) : OkD x := by
 have h1 := lexicon_v h;have h2 := lexicon_v1 h;refine ⟨?_, fun v hv => ⟨h2 v hv, h1 v hv⟩⟩;unfold zaQ at h;split at h
 ·cases h
 split at h
 ·cases h
 rename_i h3;simp only [Bool.not_eq_false] at h3;simp only [zcE, Bool.and_eq_true, decide_eq_true_eq] at h3;exact h3.2
def ziw (rs : List Rule) (left : Int) (w : Str) : Str := if left = 0 then w else (zhf rs w).getD w
def turnB (rs : List Rule) (left : Int) (w : Str) : Bool := if left = 0 then false else (zhf rs w).isSome
def turnL (left : Int) : Int := if left = 0 then 0 else left - 1
def zgP (s p : Str) : Bool := decide (p.length ≤ s.length) && decide (s.drop (s.length - p.length) = p)
theorem stepOf_at {rs : List Rule} {i : Nat} {r : Rule} {w s : Str} (ht : (rs.take i).findSome? (made · w) = none) (hr : rs[i]? = some r) (hm : made r w = some s) : zhf rs w = some s := by
 unfold zhf;rw [← List.take_append_drop i rs, List.findSome?_append, ht, zhk hr, List.findSome?_cons, hm];rfl
theorem stepOf_none {rs : List Rule} {i : Nat} {w : Str} (ht : (rs.take i).findSome? (made · w) = none) (hi : rs.length ≤ i) : zhf rs w = none := by
 rw [List.take_of_length_le hi] at ht; exact ht
theorem turn_take {rs : List Rule} {i : Nat} {r : Rule} {w : Str} (ht : (rs.take i).findSome? (made · w) = none) (hr : rs[i]? = some r) (hm : made r w = none) : (rs.take (i + 1)).findSome? (made · w) = none := by
 rw [zbf hr, List.findSome?_append, ht, List.findSome?_cons, hm]; rfl
theorem turnW_len {rs : List Rule} {left : Int} {w : Str} (h : w.length ≤ 12) : (ziw rs left w).length ≤ 12 := by
 unfold ziw;split
 ·exact h
 cases e : zhf rs w with
 | none => exact h
 | some s =>
  obtain ⟨r, _, hr⟩ := List.exists_of_findSome?_eq_some e;exact made_len hr
theorem made_no {r : Rule} {w : Str} (h : zgP w r.cut = true → r.least ≤ ((w.take (w.length - r.cut.length)).length : Int) ∧ (w.take (w.length - r.cut.length)).length + r.put.length ≤ 12 → False) : made r w = none := by
 unfold made;rw [if_neg];rintro ⟨q1, q2, q3, q4⟩;have hl : (w.take (w.length - r.cut.length)).length = w.length - r.cut.length := by rw [List.length_take]; omega
 exact h (by simp [zgP, q1, q3]) (by rw [hl]; exact ⟨q2, q4⟩)
theorem made_yes {r : Rule} {w : Str} (h : zgP w r.cut = true) (h1 : r.least ≤ ((w.take (w.length - r.cut.length)).length : Int)) (h2 : (w.take (w.length - r.cut.length)).length + r.put.length ≤ 12) : made r w = some (w.take (w.length - r.cut.length) ++ r.put) := by
 simp only [zgP, Bool.and_eq_true, decide_eq_true_eq] at h;have hl : (w.take (w.length - r.cut.length)).length = w.length - r.cut.length := by rw [List.length_take]; omega
 rw [hl] at h1 h2;unfold made;rw [if_pos ⟨h.1, h1, h.2, h2⟩]
theorem turn_true {rs : List Rule} {left : Int} {w : Str} (h : turnB rs left w = true) : ¬ left = 0 ∧ zhf rs w = some (ziw rs left w) := by
 unfold turnB at h;unfold ziw;split at h
 ·cases h
 rename_i h0;rw [if_neg h0];refine ⟨h0, ?_⟩;cases e : zhf rs w with
 | none => rw [e] at h; cases h
 | some s => rfl
theorem turn_false {rs : List Rule} {left : Int} {n : Nat} {w : Str} (h : turnB rs left w = false) (hn : left = (n : Int)) : zdL rs n w = [w] := by
 unfold turnB at h;split at h
 ·have : n = 0 := by omega
  subst this; rfl
 apply stepsN_none;cases e : zhf rs w with
 | none => rfl
 | some s => rw [e] at h; cases h
theorem zgu {α : Type} {dn rm rm' m : List α} {p : α} (h : (dn ++ rm).Perm m) (q : rm.Perm (p :: rm')) : ((dn ++ [p]) ++ rm').Perm m := by
 refine List.Perm.trans ?_ h;rw [List.append_assoc];exact (List.Perm.append_left dn q).symm
def smallW (w : Str) : Bool := decide (w.length ≤ 40)
def zid (l : List Str) : Bool := decide (l.length ≤ 15) && l.all smallW
def zgk (c : Chapter) : Bool := decide (c.lines.length ≤ 15) && c.lines.all zid
def zfq (t : Text) : Bool := decide (t.chapters.length ≤ 10) && t.chapters.all zgk
def smallR (r : Rule) : Bool := decide (r.cut.length ≤ 100) && decide (r.put.length ≤ 100)
def smallD (d : Decision) : Bool := decide (d.form.length ≤ 100) && decide (d.to.stem.length ≤ 100)
def zfp (x : Lexicon) : Bool := decide (x.rules.length ≤ 20) && decide (x.decisions.length ≤ 25) && x.rules.all smallR && x.decisions.all smallD
theorem smallT_len {t : Text} (h : zfq t = true) : t.chapters.length ≤ 10 := by
 simp only [zfq, Bool.and_eq_true, decide_eq_true_eq] at h; exact h.1
theorem smallT_c {t : Text} (h : zfq t = true) {i : Nat} {c : Chapter} (hc : t.chapters[i]? = some c) : c.lines.length ≤ 15 := by
 simp only [zfq, Bool.and_eq_true, decide_eq_true_eq, List.all_eq_true] at h;have := h.2 c (List.mem_of_getElem? hc);simp only [zgk, Bool.and_eq_true, decide_eq_true_eq] at this; exact this.1
theorem smallT_l {t : Text} (h : zfq t = true) {i k : Nat} {c : Chapter} {l : List Str} (hc : t.chapters[i]? = some c) (hl : c.lines[k]? = some l) : l.length ≤ 15 := by
 simp only [zfq, Bool.and_eq_true, decide_eq_true_eq, List.all_eq_true] at h;have := h.2 c (List.mem_of_getElem? hc);simp only [zgk, Bool.and_eq_true, decide_eq_true_eq, List.all_eq_true] at this;have := this.2 l (List.mem_of_getElem? hl);simp only [zid, Bool.and_eq_true, decide_eq_true_eq] at this; exact this.1
theorem smallX_len {x : Lexicon} (h : zfp x = true) : x.rules.length ≤ 20 ∧ x.decisions.length ≤ 25 := by
 simp only [zfp, Bool.and_eq_true, decide_eq_true_eq] at h; exact h.1.1
end Go.Pk

namespace Go.Pk
open Go Go.RowKit
def zcY (a b : Int) : Int := if a < b then -1 else if b < a then 1 else 0
def cmpL : List Int → List Int → Int
 | [], [] => 0
 | [], _ :: _ => -1
 | _ :: _, [] => 1
 | a :: az, b :: bs => if zcY a b ≠ 0 then zcY a b else cmpL az bs
def cmpS (a b : Str) : Int := Lib.compareBytes a b
def ordI (a b : Place) : Int := cmpL [a.chapter, a.line, a.word] [b.chapter, b.line, b.word]
def firstI (a b : Decision) : Int := if a.kind ≠ b.kind then a.kind - b.kind else if a.kind = 2 ∧ a.at_ ≠ b.at_ then ordI a.at_ b.at_ else a.number - b.number
def zeB (d : Decision) (p : Place) (w : Str) : Bool :=
 if d.kind = 1 then decide (d.form = w) else if d.kind = 2 then decide (d.form = w) && !zeq p d.at_ else if d.kind = 3 then decide (d.at_ = p) else false
def betterB (d e : Decision) : Bool := if d.kind ≠ e.kind then decide (d.kind > e.kind) else decide (d.kind ≠ 2) || !zeq d.at_ e.at_
def cmpHead (a b : Head) : Int := if cmpS a.stem b.stem ≠ 0 then cmpS a.stem b.stem else a.mark - b.mark
def sLt (a b : Str) : Bool := Op.bytesLess a b
def headLt (a b : Head) : Bool := sLt a.stem b.stem || (decide (a.stem = b.stem) && decide (a.mark < b.mark))
theorem cmpL_step {a b : List Int} {k : Nat} {x y : Int} (ha : a[k]? = some x) (hb : b[k]? = some y) : cmpL (a.drop k) (b.drop k) = if zcY x y ≠ 0 then zcY x y else cmpL (a.drop (k + 1)) (b.drop (k + 1)) := by
 rw [zhk ha, zhk hb]; rfl
theorem cmpL_nil_cons {a b : List Int} (ha : a = []) (hb : b ≠ []) : cmpL a b = -1 := by
 subst ha; cases b with
 | nil => exact absurd rfl hb
 | cons => rfl
theorem cmpL_cons_nil {a b : List Int} (hb : b = []) (ha : a ≠ []) : cmpL a b = 1 := by
 subst hb; cases a with
 | nil => exact absurd rfl ha
 | cons => rfl
theorem ordI_eq (a b : Place) : ordI a b = if zcY a.chapter b.chapter ≠ 0 then zcY a.chapter b.chapter else if zcY a.line b.line ≠ 0 then zcY a.line b.line else zcY a.word b.word := by
 simp only [ordI, cmpL]; repeat' split
 all_goals simp_all
theorem zhS (a b : Place) : decide (ordI a b ≤ 0) = !zeq b a := by
 rw [ordI_eq]; simp only [zcY, zeq]
 by_cases h1 : a.chapter < b.chapter <;> by_cases h2 : b.chapter < a.chapter <;> by_cases h3 : a.line < b.line <;> by_cases h4 : b.line < a.line <;> by_cases h5 : a.word < b.word <;> by_cases h6 : b.word < a.word <;> simp [h1, h2, h3, h4, h5, h6] <;> (try omega) <;> (repeat' split) <;> simp <;> omega
theorem ordI_gt (a b : Place) : decide (ordI a b > 0) = zeq b a := by
 have h := zhS a b;cases e : zeq b a <;> rw [e] at h <;> simp at h ⊢ <;> omega
theorem zgI {α : Type} {m : List α → Prop} (nil : m []) (snoc : ∀ l a, m l → m (l ++ [a])) (l : List α) : m l := by
 have h : ∀ r : List α, m r.reverse := by
  intro r
  induction r with
  | nil => exact nil
  | cons a r ih => rw [List.reverse_cons]; exact snoc _ _ ih
 have := h l.reverse;rwa [List.reverse_reverse] at this
def zhF (b d : Decision) : Decision := if b.number = 0 ∨ firstI d b > 0 then d else b
def zaS (l : List Decision) : Decision := l.foldl zhF zcz
theorem zgy (l : List Decision) (d : Decision) : zaS (l ++ [d]) = zhF (zaS l) d := by simp [zaS]
theorem bestOf_mem (l : List Decision) : zaS l = zcz ∨ zaS l ∈ l := by
 induction l using zgI with
 | nil => exact .inl rfl
 | snoc l d ih =>
  rw [zgy, zhF];split
  ·exact .inr (by simp)
  ·rcases ih with h | h
   ·exact .inl h
   ·exact .inr (by simp [h])
theorem best_ok {p : Decision → Prop} (hz : p zcz) {l : List Decision} (hp : ∀ y ∈ l, p y) : p (zaS l) := by
 rcases bestOf_mem l with h | h
 ·rw [h]; exact hz
 exact hp _ h
theorem bestOf_zero {l : List Decision} (hp : ∀ y ∈ l, 1 ≤ y.number) (h : (zaS l).number = 0) : zaS l = zcz := by
 rcases bestOf_mem l with h1 | h1
 ·exact h1
 have := hp _ h1; omega
theorem zjz {l : List Decision} (hp : ∀ y ∈ l, 1 ≤ y.number) (hl : l ≠ []) : 1 ≤ (zaS l).number ∧ zaS l ∈ l := by
 have key : zaS l ∈ l := by
  induction l using zgI with
  | nil => exact absurd rfl hl
  | snoc l d ih =>
   rw [zgy, zhF];split
   ·simp
   ·rename_i hn
    by_cases hl' : l = []
    ·subst hl'; exact absurd (.inl rfl) hn
    ·have := ih (fun y hy => hp y (by simp [hy])) hl';simp [this]
 exact ⟨hp _ key, key⟩
def lexD (a b : Decision) : Prop := a.kind < b.kind ∨ (a.kind = b.kind ∧ ((a.kind = 2 ∧ (a.at_.chapter < b.at_.chapter ∨ (a.at_.chapter = b.at_.chapter ∧ (a.at_.line < b.at_.line ∨ (a.at_.line = b.at_.line ∧ a.at_.word < b.at_.word))))) ∨ ((a.kind = 2 → a.at_ = b.at_) ∧ a.number < b.number)))
theorem firstI_lex {d e : Decision} : firstI d e > 0 ↔ lexD e d := by
 unfold firstI lexD
 by_cases hk : d.kind = e.kind
 ·have hk' : ¬ d.kind ≠ e.kind := by simp [hk]
  simp only [if_neg hk']
  by_cases h2 : d.kind = 2
  ·have h3 : e.kind = 2 := by omega
   by_cases ha : d.at_ = e.at_
   ·have q : ¬ (d.kind = 2 ∧ d.at_ ≠ e.at_) := by simp [ha]
    simp only [if_neg q, h3, h2, ha];simp
   ·have q : d.kind = 2 ∧ d.at_ ≠ e.at_ := ⟨h2, ha⟩;rw [if_pos q];simp only [h3, h2];have hg := ordI_gt d.at_ e.at_;have h5 : ordI d.at_ e.at_ > 0 ↔ zeq e.at_ d.at_ = true := by rw [← hg]; simp
    rw [h5];have ha' : ¬ e.at_ = d.at_ := fun q => ha q.symm;simp only [ha', Int.lt_irrefl, false_or, true_and, forall_const, false_and, or_false, zeq]
    by_cases q1 : e.at_.chapter = d.at_.chapter <;> by_cases q2 : e.at_.line = d.at_.line <;> simp_all
  ·have h3 : ¬ e.kind = 2 := by omega
   have q : ¬ (d.kind = 2 ∧ d.at_ ≠ e.at_) := by simp [h2]
   simp only [if_neg q, h3]; simp [hk]
 have hk' : d.kind ≠ e.kind := hk;simp only [if_pos hk']; omega
theorem lexD_trans {a b c : Decision} (h1 : lexD a b) (h2 : lexD b c) : lexD a c := by
 rcases a with ⟨n1, k1, f1, ⟨c1, l1, w1⟩, t1, o1⟩; rcases b with ⟨n2, k2, f2, ⟨c2, l2, w2⟩, t2, o2⟩; rcases c with ⟨n3, k3, f3, ⟨c3, l3, w3⟩, t3, o3⟩
 simp only [lexD, Place.mk.injEq] at *;omega
theorem lexD_total {a b : Decision} (h : a.number ≠ b.number) : lexD a b ∨ lexD b a := by
 rcases a with ⟨n1, k1, f1, ⟨c1, l1, w1⟩, t1, o1⟩; rcases b with ⟨n2, k2, f2, ⟨c2, l2, w2⟩, t2, o2⟩
 simp only [lexD, Place.mk.injEq] at *;omega
theorem lexD_irrefl (a : Decision) : ¬ lexD a a := by
 unfold lexD; omega
theorem bestOf_best {l : List Decision} (hp : ∀ y ∈ l, 1 ≤ y.number) (hn : (l.map (·.number)).Nodup) : ∀ y ∈ l, y ≠ zaS l → lexD y (zaS l) := by
 induction l using zgI with
 | nil => simp
 | snoc l d ih =>
  intro y hy hne;have hn' : (l.map (·.number)).Nodup := by rw [List.map_append] at hn; exact (List.nodup_append.1 hn).1
  have ih := ih (fun y hy => hp y (by simp [hy])) hn';have hd : ∀ z ∈ l, z.number ≠ d.number := by
   intro z hz e;rw [List.map_append] at hn;exact (List.nodup_append.1 hn).2.2 _ (List.mem_map_of_mem hz) _ (List.mem_map.2 ⟨d, by simp, rfl⟩) e
  rw [zgy] at hne ⊢;unfold zhF at hne ⊢;split at hne
  ·rename_i hc;rw [if_pos hc]
   rcases List.mem_append.1 hy with h | h
   ·by_cases hl : l = []
    ·subst hl; cases h
    ·have hb := zjz (fun y hy => hp y (by simp [hy])) hl;have h1 : lexD (zaS l) d := by
      rcases hc with h0 | h0
      ·omega
      ·exact firstI_lex.1 h0
     by_cases e : y = zaS l
     ·rw [e]; exact h1
     ·exact lexD_trans (ih y h e) h1
   ·simp at h; exact absurd h hne
  ·rename_i hc;rw [if_neg hc];have hc' : ¬ (zaS l).number = 0 ∧ ¬ lexD (zaS l) d := ⟨fun h => hc (.inl h), fun h => hc (.inr (firstI_lex.2 h))⟩
   rcases List.mem_append.1 hy with h | h
   ·exact ih y h hne
   ·simp at h; subst h
    by_cases hl : l = []
    ·subst hl; exact absurd rfl hc'.1
    ·have hb := zjz (fun y hy => hp y (by simp [hy])) hl
     rcases lexD_total (hd _ hb.2) with h1 | h1
     ·exact absurd h1 hc'.2
     ·exact h1
theorem bestOf_perm {xs ys : List Decision} (h : xs.Perm ys) (hp : ∀ y ∈ ys, 1 ≤ y.number) (hn : (ys.map (·.number)).Nodup) : zaS xs = zaS ys := by
 by_cases hy : ys = []
 ·subst hy; rw [h.eq_nil]
 have hx : xs ≠ [] := fun e => hy (by subst e; exact h.symm.eq_nil);have hp' : ∀ y ∈ xs, 1 ≤ y.number := fun y hy => hp y (h.mem_iff.1 hy);have hn' : (xs.map (·.number)).Nodup := (h.map _).nodup_iff.2 hn;have h1 := (zjz hp' hx).2;have h2 := (zjz hp hy).2
 by_cases e : zaS xs = zaS ys
 ·exact e
 have a := bestOf_best hp hn _ (h.mem_iff.1 h1) e;have b := bestOf_best hp' hn' _ (h.mem_iff.2 h2) (Ne.symm e);exact absurd (lexD_trans a b) (lexD_irrefl _)
def zcm (t : Text) (p : Place) : Str := (zhd t p).getD []
def conD (x : Lexicon) (p : Place) (wd : Str) : List Decision := ((zfb x).map (·.2)).filter fun d => zeB d p wd
def zef (x : Lexicon) (p : Place) (wd : Str) : Decision :=
 if (zaS (conD x p wd)).number = 0 then { zcz with to := ⟨((zdL x.rules 4 wd).getLast?).getD [], 0⟩ } else zaS (conD x p wd)
def OkO (o : Office) : Prop := zaQ o.text o.lex = 0 ∧ o.stands = zfb o.lex
theorem place_at {t : Text} {p : Place} (h : zbG t p = true) : ∃ c ln wd, 0 ≤ p.chapter ∧ t.chapters[p.chapter.toNat]? = some c ∧ 0 ≤ p.line ∧ c.lines[p.line.toNat]? = some ln ∧ 0 ≤ p.word ∧ ln[p.word.toNat]? = some wd ∧ zcm t p = wd := by
 unfold zbG at h;unfold zcm;unfold zhd zcZ at *;split at h
 ·rename_i h1;split at h
  ·rename_i h2;cases hc : t.chapters[p.chapter.toNat]? with
   | none => simp [hc] at h
   | some c =>
    simp only [hc, Option.bind_some] at h;cases hl : c.lines[p.line.toNat]? with
    | none => simp [hl] at h
    | some ln =>
     simp only [hl, Option.bind_some] at h;cases hw : ln[p.word.toNat]? with
     | none => simp [hw] at h
     | some wd => exact ⟨c, ln, wd, h2.1, rfl, h2.2, hl, h1, hw, by simp [if_pos h1, if_pos h2, hc, hl, hw]⟩
  ·simp at h
 simp at h
theorem okO_d {o : Office} (h : OkO o) : OkD o.lex := zif h.1
theorem standM_ok {t : Text} {x : Lexicon} (h : zaQ t x = 0) {q : Int × Decision} (hq : q ∈ zfb x) : zaj t q.2 = true ∧ 1 ≤ q.2.number ∧ q.2.number ≤ 999 ∧ 1 ≤ q.2.kind ∧ q.2.kind ≤ 4 := by
 have h1 := (standM_mem hq).1;have h2 : zcE t x = true := by
  unfold zaQ at h;split at h
  ·cases h
  ·split at h
   ·cases h
   ·rename_i h3; simpa using h3
 simp only [zcE, Bool.and_eq_true, List.all_eq_true] at h2;have h3 := h2.1.2 _ h1;have h4 := (zif h).2 _ h1;refine ⟨h3, h4.1, h4.2.1, ?_⟩;unfold zaj at h3;simp only [Bool.and_eq_true] at h3;have h5 := h3.2;split at h5
 ·omega
 split at h5
 ·omega
 split at h5
 ·omega
 split at h5
 ·omega
 cases h5
theorem standM_nodupD {x : Lexicon} (h : OkD x) : (((zfb x).map (·.2)).map (·.number)).Nodup := by
 have := zjq h (zdC x);simpa [zfb, zfT, List.map_map, Function.comp_def] using this
theorem wordD_len {t : Text} {p : Place} (ht : zbk t = true) (hp : zbG t p = true) : (zcm t p).length ≤ 12 := by
 obtain ⟨c, ln, wd, _, hc, _, hl, _, hw, e⟩ := place_at hp;rw [e];simp only [zbk, Bool.and_eq_true, List.all_eq_true] at ht;have h1 := ht.1.2 _ (List.mem_of_getElem? hc);simp only [zbM, Bool.and_eq_true, List.all_eq_true] at h1;have h2 := h1.2 _ (List.mem_of_getElem? hl);simp only [zgO, Bool.and_eq_true, List.all_eq_true] at h2;exact zia (h2.2 _ (List.mem_of_getElem? hw))
theorem zeb {t : Text} {x : Lexicon} (h : zaQ t x = 0) : zbk t = true := by
 unfold zaQ at h;split at h
 ·cases h
 rename_i h1; simpa using h1
theorem conD_perm {x : Lexicon} {p : Place} {wd : Str} {dn : List (Int × Decision)} (h : OkD x) (hd : dn.Perm (zfb x)) : zaS ((dn.map (·.2)).filter fun d => zeB d p wd) = zaS (conD x p wd) := by
 refine bestOf_perm ((hd.map _).filter _) ?_ ?_
 ·intro y hy;obtain ⟨q, hq, rfl⟩ := List.mem_map.1 (List.mem_filter.1 hy).1;exact (h.2 _ (standM_mem hq).1).1
 exact (List.filter_sublist.map _).nodup (standM_nodupD h)
theorem stepsN_ne (rs : List Rule) (n : Nat) (w : Str) : zdL rs n w ≠ [] := by
 cases n with
 | zero => simp [zdL]
 | succ n => simp only [zdL]; split <;> simp
end Go.Pk

namespace Go.Pk
open Go Go.RowKit
def ziC (t : Text) (k : Nat) : List (List Str) := ((t.chapters[k]?).map (·.lines)).getD []
def wordsAt (t : Text) (k n : Nat) : List Str := ((ziC t k)[n]?).getD []
def mkP (k n w : Nat) : Place := ⟨k, n, w⟩
def lineP (t : Text) (k n : Nat) : List Place := (List.range (wordsAt t k n).length).map (mkP k n)
def chapP (t : Text) (k : Nat) : List Place := (List.range (ziC t k).length).flatMap (lineP t k)
def zfi (t : Text) : List Place := (List.range t.chapters.length).flatMap (chapP t)
theorem zgN {t : Text} {k : Nat} {c : Chapter} (h : t.chapters[k]? = some c) : ziC t k = c.lines := by simp [ziC, h]
theorem zhQ {t : Text} {k n : Nat} {c : Chapter} {ln : List Str} (h : t.chapters[k]? = some c) (h2 : c.lines[n]? = some ln) : wordsAt t k n = ln := by simp [wordsAt, zgN h, h2]
theorem zfu {α : Type} {f : Nat → List α} {c : Nat} (h : ∀ k, (f k).length ≤ c) (n : Nat) : ((List.range n).flatMap f).length ≤ c * n := by
 induction n with
 | zero => simp
 | succ n ih =>
  rw [List.range_succ, List.flatMap_append, List.length_append];have := h n;simp only [List.flatMap_cons, List.flatMap_nil, List.append_nil];rw [Nat.mul_succ]; omega
theorem ziu {t : Text} (ht : zbk t = true) (k n : Nat) : (wordsAt t k n).length ≤ 10 := by
 unfold wordsAt ziC;simp only [zbk, Bool.and_eq_true, List.all_eq_true] at ht;cases hc : t.chapters[k]? with
 | none => simp
 | some c =>
  have h1 := ht.1.2 _ (List.mem_of_getElem? hc);simp only [zbM, Bool.and_eq_true, List.all_eq_true] at h1;simp only [Option.map_some, Option.getD_some];cases hl : c.lines[n]? with
  | none => simp
  | some ln =>
   have h2 := h1.2 _ (List.mem_of_getElem? hl);simp only [zgO, Bool.and_eq_true, inB, decide_eq_true_eq] at h2;simp only [Option.getD_some]; omega
theorem ziB {t : Text} (ht : zbk t = true) (k : Nat) : (ziC t k).length ≤ 10 := by
 unfold ziC;simp only [zbk, Bool.and_eq_true, List.all_eq_true] at ht;cases hc : t.chapters[k]? with
 | none => simp
 | some c =>
  have h1 := ht.1.2 _ (List.mem_of_getElem? hc);simp only [zbM, Bool.and_eq_true, inB, decide_eq_true_eq] at h1;simp only [Option.map_some, Option.getD_some]; omega
theorem zgR {t : Text} (ht : zbk t = true) : t.chapters.length ≤ 6 := by
 simp only [zbk, Bool.and_eq_true, inB, decide_eq_true_eq] at ht; omega
theorem lineP_len {t : Text} (ht : zbk t = true) (k n : Nat) : (lineP t k n).length ≤ 10 := by
 rw [lineP, List.length_map, List.length_range]; exact ziu ht k n
theorem chapP_len {t : Text} (ht : zbk t = true) (k : Nat) : (chapP t k).length ≤ 100 := by
 have h1 := zfu (lineP_len ht k) (ziC t k).length;have h2 := ziB ht k;rw [chapP]; omega
theorem places_len {t : Text} (ht : zbk t = true) : (zfi t).length ≤ 600 := by
 have h1 := zfu (chapP_len ht) t.chapters.length;have h2 := zgR ht;rw [zfi]; omega
theorem place_mk {t : Text} {k n w : Nat} {c : Chapter} {ln : List Str} (hc : t.chapters[k]? = some c) (hl : c.lines[n]? = some ln) (hw : w < ln.length) : zbG t (mkP k n w) = true := by
 have h0 : ln[w]? = some ln[w] := List.getElem?_eq_getElem hw;simp [zbG, zhd, zcZ, mkP, hc, hl, h0]
theorem word_mk {t : Text} {k n w : Nat} {c : Chapter} {ln : List Str} {s : Str} (hc : t.chapters[k]? = some c) (hl : c.lines[n]? = some ln) (hw : ln[w]? = some s) : zcm t (mkP k n w) = s := by
 simp [zcm, zhd, zcZ, mkP, hc, hl, hw]
theorem lineP_snoc {t : Text} {k n : Nat} {c : Chapter} {ln : List Str} (hc : t.chapters[k]? = some c) (hl : c.lines[n]? = some ln) {w : Nat} (hw : w = ln.length) : (List.range w).map (mkP k n) = lineP t k n := by
 rw [lineP, zhQ hc hl, hw]
theorem chapP_snoc {t : Text} {k : Nat} {c : Chapter} (hc : t.chapters[k]? = some c) {n : Nat} (hn : n = c.lines.length) : (List.range n).flatMap (lineP t k) = chapP t k := by
 rw [chapP, zgN hc, hn]
theorem range_flat_succ {α : Type} (f : Nat → List α) (n : Nat) : (List.range (n + 1)).flatMap f = (List.range n).flatMap f ++ f n := by
 rw [List.range_succ, List.flatMap_append]; simp
def ziK (t : Text) (x : Lexicon) (p : Place) : Head := (zef x p (zcm t p)).to
def entryAt (t : Text) (x : Lexicon) (p : Place) : Entry := ⟨p, zcm t p, ziK t x p⟩
def zbI (t : Text) (x : Lexicon) : List Entry := (zfi t).map (entryAt t x)
def headsL (t : Text) (x : Lexicon) : List Head := (zfi t).map (ziK t x)
def headR0 (x : Lexicon) (wd : Str) : Decision := { zcz with to := ⟨((zdL x.rules 4 wd).getLast?).getD [], 0⟩ }
def stepR (p : Place) (wd : Str) (b d : Decision) : Decision := if zeB d p wd = true ∧ (b.number = 0 ∨ betterB d b = true) then d else b
def headR (x : Lexicon) (l : List Decision) (p : Place) (wd : Str) : Decision := l.foldl (stepR p wd) (headR0 x wd)
def zgp (t : Text) (x : Lexicon) (p : Place) : Decision := if zaQ t x = 0 ∧ zbG t p = true then zef x p (zcm t p) else zcz
def askE (t : Text) (x : Lexicon) (p : Place) : Int := if zaQ t x = 0 then (if zbG t p = true then 0 else 12) else zaQ t x
theorem stepsN_mem_len {rs : List Rule} : ∀ (n : Nat) (w : Str), w.length ≤ 12 → ∀ s ∈ zdL rs n w, s.length ≤ 12
 | 0, w, h, s, hs => by simp [zdL] at hs; subst hs; exact h
 | n + 1, w, h, s, hs => by
  simp only [zdL] at hs;split at hs
  ·simp at hs; subst hs; exact h
  ·rename_i u hu
   rcases List.mem_cons.1 hs with rfl | hs
   ·exact h
   ·obtain ⟨r, _, hr⟩ := List.exists_of_findSome?_eq_some hu;exact stepsN_mem_len n u (made_len hr) s hs
theorem head_of_valid {h : Head} (hv : zeg h = true) : h.stem.length ≤ 12 ∧ 0 ≤ h.mark ∧ h.mark ≤ 3 := by
 simp only [zeg, Bool.and_eq_true, inB, decide_eq_true_eq] at hv;exact ⟨zia hv.1, hv.2.1, hv.2.2⟩
theorem dec_head {t : Text} {d : Decision} {p : Place} {wd : Str} (h : zaj t d = true) (hc : zeB d p wd = true) : zeg d.to = true := by
 simp only [zaj, Bool.and_eq_true] at h;have h := h.2;unfold zeB at hc
 by_cases k1 : d.kind = 1
 ·simp only [k1, if_true, Bool.and_eq_true] at h; exact h.1.2
 by_cases k2 : d.kind = 2
 ·simp [k2] at h; exact h.1.2
 by_cases k3 : d.kind = 3
 ·simp [k3] at h; exact h.1.2
 simp [k1, k2, k3] at hc
theorem winD_ok {t : Text} {x : Lexicon} {p : Place} (hx : zaQ t x = 0) (hp : zbG t p = true) : (zef x p (zcm t p)).to.stem.length ≤ 12 ∧ 0 ≤ (zef x p (zcm t p)).to.mark ∧ (zef x p (zcm t p)).to.mark ≤ 3 := by
 unfold zef;split
 ·refine ⟨?_, by simp, by simp⟩;have hw := wordD_len (zeb hx) hp;cases e : (zdL x.rules 4 (zcm t p)).getLast? with
  | none => simp
  | some s => exact stepsN_mem_len 4 _ hw s (List.mem_of_getLast? e)
 rename_i h0
 rcases bestOf_mem (conD x p (zcm t p)) with h | h
 ·rw [h] at h0; exact absurd rfl h0
 obtain ⟨h1, h2⟩ := List.mem_filter.1 h;obtain ⟨q, hq, e⟩ := List.mem_map.1 h1;have h3 := (standM_ok hx hq).1;rw [e] at h3;exact head_of_valid (dec_head h3 h2)
end Go.Pk

namespace Go.Pk
open Go Go.RowKit
section
variable {α : Type}
structure DelF (q : α → Bool) (s ys : List α) (i j : Nat) : Prop where
 len : ys.length = s.length
 le : i ≤ j
 le2 : j ≤ s.length
 head : ys.take i = (s.take j).filter fun x => !q x
 tail : ys.drop j = s.drop j
theorem DelF.get {q : α → Bool} {s ys : List α} {i j : Nat} (d : DelF q s ys i j) {y : α} (h : ys[j]? = some y) : s[j]? = some y := by
 have h1 := congrArg (fun l : List α => l[0]?) d.tail;simp only [List.getElem?_drop, Nat.add_zero] at h1;rw [← h1]; exact h
theorem DelF.start {q : α → Bool} {s : List α} {k : Nat} (h1 : ∀ j x, j < k → s[j]? = some x → q x = false) (h2 : ∀ x, s[k]? = some x → q x = true) (hk : k < s.length) : DelF q s s k (k + 1) := by
 refine ⟨rfl, by omega, by omega, ?_, rfl⟩;have hx : s[k]? = some s[k] := List.getElem?_eq_getElem hk;rw [zbf hx, List.filter_append];have e1 : (s.take k).filter (fun x => !q x) = s.take k := by
  rw [List.filter_eq_self];intro x hx;obtain ⟨j, hj⟩ := List.mem_iff_getElem?.1 hx;rw [List.getElem?_take] at hj;split at hj
  ·rename_i hjk; simp [h1 j x hjk hj]
  ·cases hj
 simp [e1, h2 _ hx]
theorem DelF.keep {q : α → Bool} {s ys : List α} {i j : Nat} (d : DelF q s ys i j) {y : α} (h : ys[j]? = some y) (hq : q y = false) : DelF q s (ys.set i y) (i + 1) (j + 1) := by
 obtain ⟨h1, _⟩ := List.getElem?_eq_some_iff.1 h;have hl := d.len; have hle := d.le;refine ⟨by rw [List.length_set]; exact d.len, by omega, by omega, ?_, ?_⟩
 ·rw [zbf (d.get h), List.filter_append, ← d.head];have e : (ys.set i y)[i]? = some y := by rw [List.getElem?_set]; simp; omega
  rw [zbf e, List.take_set_of_le (Nat.le_refl i)];simp [hq]
 rw [List.drop_set_of_lt zr];have := congrArg (List.drop 1) d.tail;simpa [List.drop_drop] using this
theorem DelF.skip {q : α → Bool} {s ys : List α} {i j : Nat} (d : DelF q s ys i j) {y : α} (h : ys[j]? = some y) (hq : q y = true) : DelF q s ys i (j + 1) := by
 obtain ⟨h1, _⟩ := List.getElem?_eq_some_iff.1 h;have hl := d.len; have hle := d.le;refine ⟨d.len, by omega, by omega, ?_, ?_⟩
 ·rw [zbf (d.get h), List.filter_append, ← d.head];simp [hq]
 have := congrArg (List.drop 1) d.tail;simpa [List.drop_drop] using this
theorem DelF.fin {q : α → Bool} {s ys : List α} {i j : Nat} (d : DelF q s ys i j) (h : s.length ≤ j) : ys.take i = s.filter fun x => !q x := by
 rw [d.head, List.take_of_length_le h]
theorem filter_none {q : α → Bool} {s : List α} (h : ∀ j x, j < s.length → s[j]? = some x → q x = false) : (s.filter fun x => !q x) = s := by
 rw [List.filter_eq_self];intro x hx;obtain ⟨j, hj⟩ := List.mem_iff_getElem?.1 hx;obtain ⟨h1, _⟩ := List.getElem?_eq_some_iff.1 hj;simp [h j x h1 hj]
variable [DecidableEq α]
def zhC (acc : List α) (x : α) : List α := if acc.getLast? = some x then acc else acc ++ [x]
def zcu (l : List α) : List α := l.foldl zhC []
theorem zhs (l : List α) (x : α) : zcu (l ++ [x]) = zhC (zcu l) x := by simp [zcu]
theorem compactL_last (l : List α) : (zcu l).getLast? = l.getLast? := by
 induction l using zgI with
 | nil => rfl
 | snoc l d ih =>
  rw [zhs, zhC];split
  ·rename_i h; rw [h]; simp
  ·simp
theorem zhr {s : List α} {k : Nat} {y z : α} (hz : s[k]? = some z) (hy : s[k + 1]? = some y) : zcu (s.take (k + 2)) = if z = y then zcu (s.take (k + 1)) else zcu (s.take (k + 1)) ++ [y] := by
 have e : (s.take (k + 1)).getLast? = some z := by rw [zbf hz]; simp
 rw [zbf hy, zhs, zhC, compactL_last, e];simp only [Option.some.injEq]
theorem comp_more {s : List α} {k : Nat} {y z : α} (hz : s[k - 1]? = some z) (hy : s[k]? = some y) (hk : 1 ≤ k) (h : zcu (s.take k) = s.take k) (hne : ¬ y = z) : zcu (s.take (k + 1)) = s.take (k + 1) := by
 obtain ⟨m, rfl⟩ : ∃ m, k = m + 1 := ⟨k - 1, by omega⟩;rw [Nat.add_sub_cancel] at hz;rw [show m + 1 + 1 = m + 2 from rfl, zhr hz hy, if_neg (fun e => hne e.symm), h, ← zbf hy]
theorem comp_one {s : List α} (h : 1 ≤ s.length) : zcu (s.take 1) = s.take 1 := by
 cases s with
 | nil => simp at h
 | cons a s => simp [zcu, zhC]
theorem comp_short {s : List α} (h : s.length < 2) : zcu s = s := by
 match s, h with
 | [], _ => rfl
 | [a], _ => simp [zcu, zhC]
structure Comp (s ys : List α) (i j : Nat) : Prop where
 len : ys.length = s.length
 le : i + 1 ≤ j
 le2 : j ≤ s.length
 head : ys.take i = zcu (s.take j)
 tail : ys.drop (j - 1) = s.drop (j - 1)
theorem Comp.start {s : List α} {k : Nat} {y z : α} (hz : s[k - 1]? = some z) (hy : s[k]? = some y) (hk : 1 ≤ k) (h : zcu (s.take k) = s.take k) (he : y = z) : Comp s s k (k + 1) := by
 obtain ⟨h1, _⟩ := List.getElem?_eq_some_iff.1 hy;refine ⟨rfl, Nat.le_refl _, by omega, ?_, rfl⟩;obtain ⟨m, rfl⟩ : ∃ m, k = m + 1 := ⟨k - 1, by omega⟩;rw [Nat.add_sub_cancel] at hz;rw [show m + 1 + 1 = m + 2 from rfl, zhr hz hy, if_pos he.symm, h]
theorem Comp.get {s ys : List α} {i j : Nat} (d : Comp s ys i j) {y : α} {n : Nat} (hn : j - 1 ≤ n) (h : ys[n]? = some y) : s[n]? = some y := by
 have h1 := congrArg (fun l : List α => l[n - (j - 1)]?) d.tail;simp only [List.getElem?_drop] at h1;rw [show j - 1 + (n - (j - 1)) = n by omega] at h1;rw [← h1]; exact h
theorem Comp.keep {s ys : List α} {i j : Nat} (d : Comp s ys i j) {y z : α} (h : ys[j]? = some y) (hz : ys[j - 1]? = some z) (hne : ¬ y = z) : Comp s (ys.set i y) (i + 1) (j + 1) := by
 obtain ⟨h1, _⟩ := List.getElem?_eq_some_iff.1 h;have hl := d.len; have hle := d.le; have hle2 := d.le2;have g1 := d.get zr h;have g2 := d.get (Nat.le_refl _) hz;refine ⟨by rw [List.length_set]; exact d.len, by omega, by omega, ?_, ?_⟩
 ·obtain ⟨m, rfl⟩ : ∃ m, j = m + 1 := ⟨j - 1, by omega⟩;rw [Nat.add_sub_cancel] at g2;rw [show m + 1 + 1 = m + 2 from rfl, zhr g2 g1, if_neg (fun e => hne e.symm), ← d.head];have e : (ys.set i y)[i]? = some y := by rw [List.getElem?_set]; simp; omega
  rw [zbf e, List.take_set_of_le (Nat.le_refl i)]
 rw [Nat.add_sub_cancel, List.drop_set_of_lt zr];have := congrArg (List.drop 1) d.tail;rw [List.drop_drop, List.drop_drop, show j - 1 + 1 = j by omega] at this;exact this
theorem Comp.skip {s ys : List α} {i j : Nat} (d : Comp s ys i j) {y z : α} (h : ys[j]? = some y) (hz : ys[j - 1]? = some z) (he : y = z) : Comp s ys i (j + 1) := by
 obtain ⟨h1, _⟩ := List.getElem?_eq_some_iff.1 h;have hl := d.len; have hle := d.le; have hle2 := d.le2;have g1 := d.get zr h;have g2 := d.get (Nat.le_refl _) hz;refine ⟨d.len, by omega, by omega, ?_, ?_⟩
 ·obtain ⟨m, rfl⟩ : ∃ m, j = m + 1 := ⟨j - 1, by omega⟩;rw [Nat.add_sub_cancel] at g2;rw [show m + 1 + 1 = m + 2 from rfl, zhr g2 g1, if_pos he.symm, ← d.head]
 have := congrArg (List.drop 1) d.tail;rw [List.drop_drop, List.drop_drop, show j - 1 + 1 = j by omega] at this;rw [Nat.add_sub_cancel]; exact this
theorem Comp.fin {s ys : List α} {i j : Nat} (d : Comp s ys i j) (h : s.length ≤ j) : ys.take i = zcu s := by
 rw [d.head, List.take_of_length_le h]
end
end Go.Pk

namespace Go.Pk
open Go Go.RowKit
section
variable {α : Type} [DecidableEq α]
structure TLt (lt : α → α → Bool) : Prop where
 irrefl : ∀ a, lt a a = false
 trans : ∀ a b c, lt a b = true → lt b c = true → lt a c = true
 total : ∀ a b, a ≠ b → lt a b = true ∨ lt b a = true
def insBy (lt : α → α → Bool) (l : List α) (x : α) : List α := if (l.dropWhile fun a => lt a x).head? = some x then l else (l.takeWhile fun a => lt a x) ++ [x] ++ (l.dropWhile fun a => lt a x)
def setL (lt : α → α → Bool) (l : List α) : List α := l.foldl (insBy lt) []
variable {lt : α → α → Bool}
theorem setL_snoc (l : List α) (x : α) : setL lt (l ++ [x]) = insBy lt (setL lt l) x := by simp [setL]
omit [DecidableEq α] in
theorem TLt.asymm (T : TLt lt) {a b : α} (h : lt a b = true) : lt b a = false := by
 cases e : lt b a with
 | false => rfl
 | true => have := T.trans _ _ _ h e; rw [T.irrefl] at this; cases this
theorem insBy_mem {l : List α} {x y : α} : y ∈ insBy lt l x ↔ y ∈ l ∨ y = x := by
 unfold insBy;split
 ·rename_i h;have : x ∈ l.dropWhile fun a => lt a x := List.mem_of_mem_head? h;have hx : x ∈ l := (List.dropWhile_sublist _).subset this;constructor
  ·exact .inl
  ·rintro (h | rfl)
   ·exact h
   ·exact hx
 have e : l = (l.takeWhile fun a => lt a x) ++ (l.dropWhile fun a => lt a x) := (List.takeWhile_append_dropWhile).symm;have : y ∈ l ↔ y ∈ (l.takeWhile fun a => lt a x) ∨ y ∈ (l.dropWhile fun a => lt a x) := by
  rw [← List.mem_append, ← e]
 rw [this];simp only [List.mem_append, List.mem_singleton];constructor
 ·rintro ((h | h) | h)
  ·exact .inl (.inl h)
  ·exact .inr h
  ·exact .inl (.inr h)
 rintro ((h | h) | h)
 ·exact .inl (.inl h)
 ·exact .inr h
 exact .inl (.inr h)
theorem insBy_sorted (T : TLt lt) {l : List α} {x : α} (hs : l.Pairwise fun a b => lt a b = true) : (insBy lt l x).Pairwise fun a b => lt a b = true := by
 unfold insBy;split
 ·exact hs
 rename_i hne;have e : l = (l.takeWhile fun a => lt a x) ++ (l.dropWhile fun a => lt a x) := (List.takeWhile_append_dropWhile).symm;have hs' := hs;rw [e] at hs';obtain ⟨s1, s2, s3⟩ := List.pairwise_append.1 hs';have ht : ∀ a ∈ l.takeWhile (fun a => lt a x), lt a x = true := by
  intro a ha;have := List.all_takeWhile (l := l) (p := fun a => lt a x);exact List.all_eq_true.1 this a ha
 have hd : ∀ b ∈ l.dropWhile (fun a => lt a x), lt x b = true := by
  cases hD : l.dropWhile (fun a => lt a x) with
  | nil => simp
  | cons c D =>
   have hc : ¬ lt c x = true := by
    have := List.head?_dropWhile_not (fun a => lt a x) l;rw [hD] at this; simpa using this
   have hcx : c ≠ x := by
    intro q; rw [hD, q] at hne; exact hne rfl
   have h1 : lt x c = true := (T.total x c (Ne.symm hcx)).resolve_right hc;intro b hb
   rcases List.mem_cons.1 hb with rfl | hb
   ·exact h1
   ·rw [hD] at s2;exact T.trans _ _ _ h1 ((List.pairwise_cons.1 s2).1 b hb)
 rw [List.append_assoc];refine List.pairwise_append.2 ⟨s1, List.pairwise_append.2 ⟨by simp, s2, ?_⟩, ?_⟩
 ·intro a ha b hb;simp at ha; subst ha;exact hd b hb
 intro a ha b hb
 rcases List.mem_append.1 hb with hb | hb
 ·simp at hb; subst hb; exact ht a ha
 exact s3 a ha b hb
theorem setL_sorted (T : TLt lt) (l : List α) : (setL lt l).Pairwise fun a b => lt a b = true := by
 induction l using zgI with
 | nil => exact List.Pairwise.nil
 | snoc l d ih => rw [setL_snoc]; exact insBy_sorted T ih
theorem setL_mem {l : List α} {y : α} : y ∈ setL lt l ↔ y ∈ l := by
 induction l using zgI with
 | nil => simp [setL]
 | snoc l d ih => rw [setL_snoc, insBy_mem, ih]; simp
omit [DecidableEq α] in
theorem strict_eq (T : TLt lt) {a b : List α} (ha : a.Pairwise fun x y => lt x y = true) (hb : b.Pairwise fun x y => lt x y = true) (h : ∀ x, x ∈ a ↔ x ∈ b) : a = b := by
 have na : a.Nodup := ha.imp (fun h e => by subst e; rw [T.irrefl] at h; cases h);have nb : b.Nodup := hb.imp (fun h e => by subst e; rw [T.irrefl] at h; cases h);refine List.Perm.eq_of_pairwise (le := fun x y => lt x y = true) (fun x y _ _ h1 h2 => by have := T.asymm h1; rw [h2] at this; cases this) ha hb ((List.perm_ext_iff_of_nodup na nb).2 h)
theorem setL_len (T : TLt lt) (l : List α) : (setL lt l).length ≤ l.length := by
 induction l using zgI with
 | nil => simp [setL]
 | snoc l d ih =>
  rw [setL_snoc, insBy];split
  ·simp; omega
  ·have e := congrArg List.length (List.takeWhile_append_dropWhile (p := fun a => lt a d) (l := setL lt l));simp only [List.length_append] at e ⊢;simp only [List.length_cons, List.length_nil]; omega
theorem compactL_mem {l : List α} : ∀ {y : α}, y ∈ zcu l ↔ y ∈ l := by
 induction l using zgI with
 | nil => simp [zcu]
 | snoc l d ih =>
  intro y;rw [zhs, zhC];split
  ·rename_i h;rw [ih];have : d ∈ zcu l := List.mem_of_getLast? h;rw [ih] at this;constructor
   ·intro h; simp [h]
   ·intro h
    rcases List.mem_append.1 h with h | h
    ·exact h
    ·simp at h; subst h; exact this
  ·simp [ih]
theorem compactL_sorted (T : TLt lt) {l : List α} (hs : l.Pairwise fun a b => lt b a = false) : (zcu l).Pairwise fun a b => lt a b = true := by
 induction l using zgI with
 | nil => exact List.Pairwise.nil
 | snoc l d ih =>
  obtain ⟨s1, _, s3⟩ := List.pairwise_append.1 hs;rw [zhs, zhC];split
  ·exact ih s1
  ·rename_i hne;refine List.pairwise_append.2 ⟨ih s1, by simp, fun a ha b hb => ?_⟩;simp at hb; subst hb;have hal : a ∈ l := compactL_mem.1 ha;have h1 := s3 a hal b (by simp)
   by_cases e : a = b
   ·exfalso;subst e;rw [compactL_last] at hne;cases hL : l.getLast? with
    | none => rw [List.getLast?_eq_none_iff] at hL; subst hL; cases hal
    | some z =>
     rw [hL] at hne;have hz : z ∈ l := List.mem_of_getLast? hL;have h2 := s3 z hz a (by simp)
     -- a comes ahead of z, or is it
     have h3 : lt z a = false := by
      obtain ⟨i, hi⟩ := List.mem_iff_getElem?.1 hal;rw [List.getLast?_eq_getElem?] at hL;obtain ⟨i1, i2⟩ := List.getElem?_eq_some_iff.1 hi;obtain ⟨z1, z2⟩ := List.getElem?_eq_some_iff.1 hL
      rcases Nat.lt_or_ge i (l.length - 1) with h | h
      ·have := List.pairwise_iff_getElem.1 s1 i (l.length - 1) i1 z1 h;rw [i2, z2] at this; exact this
      ·have : i = l.length - 1 := by omega
       subst this;rw [i2] at z2; subst z2; exact T.irrefl _
     by_cases e2 : z = a
     ·exact hne (by rw [e2])
     ·rcases T.total z a e2 with q | q
      ·rw [q] at h3; cases h3
      ·rw [q] at h2; cases h2
   ·rcases T.total a b e with q | q
    ·exact q
    ·rw [q] at h1; cases h1
theorem setOf_compact (T : TLt lt) {xs ys : List α} (hp : ys.Perm xs) (hs : ys.Pairwise fun a b => lt b a = false) : zcu ys = setL lt xs :=
 strict_eq T (compactL_sorted T hs) (setL_sorted T xs) (fun x => by rw [compactL_mem, setL_mem]; exact hp.mem_iff)
end
theorem sLt_eq (a b : Str) : sLt a b = decide (a < b) := Go.Proofs.bytesLess_eq a b
theorem sLt_T : TLt sLt := by
 refine ⟨fun a => ?_, fun a b c => ?_, fun a b h => ?_⟩
 ·rw [sLt_eq]; simp [List.lt_irrefl]
 ·rw [sLt_eq, sLt_eq, sLt_eq]; simp only [decide_eq_true_eq]; exact fun h1 h2 => List.lt_trans h1 h2
 rw [sLt_eq, sLt_eq]; simp only [decide_eq_true_eq]
 by_cases h1 : a < b
 ·exact .inl h1
 by_cases h2 : b < a
 ·exact .inr h2
 exact absurd (List.le_antisymm (List.not_lt.1 h2) (List.not_lt.1 h1)) h
def headsN (t : Text) (x : Lexicon) : List Head := if zaQ t x = 0 then setL headLt (headsL t x) else []
def underP (t : Text) (x : Lexicon) (hd : Head) : List Place := (zfi t).filter fun p => decide (ziK t x p = hd)
def underE (t : Text) (x : Lexicon) (hd : Head) : Int := if zaQ t x = 0 then (if zeg hd = true then (if underP t x hd = [] then 6 else 0) else 2) else zaQ t x
def underR (t : Text) (x : Lexicon) (hd : Head) : List Place := if underE t x hd = 0 then underP t x hd else []
def underN (t : Text) (x : Lexicon) (hd : Head) : List Entry := if underE t x hd = 0 then (zbI t x).filter fun y => !decide (y.head ≠ hd) else []
def formsR (t : Text) (x : Lexicon) (hd : Head) : List Str := if underE t x hd = 0 then setL sLt ((underP t x hd).map (zcm t)) else []
theorem entries_len {t : Text} (ht : zbk t = true) (x : Lexicon) : (zbI t x).length ≤ 600 := by rw [zbI, List.length_map]; exact places_len ht
theorem setOf_sort (l : List Str) : zcu (l.mergeSort fun a b => decide (a ≤ b)) = setL sLt l := by
 refine setOf_compact sLt_T (List.mergeSort_perm _ _) ?_;have h := List.pairwise_mergeSort (le := fun a b : Str => decide (a ≤ b)) (by intro a b c h1 h2; simp only [decide_eq_true_eq] at *; exact List.le_trans h1 h2) (by intro a b; simp only [Bool.or_eq_true, decide_eq_true_eq]; exact List.le_total a b) l;refine h.imp fun h => ?_;rw [sLt_eq]; simp only [decide_eq_true_eq] at h; simpa using h
end Go.Pk

namespace Go.Pk
open Go Go.RowKit
def zdJ (es : List Entry) (w : Str) : Option Head := (es.find? fun y => decide (y.word = w)).map (·.head)
def homAt (es : List Entry) (y : Entry) : List Str := match zdJ es y.word with
 | some h => if h ≠ y.head then [y.word] else []
 | none => []
def homsN (es : List Entry) : Nat → List Str
 | 0 => []
 | n + 1 => homsN es n ++ (match es[n]? with
  | some y => homAt (es.take n) y
  | none => [])
theorem homsN_succ {es : List Entry} {n : Nat} {y : Entry} (h : es[n]? = some y) : homsN es (n + 1) = homsN es n ++ homAt (es.take n) y := by simp only [homsN, h]
theorem zhY (es : List Entry) : ∀ n, (homsN es n).length ≤ n
 | 0 => by simp [homsN]
 | n + 1 => by
  have ih := zhY es n;simp only [homsN, List.length_append];split
  ·unfold homAt;split
   ·split <;> simp <;> omega
   ·simp; omega
  ·simp; omega
theorem hdFirst_snoc (es : List Entry) (y : Entry) (w : Str) : zdJ (es ++ [y]) w = match zdJ es w with
  | some h => some h
  | none => if y.word = w then some y.head else none := by
 unfold zdJ;rw [List.find?_append];cases h : es.find? fun y => decide (y.word = w) with
 | some z => simp
 | none =>
  by_cases e : y.word = w <;> simp [e]
theorem hdFirst_put {es : List Entry} {n : Nat} {y : Entry} (h : es[n]? = some y) {m : List (Str × Head)} (hm : ∀ w, zbO m w = zdJ (es.take n) w) (hc : ∀ z, zdJ (es.take n) y.word = some z → z = y.head) : ∀ w, zbO (zgL m y.word y.head) w = zdJ (es.take (n + 1)) w := by
 intro w;rw [ziV, zbf h, hdFirst_snoc, hm]
 by_cases e : w = y.word
 ·subst e;simp only [if_true];cases q : zdJ (es.take n) y.word with
  | some z => rw [hc z q]
  | none => rfl
 rw [if_neg e];cases q : zdJ (es.take n) w with
 | some z => rfl
 | none => simp only []; rw [if_neg (fun q => e q.symm)]
theorem hdFirst_keep {es : List Entry} {n : Nat} {y : Entry} (h : es[n]? = some y) {m : List (Str × Head)} (hm : ∀ w, zbO m w = zdJ (es.take n) w) {z : Head} (hc : zdJ (es.take n) y.word = some z) : ∀ w, zbO m w = zdJ (es.take (n + 1)) w := by
 intro w;rw [zbf h, hdFirst_snoc, hm];cases q : zdJ (es.take n) w with
 | some z => rfl
 | none =>
  simp only []
  by_cases e : y.word = w
  ·subst e; rw [hc] at q; cases q
  ·rw [if_neg e]
def pairAt (es : List Entry) (i j : Nat) : List Str := match es[i]?, es[j]? with
 | some a, some b => if a.word = b.word ∧ a.head ≠ b.head then [a.word] else []
 | _, _ => []
def pairRow (es : List Entry) (i : Nat) : List Str := (List.range i).flatMap (pairAt es i)
def pairsN (es : List Entry) (n : Nat) : List Str := (List.range n).flatMap (pairRow es)
def homR (t : Text) (x : Lexicon) : List Str := if zaQ t x = 0 then setL sLt (homsN (zbI t x) (zbI t x).length) else []
def lessX (x : Lexicon) (n : Int) : Lexicon := { x with decisions := x.decisions.filter fun d => decide (d.number ≠ n) }
theorem lexiconB_of {t : Text} {x y : Lexicon} (h : zaQ t x = 0) (hr : y.rules = x.rules) (hd : ∀ d ∈ y.decisions, zaj t d = true) (hl : y.decisions.length ≤ 20) (hn : (y.decisions.map (·.number)).Nodup) : zaQ t y = 0 := by
 obtain ⟨h1, h2⟩ := zig h;have h3 : zcE t y = true := by
  simp only [zcE, Bool.and_eq_true, decide_eq_true_eq, List.all_eq_true] at h2 ⊢;exact ⟨⟨⟨⟨by rw [hr]; exact h2.1.1.1.1, hl⟩, by rw [hr]; exact h2.1.1.2⟩, hd⟩, hn⟩
 simp [zaQ, h1, h3]
theorem lexicon_12 {t : Text} {x : Lexicon} (h : zaQ t x = 0) : x.rules.length ≤ 12 := by
 have h1 := (zig h).2;simp only [zcE, Bool.and_eq_true, decide_eq_true_eq] at h1;exact h1.1.1.1.1
def idleB (t : Text) (x : Lexicon) (n : Int) : Bool := decide ((lessX x n).decisions.length < x.decisions.length) && decide (headsL t (lessX x n) = headsL t x)
def natI (k : Nat) : Int := (k : Int) + 1
def idleK (t : Text) (x : Lexicon) (k : Nat) : List Int := ((List.range k).map natI).filter (idleB t x)
def idleR (t : Text) (x : Lexicon) : List Int := idleK t x 999
def idleN (t : Text) (x : Lexicon) : List Int := if zaQ t x = 0 then idleR t x else []
def idleP (t : Text) (x : Lexicon) (d : Decision) : Bool := decide (zbI t (lessX x d.number) = zbI t x)
def moreX (x : Lexicon) (d : Decision) : Lexicon := { x with decisions := x.decisions ++ [d] }
def ascD (l : List Decision) : List Decision := l.mergeSort fun a b => decide (a.number ≤ b.number)
def addX (x : Lexicon) (d : Decision) : Lexicon := { x with decisions := ascD (x.decisions ++ [d]) }
def zgW (t : Text) (x : Lexicon) (d : Decision) : Int := if zaQ t x ≠ 0 then zaQ t x else if x.decisions.length = 20 then 9 else if zaQ t (moreX x d) ≠ 0 then 41 else 0
def zgG : Lexicon := ⟨[], []⟩
def zit (t : Text) (x : Lexicon) (d : Decision) : Lexicon := if zgW t x d = 0 then addX x d else zgG
theorem ascD_perm (l : List Decision) : (ascD l).Perm l := List.mergeSort_perm _ _
theorem ascD_sorted (l : List Decision) : (ascD l).Pairwise fun a b => a.number ≤ b.number := by
 have h := List.pairwise_mergeSort (le := fun a b : Decision => decide (a.number ≤ b.number)) (by intro a b c h1 h2; simp at *; omega) (by intro a b; simp; omega) l;exact h.imp (fun h => by simpa using h)
theorem ascD_eq {l ys : List Decision} (hp : ys.Perm l) (hs : ys.Pairwise fun a b => a.number ≤ b.number) (hn : (l.map (·.number)).Nodup) : ys = ascD l := by
 refine List.Perm.eq_of_pairwise (le := fun a b : Decision => a.number ≤ b.number) ?_ hs (ascD_sorted l) (hp.trans (ascD_perm l).symm);intro a b ha hb h1 h2;exact nodup_key hn (hp.mem_iff.1 ha) ((ascD_perm l).mem_iff.1 hb) zr
theorem addE_zero {t : Text} {x : Lexicon} {d : Decision} (h : zgW t x d = 0) : zaQ t x = 0 ∧ ¬ x.decisions.length = 20 ∧ zaQ t (moreX x d) = 0 := by
 unfold zgW at h;split at h
 ·rename_i q; exact absurd h q
 rename_i q;split at h
 ·cases h
 rename_i q2;split at h
 ·cases h
 rename_i q3;exact ⟨by simpa using q, q2, by simpa using q3⟩
theorem addX_check {t : Text} {x : Lexicon} {d : Decision} (h : zaQ t (moreX x d) = 0) : zaQ t (addX x d) = 0 := by
 have hp := ascD_perm (x.decisions ++ [d]);refine lexiconB_of h rfl (fun e he => lexicon_dec h e (hp.mem_iff.1 he)) ?_ ?_
 ·have := zjo h;rw [show (addX x d).decisions.length = (moreX x d).decisions.length from hp.length_eq]; exact this
 exact (hp.map _).nodup_iff.2 (zif h).1
def changesP (t : Text) (x : Lexicon) (d : Decision) : List Place := (zfi t).filter fun p => decide (ziK t (addX x d) p ≠ ziK t x p)
def changesR (t : Text) (x : Lexicon) (d : Decision) : List Place := if zgW t x d = 0 then changesP t x d else []
theorem hom_keep {es : List Entry} {n : Nat} {y : Entry} (h : es[n]? = some y) {m : List (Str × Head)} (hm : ∀ w, zbO m w = zdJ (es.take n) w) (h1 : (zbO m y.word).isSome = true) : ∀ w, zbO m w = zdJ (es.take (n + 1)) w := by
 obtain ⟨z, hz⟩ := Option.isSome_iff_exists.1 h1;exact hdFirst_keep h hm ((hm _).symm.trans hz)
theorem hom_put {es : List Entry} {n : Nat} {y : Entry} (h : es[n]? = some y) {m : List (Str × Head)} (hm : ∀ w, zbO m w = zdJ (es.take n) w) (h1 : (zbO m y.word).isSome = true → (zbO m y.word).getD zdw = y.head) : ∀ w, zbO (zgL m y.word y.head) w = zdJ (es.take (n + 1)) w := by
 refine hdFirst_put h hm fun z hz => ?_;rw [← hm] at hz;rw [hz] at h1;exact h1 rfl
theorem homAt_yes {es : List Entry} {y : Entry} {m : List (Str × Head)} (hm : ∀ w, zbO m w = zdJ es w) (h1 : (zbO m y.word).isSome = true) (h2 : (zbO m y.word).getD zdw ≠ y.head) : homAt es y = [y.word] := by
 obtain ⟨z, hz⟩ := Option.isSome_iff_exists.1 h1;rw [hz] at h2;rw [hm] at hz;simp only [homAt, hz];exact if_pos h2
theorem homAt_no {es : List Entry} {y : Entry} {m : List (Str × Head)} (hm : ∀ w, zbO m w = zdJ es w) (h1 : (zbO m y.word).isSome = true → (zbO m y.word).getD zdw = y.head) : homAt es y = [] := by
 unfold homAt;rw [← hm];cases hz : zbO m y.word with
 | none => rfl
 | some z =>
  rw [hz] at h1;simp only [];exact if_neg (fun q => q (h1 rfl))
theorem entries_length (t : Text) (x : Lexicon) : (zbI t x).length = (zfi t).length := by rw [zbI, List.length_map]
theorem addE_bad {t : Text} {x : Lexicon} {d : Decision} (h : ¬ zaQ t x = 0) : zgW t x d = zaQ t x ∧ zit t x d = zgG := by
 have e : zgW t x d = zaQ t x := if_pos h;exact ⟨e, by rw [zit, e]; exact if_neg h⟩
theorem addE_full {t : Text} {x : Lexicon} {d : Decision} (h : zaQ t x = 0) (h2 : x.decisions.length = 20) : zgW t x d = 9 ∧ zit t x d = zgG := by
 have e : zgW t x d = 9 := by rw [zgW, if_neg (fun q => q h), if_pos h2]
 exact ⟨e, by rw [zit, e]; rfl⟩
theorem addE_err {t : Text} {x : Lexicon} {d : Decision} (h : zaQ t x = 0) (h2 : ¬ x.decisions.length = 20) (h3 : ¬ zaQ t (moreX x d) = 0) : zgW t x d = 41 ∧ zit t x d = zgG := by
 have e : zgW t x d = 41 := by rw [zgW, if_neg (fun q => q h), if_neg h2, if_pos h3]
 exact ⟨e, by rw [zit, e]; rfl⟩
theorem addE_ok {t : Text} {x : Lexicon} {d : Decision} (h : zaQ t x = 0) (h2 : ¬ x.decisions.length = 20) (h3 : zaQ t (moreX x d) = 0) : zgW t x d = 0 ∧ zit t x d = addX x d := by
 have e : zgW t x d = 0 := by rw [zgW, if_neg (fun q => q h), if_neg h2, if_neg (fun q => q h3)]
 exact ⟨e, by rw [zit, e]; rfl⟩
end Go.Pk

namespace Go.Pk
open Go Go.RowKit
def insK (ds : List Decision) (i k : Nat) (y : Decision) : List Decision := ds.take k ++ y :: ((ds.take i).drop k ++ ds.drop (i + 1))
def sortedTo (ds : List Decision) (i : Nat) : Prop := (ds.take i).Pairwise fun a b => a.number ≤ b.number
end Go.Pk

namespace Go.Pk
open Go Go.RowKit
def winV (x : Lexicon) (p : Place) (wd : Str) : Decision :=
 if (zaS ((x.decisions.filter (zdC x)).filter fun d => zeB d p wd)).number = 0 then { zcz with to := ⟨((zdL x.rules 4 wd).getLast?).getD [], 0⟩ } else zaS ((x.decisions.filter (zdC x)).filter fun d => zeB d p wd)
theorem standM_perm (x : Lexicon) : ((zfb x).map (·.2)).Perm (x.decisions.filter (zdC x)) := by
 have : (zfb x).map (·.2) = (zdh x).filter (zdC x) := by simp [zfb, zfT, List.map_map, Function.comp_def]
 rw [this];exact (zdN x).filter _
theorem winV_eq {x : Lexicon} (h : OkD x) : zef x = winV x := by
 funext p wd;have hp : (conD x p wd).Perm ((x.decisions.filter (zdC x)).filter fun d => zeB d p wd) := (standM_perm x).filter _;have e : zaS (conD x p wd) = zaS ((x.decisions.filter (zdC x)).filter fun d => zeB d p wd) := by
  refine bestOf_perm hp ?_ ?_
  ·intro y hy;exact (h.2 _ (List.mem_filter.1 (List.mem_filter.1 hy).1).1).1
  ·exact ((List.filter_sublist.trans List.filter_sublist).map _).nodup h.1
 rw [zef, winV, e]
def headV (t : Text) (x : Lexicon) (p : Place) : Head := (winV x p (zcm t p)).to
theorem headV_eq {t : Text} {x : Lexicon} (h : OkD x) : ziK t x = headV t x := by
 funext p;rw [ziK, headV, winV_eq h]
def entryV (t : Text) (x : Lexicon) (p : Place) : Entry := ⟨p, zcm t p, headV t x p⟩
def headsV (t : Text) (x : Lexicon) : List Head := (zfi t).map (headV t x)
def entriesV (t : Text) (x : Lexicon) : List Entry := (zfi t).map (entryV t x)
theorem entriesV_eq {t : Text} {x : Lexicon} (h : OkD x) : zbI t x = entriesV t x := by
 rw [zbI, entriesV];refine List.map_congr_left fun p _ => ?_;rw [entryAt, entryV, headV_eq h]
def underV (t : Text) (x : Lexicon) (hd : Head) : List Place := (zfi t).filter fun p => decide (headV t x p = hd)
def homV (t : Text) (x : Lexicon) : List Str := setL sLt (homsN (entriesV t x) (zfi t).length)
theorem homV_eq {t : Text} {x : Lexicon} (h : zaQ t x = 0) : homR t x = homV t x := by
 rw [homR, if_pos h, homV, entries_length, entriesV_eq (zif h)]
def idleV (t : Text) (x : Lexicon) (n : Int) : Bool := decide ((lessX x n).decisions.length < x.decisions.length) && decide (headsV t (lessX x n) = headsV t x)
def changesV (t : Text) (x y : Lexicon) : List Place := (zfi t).filter fun p => decide (headV t y p ≠ headV t x p)
theorem addX_eq {x : Lexicon} {d : Decision} {ys : List Decision} (hp : ys.Perm (x.decisions ++ [d])) (hs : ys.Pairwise fun a b => a.number ≤ b.number) (hn : ((x.decisions ++ [d]).map (·.number)).Nodup) : addX x d = ⟨x.rules, ys⟩ := by
 rw [addX, ← ascD_eq hp hs hn]
def wThe : Str := [116, 104, 101]
def zdx : Str := [115, 101, 97]
def wSee : Str := [115, 101, 101]
def wIs : Str := [105, 115]
def zib : Str := [111, 108, 100]
def wOlde : Str := [111, 108, 100, 101]
def wAnd : Str := [97, 110, 100]
def wAge : Str := [97, 103, 101]
def zic : Text := ⟨[⟨7, [[wThe, zdx, wIs, zib], [zib, wThe, zdx]]⟩, ⟨3, [[zdx, wAnd, zdx]]⟩]⟩
def rulesE : List Rule := [⟨[115], [], 2⟩, ⟨[108, 100], [108, 100, 101], 1⟩]
def d1E : Decision := ⟨1, 1, zdx, zdE, ⟨zdx, 1⟩, 0⟩
def d2E : Decision := ⟨2, 2, zib, ⟨0, 1, 0⟩, ⟨wAge, 3⟩, 0⟩
def d3E : Decision := ⟨3, 3, [], ⟨1, 0, 2⟩, ⟨wSee, 2⟩, 0⟩
def d4E : Decision := ⟨4, 1, zdx, zdE, ⟨wSee, 2⟩, 0⟩
def d5E : Decision := ⟨5, 4, [], zdE, zdw, 3⟩
def lexE (more : List Decision) : Lexicon := ⟨rulesE, [d1E, d2E, d3E] ++ more⟩
theorem askR_eq {t : Text} {x : Lexicon} {p : Place} (hx : zaQ t x = 0) (hp : zbG t p = true) : zgp t x p = winV x p (zcm t p) := by rw [zgp, if_pos ⟨hx, hp⟩, winV_eq (zif hx)]
end Go.Pk

namespace Go.Pk
open Go Go.RowKit
def countV (x : Lexicon) (p : Place) (wd : Str) : List Decision := (x.decisions.filter (zdC x)).filter fun d => zeB d p wd
end Go.Pk

namespace Go.Pk
open Go Go.RowKit
def standS (x : Lexicon) : List Int := (standingR x).map (·.number)
def cntQ {α : Type} (q : α → Bool) (l : List α) (i : Nat) : Nat := ((l.take i).filter q).length
end Go.Pk

namespace Go.Pk
open Go Go.RowKit
def voidD (n o : Int) : Decision := ⟨n, 4, [], zdE, zdw, o⟩
section
variable {t : Text} {x : Lexicon} {d : Decision} {most : Int}
end
end Go.Pk

namespace Go.Pk
open Go Go.RowKit
def zRule : Rule := ⟨[], [], 0⟩
def zdb (l : List Int) (i : Nat) : Int := (l[i % l.length]?).getD 0
theorem tmod_nat {i : Int} {n : Nat} (hi : 0 ≤ i) : i.tmod (n : Int) = ((i.toNat % n : Nat) : Int) := by
 obtain ⟨m, rfl⟩ := Int.eq_ofNat_of_zero_le hi;rw [Int.tmod_eq_emod_of_nonneg hi, Int.toNat_natCast, Int.natCast_emod]
end Go.Pk

namespace Go.Pk
open Go Go.RowKit
theorem at_word {t : Text} {p : Place} (ht : zbk t = true) : (if zbk t = true then (zhd t p).getD [] else []) = zcm t p := by rw [if_pos ht]; rfl
theorem at_err {t : Text} {p : Place} (ht : zbk t = true) (hp : zbG t p = true) : (if (zbk t && zbG t p) = true then (0 : Int) else if zbk t = true then 12 else 10) = 0 := by rw [if_pos (by rw [ht, hp]; rfl)]
def trM (l : List Int) : List (Int × Bool) := l.map fun n => (n, true)
def wonF (l : List Decision) (n : Int) : Decision := l.foldl (fun a d => if d.number = n then d else a) zcz
theorem any_snoc {α : Type} {q : α → Bool} {l : List α} {k : Nat} {a : α} (h : l[k]? = some a) : (l.take (k + 1)).any q = ((l.take k).any q || q a) := by rw [zbf h, List.any_append]; simp
def someS (x : Lexicon) (p : Place) (wd : Str) (d : Decision) : Bool := decide (d.number ∈ standS x) && zeB d p wd
def mostN (l : List Decision) : Int := l.foldl (fun a d => max a d.number) 0
theorem mostN_snoc {l : List Decision} {k : Nat} {d : Decision} (h : l[k]? = some d) : mostN (l.take (k + 1)) = max (mostN (l.take k)) d.number := by rw [mostN, zbf h, List.foldl_append]; rfl
theorem fold_max : ∀ (l : List Decision) (a : Int), a ≤ l.foldl (fun a d => max a d.number) a ∧ ∀ d ∈ l, d.number ≤ l.foldl (fun a d => max a d.number) a
 | [], a => ⟨Int.le_refl _, fun d hd => by cases hd⟩
 | e :: l, a => by
  have ⟨h1, h2⟩ := fold_max l (max a e.number);rw [List.foldl_cons];refine ⟨by omega, fun d hd => ?_⟩
  rcases List.mem_cons.1 hd with rfl | hd
  ·omega
  ·exact h2 d hd
theorem fold_max_le : ∀ (l : List Decision) (a b : Int), a ≤ b → (∀ d ∈ l, d.number ≤ b) → l.foldl (fun a d => max a d.number) a ≤ b
 | [], a, b, h, _ => h
 | e :: l, a, b, h, h2 => by
  rw [List.foldl_cons];exact fold_max_le l _ b (by have := h2 e List.mem_cons_self; omega) fun d hd => h2 d (List.mem_cons_of_mem _ hd)
theorem mostN_pos (l : List Decision) : 0 ≤ mostN l := (fold_max l 0).1
theorem all_snoc {α : Type} {P : α → Prop} {l : List α} {k : Nat} {a : α} (h : ∀ o ∈ l.take k, P o) (ha : l[k]? = some a) (hp : P a) : ∀ o ∈ l.take (k + 1), P o := by
 intro o ho;rw [zbf ha, List.mem_append] at ho
 rcases ho with ho | ho
 ·exact h o ho
 simp at ho; rw [ho]; exact hp
theorem small_of {t : Text} {x : Lexicon} (h : zaQ t x = 0) : zfp x = true := by
 have h1 := (zig h).2;simp only [zcE, Bool.and_eq_true, List.all_eq_true, decide_eq_true_eq] at h1;obtain ⟨⟨⟨⟨a, b⟩, c⟩, d⟩, _⟩ := h1;simp only [zfp, Bool.and_eq_true, List.all_eq_true, decide_eq_true_eq];refine ⟨⟨⟨by omega, by omega⟩, fun r hr => ?_⟩, fun e he => ?_⟩
 ·have q := c r hr;simp only [zhx, Bool.and_eq_true, zcN, inB, decide_eq_true_eq] at q;simp only [smallR, Bool.and_eq_true, decide_eq_true_eq];omega
 have q := d e he;simp only [zaj, Bool.and_eq_true] at q;have q2 := q.2;simp only [smallD, Bool.and_eq_true, decide_eq_true_eq];split at q2
 ·simp only [Bool.and_eq_true, zeg] at q2;have a := zia q2.1.1.1; have b := zia q2.1.2.1; omega
 split at q2
 ·simp only [Bool.and_eq_true, zeg] at q2;have a := zia q2.1.1.1; have b := zia q2.1.2.1; omega
 split at q2
 ·simp only [Bool.and_eq_true, zeg, decide_eq_true_eq] at q2;have b := zia q2.1.2.1;have a := q2.1.1.1;rw [a]; simp; omega
 split at q2
 ·simp only [Bool.and_eq_true, decide_eq_true_eq] at q2;have a := q2.1.1.1; have b := q2.1.2;rw [a, b]; simp [zdw]
 cases q2
def chQ (t : Text) (x : Lexicon) (d : Decision) (p : Place) : Bool := decide (ziK t (addX x d) p ≠ ziK t x p)
section
variable {t : Text} {x : Lexicon} {d : Decision}
def cdQ (x y : Lexicon) (p : Place) (wd : Str) (o : Decision) : Bool := (decide (o.number ∈ standS x) != decide (o.number ∈ standS y)) && zeB o p wd
theorem addN_check (h : zgW t x d = 0) : zaQ t (zit t x d) = 0 := by
 rw [show zit t x d = addX x d by rw [zit, if_pos h]];exact addX_check (addE_zero h).2.2
end
theorem zjr {l : List Int} {i : Nat} (h : ∀ v ∈ l, 0 ≤ v) : 0 ≤ zdb l i := by
 rw [zdb];cases e : l[i % l.length]? with
 | none => simp
 | some v => exact h v (List.mem_of_getElem? e)
end Go.Pk

namespace Go.Pk
open Go Go.RowKit
def zText : Text := ⟨[]⟩
end Go.Pk

namespace Go.Pk
open Go Go.RowKit
def numI (t : Text) (p : Place) : Int := (((zfi t).idxOf p : Nat) : Int)
def underA (t : Text) (x : Lexicon) (hs : List Head) : List Place := hs.flatMap (underP t x)
def seenL (t : Text) (x : Lexicon) (hs : List Head) (u : List Place) : List Int := (underA t x hs ++ u).map (numI t)
def putAll (ws : List Str) : List (Str × Bool) := ws.foldl (fun m w => zgL m w true) []
end Go.Pk

namespace Go.Pk
open Go Go.RowKit
theorem St.mid {h0 h : Heap} {w0 w : World} {A rest : Own} {o : List (Nat × Obj)} (st : St h0 w0 h w ((A ++ rest) ++ [o])) : St h0 w0 h w (A ++ o :: rest) := by
 refine st.perm ?_;rw [List.append_assoc];exact (List.perm_append_comm (l₁ := rest) (l₂ := [o])).append_left A
theorem St.over {h0 h h' : Heap} {w0 w w' : World} {own rest : Own} (a : St h0 w0 h w rest) (b : St h w h' w' own) : St h0 w0 h' w' rest := a.call0 (b.take 0)
theorem St.keep {h0 h h' : Heap} {w0 w w' : World} {own rest : Own} (a : St h0 w0 h w rest) (b : St h w h' w' own) : St h0 w0 h' w' (own ++ rest) := (a.call b).perm List.perm_append_comm
def GivesA {α : Type} (P : Program) (gf : FuncId) (caps : List Value) (A : List α → Heap → Value → α → Prop) (S : List α → Prop) (h : Heap) : Prop :=
 ∀ h0 w0 h', Le h h' → GivesG P gf caps (fun pre h us x => ∃ u, us = [u] ∧ A pre h u x) S h0 w0 h'
theorem GivesA.up {α : Type} {P : Program} {gf : FuncId} {caps : List Value} {A : List α → Heap → Value → α → Prop} {S : List α → Prop} {h h' : Heap} (g : GivesA P gf caps A S h) (le : Le h h') : GivesA P gf caps A S h' :=
 fun h0 w0 h1 l1 => g h0 w0 h1 (le.trans l1)
theorem zhV {α : Type} {P : Program} {n : Nat} {Q : Exit → VS → World → Prop} {A : List α → Heap → Value → α → Prop} {g : Operand} {p : Tmp} {assign body : Code} {σ : Env} {w : World} {gf : FuncId} {caps : List Value} {S : List α → Prop} {h0 h : Heap} {w0 : World} {own : Own}
  (st : St h0 w0 h w own) (hg : ev σ g = .func (.func gf) #[] caps.toArray) (eg : ∀ a w, (callFunc gf a).run P w = .ok (.enter gf a) w) (hp : Nat.blt p n = true)
  (seq : GivesG P gf caps (fun pre h us x => ∃ u, us = [u] ∧ A pre h u x) S h0 w0 h) (I : List α → Heap → Own → Prop) (Ix : Code → List α → Heap → Own → Prop)
  (hI : ∀ xs h1 h2 o, I xs h1 o → Le h1 h2 → I xs h2 o) (hIx : ∀ c xs h1 h2 o, Ix c xs h1 o → Le h1 h2 → Ix c xs h2 o) (h00 : I [] h own)
  (hround : ∀ (l : Nat) pre x h1 w1 own1 tail u, Le h h1 → I pre h1 own1 → St h0 w0 h1 w1 (own1 ++ tail) → A pre h1 u x →
   V { Fence.wide with round := some l } P n assign (APost { Fence.wide with round := some l } P n body I Ix h0 w0 h1 (pre ++ [x]) tail) ([], upd σ p u) w1)
  (hdone : ∀ D xs h' w' own', Le h h' → S xs → I xs h' own' → St h0 w0 h' w' (own' ++ [[(D, .deferred (some []))]]) → Q .normal ([{ target := .collected D, args := #[] }], σ) w')
  (hstop : ∀ D c pre h' w' own', Le h h' → Ix c pre h' own' → St h0 w0 h' w' (own' ++ [[(D, .deferred (some []))]]) → V Fence.wide P n c Q ([{ target := .collected D, args := #[] }], σ) w') :
  V Fence.wide P n (.rangeFunc g #[p] assign body) Q ([], σ) w := by
 refine V.rangeFuncG (up := fun us => upd σ p (us.headD undef)) st hg eg ?_ (by rintro _ _ _ _ ⟨u, rfl, _⟩; rfl) seq I Ix hI hIx h00 ?_ hdone hstop
 ·rintro a pre us h x hf ⟨u, rfl, _⟩;have h2 := hf.bare.put (d := some p) (by exact hp) u;have e1 : (#[p].zip [u].toArray).foldl (fun tmps (x : Nat × Value) => tmps.setIfInBounds x.1 x.2) a.tmps = a.tmps.setIfInBounds p u := by simp
  show FitsD [] n ({ tmps := (#[p].zip [u].toArray).foldl (fun tmps (x : Nat × Value) => tmps.setIfInBounds x.1 x.2) a.tmps, defers := [] } : Act) (upd σ p u);rw [e1]; exact ⟨h2.size, rfl, h2.at_⟩
 ·rintro l pre x h1 w1 own1 tail us a b c ⟨u, rfl, d⟩;exact hround l pre x h1 w1 own1 tail u a b c d
end Go.Pk

namespace Go.Pk
open Go Go.RowKit
def zhW : Question := ⟨zdE, []⟩
def zVoter : Voter := ⟨0, 0, []⟩
def zSpan : Span := ⟨0, 0⟩
def zde (hs : List Head) (k : Nat) : Bool := match hs[k]? with | some h => zeg h && (decide (k = 0) || headLt ((hs[k - 1]?).getD zdw) h) | none => true
def headsOk (hs : List Head) : Bool := (List.range hs.length).all (zde hs)
def zdU (p : Poll) (i : Nat) : Bool := match p.questions[i]? with
 | some q => zbG p.text q.at_ && (decide (i = 0) || zeq ((p.questions[i - 1]?).getD zhW).at_ q.at_) && inB q.heads.length 2 3 && headsOk q.heads
 | none => true
def zey (p : Poll) (v : Voter) (k : Nat) : Bool := match v.votes[k]?, p.questions[k]? with | some n, some q => inB n (-1) ((q.heads.length : Int) - 1) | _, _ => true
def zfD (p : Poll) (v : Voter) : Bool := (List.range v.votes.length).all (zey p v)
def zfe (p : Poll) (v : Voter) : Bool := inB v.id 0 9999 && inB v.wrong 0 6 && decide (v.votes.length = p.questions.length) && zfD p v
def zdT (p : Poll) (i : Nat) : Bool := match p.voters[i]? with | some v => zfe p v && (p.voters.take i).all fun u => decide (u.id ≠ v.id) | none => true
def zcJ (p : Poll) : Bool := decide (p.questions.length ≤ 6) && decide (p.voters.length ≤ 6) && (List.range p.questions.length).all (zdU p) && (List.range p.voters.length).all (zdT p)
def zcx (p : Poll) : Int := if zaQ p.text p.lexicon ≠ 0 then zaQ p.text p.lexicon else if zcJ p = true then 0 else 70
def zdS (v : Voter) (hs : List Int) (k : Nat) : Bool := match v.votes[k]?, hs[k]? with | some a, some b => decide (0 ≤ a) && decide (a ≠ b) | _, _ => false
def zbc (v : Voter) (hs : List Int) : Nat := ((List.range hs.length).filter (zdS v hs)).length
def inAt (p : Poll) (hs : List Int) (k : Nat) : Bool := match hs[k]?, p.questions[k]? with | some n, some q => inB n 0 ((q.heads.length : Int) - 1) | _, _ => true
def zfZ (p : Poll) (hs : List Int) : Bool := decide (hs.length = p.questions.length) && (List.range hs.length).all (inAt p hs) && p.voters.all fun v => decide ((zbc v hs : Int) ≤ v.wrong)
def ziZ : List Nat → List (List Int)
 | [] => [[]]
 | n :: ns => (List.range n).flatMap fun (h : Nat) => (ziZ ns).map fun t => (h : Int) :: t
def zgJ (p : Poll) : List Nat := p.questions.map (·.heads.length)
def zO (p : Poll) : List (List Int) := (ziZ (zgJ p)).filter (zfZ p)
theorem candL_mem : ∀ {ns : List Nat} {hs : List Int}, hs ∈ ziZ ns ↔ hs.length = ns.length ∧ ∀ (k n : Nat) (h : Int), ns[k]? = some n → hs[k]? = some h → 0 ≤ h ∧ h < (n : Int)
 | [], hs => by
  rw [ziZ, List.mem_singleton];constructor
  ·rintro rfl; exact ⟨rfl, by simp⟩
  ·rintro ⟨h, _⟩; exact List.length_eq_zero_iff.1 h
 | n :: ns, hs => by
  rw [ziZ, List.mem_flatMap];constructor
  ·rintro ⟨h, hh, hm⟩;obtain ⟨t, ht, rfl⟩ := List.mem_map.1 hm;obtain ⟨h1, h2⟩ := candL_mem.1 ht;refine ⟨by simp [h1], fun k m a hk ha => ?_⟩;cases k with
   | zero => simp at hk ha; have := List.mem_range.1 hh; omega
   | succ k => exact h2 k m a (by simpa using hk) (by simpa using ha)
  ·rintro ⟨h1, h2⟩;cases hs with
   | nil => simp at h1
   | cons a t =>
    have h0 := h2 0 n a rfl rfl;refine ⟨a.toNat, List.mem_range.2 zr, List.mem_map.2 ⟨t, candL_mem.2 ⟨by simpa using h1, fun k m b hk hb => h2 (k + 1) m b (by simpa using hk) (by simpa using hb)⟩, ?_⟩⟩;rw [show ((a.toNat : Nat) : Int) = a by omega]
theorem wrongN_snoc (v : Voter) (hs : List Int) (h : Int) : zbc v (hs ++ [h]) = zbc v hs + if (match v.votes[hs.length]? with | some a => decide (0 ≤ a) && decide (a ≠ h) | none => false) = true then 1 else 0 := by
 rw [zbc, List.length_append, List.length_cons, List.length_nil, Nat.zero_add, List.range_succ, List.filter_append, List.length_append];congr 1
 ·rw [zbc];congr 1;refine List.filter_congr fun k hk => ?_;have hk := List.mem_range.1 hk;simp only [zdS];rw [List.getElem?_append_left hk]
 have e : zdS v (hs ++ [h]) hs.length = (match v.votes[hs.length]? with | some a => decide (0 ≤ a) && decide (a ≠ h) | none => false) := by
  simp only [zdS];have e1 : (hs ++ [h])[hs.length]? = some h := by simp
  rw [e1];cases v.votes[hs.length]? <;> rfl
 rw [List.filter_cons, e, List.filter_nil];generalize (match v.votes[hs.length]? with | some a => decide (0 ≤ a) && decide (a ≠ h) | none => false) = c;cases c <;> rfl
theorem wrongN_pre (v : Voter) : ∀ (t hs : List Int), zbc v hs ≤ zbc v (hs ++ t)
 | [], hs => by simp
 | a :: t, hs => by
  have h1 := wrongN_pre v t (hs ++ [a]);have h2 := wrongN_snoc v hs a;rw [List.append_assoc] at h1;have : zbc v hs ≤ zbc v (hs ++ [a]) := by omega
  exact Nat.le_trans this h1
theorem flat_congr {α β : Type} {f g : α → List β} : ∀ {l : List α}, (∀ a ∈ l, f a = g a) → l.flatMap f = l.flatMap g
 | [], _ => rfl
 | a :: l, h => by rw [List.flatMap_cons, List.flatMap_cons, h a List.mem_cons_self, flat_congr fun b hb => h b (List.mem_cons_of_mem _ hb)]
theorem filter_flat {α β : Type} (q : β → Bool) (f : α → List β) : ∀ l : List α, (l.flatMap f).filter q = l.flatMap fun a => (f a).filter q
 | [] => rfl
 | a :: l => by rw [List.flatMap_cons, List.flatMap_cons, List.filter_append, filter_flat q f l]
theorem map_flat {α β γ : Type} (g : β → γ) (f : α → List β) : ∀ l : List α, (l.flatMap f).map g = l.flatMap fun a => (f a).map g
 | [] => rfl
 | a :: l => by rw [List.flatMap_cons, List.flatMap_cons, List.map_append, map_flat g f l]
def zct (p : Poll) (now : List Int) : List (List Int) := ((ziZ ((zgJ p).drop now.length)).map (now ++ ·)).filter (zfZ p)
theorem truthsFrom_nil (p : Poll) : zct p [] = zO p := by simp [zct, zO]
theorem truthsFrom_next {p : Poll} {now : List Int} {n : Nat} (hn : (zgJ p)[now.length]? = some n) : zct p now = (List.range n).flatMap fun (h : Nat) => zct p (now ++ [(h : Int)]) := by
 rw [zct, zhk hn, ziZ, map_flat, filter_flat];refine flat_congr fun h _ => ?_;rw [zct];congr 1;rw [List.map_map, List.length_append, List.length_cons, List.length_nil, Nat.zero_add];refine List.map_congr_left fun t _ => ?_;simp
theorem truthsFrom_all {p : Poll} {now : List Int} (hn : now.length = p.questions.length) : zct p now = if zfZ p now = true then [now] else [] := by
 have e : (zgJ p).drop now.length = [] := List.drop_eq_nil_of_le (by rw [zgJ, List.length_map]; omega);rw [zct, e, ziZ];simp only [List.map_cons, List.map_nil, List.append_nil, List.filter_cons, List.filter_nil]
theorem truthsFrom_none {p : Poll} {now : List Int} {v : Voter} (hv : v ∈ p.voters) (hw : v.wrong < (zbc v now : Int)) : zct p now = [] := by
 rw [zct, List.filter_eq_nil_iff];intro hs hh;obtain ⟨t, _, rfl⟩ := List.mem_map.1 hh;simp only [zfZ, Bool.and_eq_true, List.all_eq_true, decide_eq_true_eq, not_and];intro _ q;have h1 := q v hv;have h2 := wrongN_pre v t now;omega
theorem zdd {P : Nat → Bool} {k : Nat} (h : ∀ j, j < k → P j = true) (hk : P k = true) : ∀ j, j < k + 1 → P j = true := by
 intro j hj
 by_cases e : j = k
 ·subst e; exact hk
 exact h j zr
theorem zhh {P : Nat → Bool} {n k : Nat} (h : ∀ j, j < k → P j = true) (hk : n ≤ k) : (List.range n).all P = true := by
 rw [List.all_eq_true];intro j hj;exact h j (by have := List.mem_range.1 hj; omega)
theorem ziS {P : Nat → Bool} {n k : Nat} (h : P k = false) (hk : k < n) : (List.range n).all P = false := by
 rw [List.all_eq_false];exact ⟨k, List.mem_range.2 hk, by simp [h]⟩
theorem all_snocB {α : Type} {q : α → Bool} {l : List α} {k : Nat} {a : α} (h : l[k]? = some a) : (l.take (k + 1)).all q = ((l.take k).all q && q a) := by rw [zbf h, List.all_append]; simp
theorem headsOk_no {hs : List Head} {k : Nat} (h : zde hs k = false) : headsOk hs = false := by
 refine ziS h ?_;refine Classical.byContradiction fun q => ?_;simp [zde, List.getElem?_eq_none (show hs.length ≤ k by omega)] at h
theorem votesOk_no {p : Poll} {v : Voter} {k : Nat} (h : zey p v k = false) : zfD p v = false := by
 refine ziS h ?_;refine Classical.byContradiction fun q => ?_;simp [zey, List.getElem?_eq_none (show v.votes.length ≤ k by omega)] at h
theorem poll_q {p : Poll} {i : Nat} (h : zdU p i = false) : zcJ p = false := by
 have : (List.range p.questions.length).all (zdU p) = false := by
  refine ziS h ?_;refine Classical.byContradiction fun q => ?_;simp [zdU, List.getElem?_eq_none (show p.questions.length ≤ i by omega)] at h
 rw [zcJ, this]; simp
theorem poll_v {p : Poll} {i : Nat} (h : zdT p i = false) : zcJ p = false := by
 have : (List.range p.voters.length).all (zdT p) = false := by
  refine ziS h ?_;refine Classical.byContradiction fun q => ?_;simp [zdT, List.getElem?_eq_none (show p.voters.length ≤ i by omega)] at h
 rw [zcJ, this]; simp
theorem poll_true {p : Poll} {i j : Nat} (h1 : p.questions.length ≤ 6) (h2 : p.voters.length ≤ 6) (h3 : ∀ k, k < i → zdU p k = true) (hi : p.questions.length ≤ i) (h4 : ∀ k, k < j → zdT p k = true) (hj : p.voters.length ≤ j) : zcJ p = true := by
 rw [zcJ, zhh h3 hi, zhh h4 hj, decide_eq_true h1, decide_eq_true h2]; rfl
theorem zfs {p : Poll} (h : zcJ p = true) {i : Nat} {q : Question} (hq : p.questions[i]? = some q) : zbG p.text q.at_ = true ∧ 2 ≤ q.heads.length ∧ q.heads.length ≤ 3 ∧ headsOk q.heads = true := by
 simp only [zcJ, Bool.and_eq_true, List.all_eq_true] at h;have h1 := h.1.2 i (List.mem_range.2 (List.getElem?_eq_some_iff.1 hq).1);simp only [zdU, hq, Bool.and_eq_true, inB, decide_eq_true_eq] at h1;refine ⟨h1.1.1.1, by omega, by omega, h1.2⟩
theorem zfr {p : Poll} (h : zcJ p = true) {v : Voter} (hv : v ∈ p.voters) : 0 ≤ v.wrong ∧ v.wrong ≤ 6 ∧ v.votes.length = p.questions.length ∧ zfD p v = true := by
 obtain ⟨i, hi⟩ := List.mem_iff_getElem?.1 hv;simp only [zcJ, Bool.and_eq_true, List.all_eq_true] at h;have h1 := h.2 i (List.mem_range.2 (List.getElem?_eq_some_iff.1 hi).1);simp only [zdT, hi, zfe, Bool.and_eq_true, inB, decide_eq_true_eq] at h1;obtain ⟨⟨⟨⟨_, h2⟩, h3⟩, h4⟩, _⟩ := h1;exact ⟨h2.1, h2.2, h3, h4⟩
theorem zcT {p : Poll} (h : zcJ p = true) : p.questions.length ≤ 6 ∧ p.voters.length ≤ 6 := by
 simp only [zcJ, Bool.and_eq_true, decide_eq_true_eq] at h;exact ⟨h.1.1.1, h.1.1.2⟩
theorem true_len {p : Poll} {hs : List Int} (h : zfZ p hs = true) : hs.length = p.questions.length := by
 simp only [zfZ, Bool.and_eq_true, decide_eq_true_eq] at h; exact h.1.1
theorem true_in {p : Poll} {hs : List Int} (h : zfZ p hs = true) {k : Nat} {a : Int} {q : Question} (ha : hs[k]? = some a) (hq : p.questions[k]? = some q) : 0 ≤ a ∧ a < (q.heads.length : Int) := by
 simp only [zfZ, Bool.and_eq_true, List.all_eq_true] at h;have := h.1.2 k (List.mem_range.2 (List.getElem?_eq_some_iff.1 ha).1);simp only [inAt, ha, hq, inB, Bool.and_eq_true, decide_eq_true_eq] at this;omega
theorem true_no1 {p : Poll} {hs : List Int} {k : Nat} (hk : k < hs.length) (h : inAt p hs k = false) : zfZ p hs = false := by
 rw [zfZ, ziS h hk]; simp
theorem true_no2 {p : Poll} {hs : List Int} {v : Voter} (hv : v ∈ p.voters) (h : v.wrong < (zbc v hs : Int)) : zfZ p hs = false := by
 have : (p.voters.all fun v => decide ((zbc v hs : Int) ≤ v.wrong)) = false := List.all_eq_false.2 ⟨v, hv, by simp; omega⟩;rw [zfZ, this]; simp
theorem true_yes {p : Poll} {hs : List Int} {i k : Nat} (h1 : hs.length = p.questions.length) (h2 : ∀ j, j < i → inAt p hs j = true) (hi : hs.length ≤ i) (h3 : ∀ v ∈ p.voters.take k, (zbc v hs : Int) ≤ v.wrong) (hk : p.voters.length ≤ k) : zfZ p hs = true := by
 rw [List.take_of_length_le hk] at h3;have : (p.voters.all fun v => decide ((zbc v hs : Int) ≤ v.wrong)) = true := List.all_eq_true.2 fun v hv => decide_eq_true (h3 v hv);rw [zfZ, zhh h2 hi, this, decide_eq_true h1]; rfl
def zfa (v : Voter) (hs : List Int) (k : Nat) : Nat := ((List.range k).filter (zdS v hs)).length
theorem zdF (v : Voter) (hs : List Int) (k : Nat) : zfa v hs (k + 1) = zfa v hs k + if zdS v hs k = true then 1 else 0 := by
 rw [zfa, List.range_succ, List.filter_append, List.length_append, List.filter_cons, List.filter_nil, zfa];split <;> rfl
theorem wrongK_le (v : Voter) (hs : List Int) (k : Nat) : zfa v hs k ≤ k := by
 have := List.length_filter_le (zdS v hs) (List.range k);rw [List.length_range] at this; exact this
theorem poll_q2 {p : Poll} {i k : Nat} {q : Question} (hq : p.questions[i]? = some q) (h : zde q.heads k = false) : zcJ p = false := by
 refine poll_q (i := i) ?_;simp only [zdU, hq, headsOk_no h, Bool.and_false]
theorem poll_v2 {p : Poll} {i k : Nat} {v : Voter} (hv : p.voters[i]? = some v) (h : zey p v k = false) : zcJ p = false := by
 refine poll_v (i := i) ?_;simp only [zdT, hv, zfe, votesOk_no h, Bool.and_false, Bool.false_and]
theorem poll_v3 {p : Poll} {i k : Nat} {v u : Voter} (hv : p.voters[i]? = some v) (hu : p.voters[k]? = some u) (hk : k < i) (h : u.id = v.id) : zcJ p = false := by
 refine poll_v (i := i) ?_;have : ((p.voters.take i).all fun u => decide (u.id ≠ v.id)) = false := by
  refine List.all_eq_false.2 ⟨u, ?_, by simp [h]⟩;exact List.mem_of_getElem? (i := k) (by rw [List.getElem?_take_of_lt hk]; exact hu)
 simp only [zdT, hv, this, Bool.and_false]
theorem zdV {v : Voter} {xs : List Int} {k : Nat} {a : Int} (ha : v.votes[k]? = some a) (h : ¬ 0 ≤ a) : zdS v xs k = false := by
 simp only [zdS, ha];cases xs[k]? with
 | none => rfl
 | some c => simp [h]
theorem zcr {v : Voter} {xs : List Int} {k : Nat} {a c : Int} (ha : v.votes[k]? = some a) (hc : xs[k]? = some c) : zdS v xs k = (decide (0 ≤ a) && decide (a ≠ c)) := by simp only [zdS, ha, hc]
end Go.Pk

namespace Go.Pk
open Go Go.RowKit
def zcO (p : Poll) (so : Bool) : Int := if zcx p ≠ 0 then zcx p else if so = false then 2 else if zO p = [] then 8 else 0
def zel (p : Poll) (so : Bool) : List (List Int) := if zcO p so = 0 then zO p else []
theorem zbP {p : Poll} (h : zcx p = 0) : zaQ p.text p.lexicon = 0 ∧ zcJ p = true := by
 unfold zcx at h;split at h
 ·rename_i q; exact absurd h q
 rename_i q;split at h
 ·rename_i q2; exact ⟨by simpa using q, q2⟩
 cases h
theorem ziq {p : Poll} {so : Bool} (h : zcO p so = 0) : zcx p = 0 ∧ so = true ∧ zO p ≠ [] ∧ zel p so = zO p := by
 have h0 := h;unfold zcO at h;split at h
 ·rename_i q; exact absurd h q
 rename_i q;split at h
 ·cases h
 rename_i q2;split at h
 ·cases h
 rename_i q3;exact ⟨by simpa using q, by simpa using q2, q3, by rw [zel, if_pos h0]⟩
def prodL : List Nat → Nat
 | [] => 1
 | n :: ns => n * prodL ns
theorem candL_len : ∀ ns : List Nat, (ziZ ns).length = prodL ns
 | [] => rfl
 | n :: ns => by
  rw [ziZ, prodL, List.length_flatMap];simp only [List.length_map, candL_len ns]
  induction n with
  | zero => simp
  | succ n ih => rw [List.range_succ, List.map_append, List.sum_append, ih, Nat.succ_mul]; simp
def zgQ (l : List (List Int)) (q : Nat) (h : Int) : Nat := (l.filter fun t => decide (t[q]? = some h)).length
def worstK (l : List (List Int)) (q : Nat) : Nat → Int
 | 0 => 0
 | k + 1 => zgM (worstK l q k) (zgQ l q (k : Int))
def zdg (l : List (List Int)) (q : Nat) : Int := worstK l q 3
theorem cntH_snoc {l : List (List Int)} {i : Nat} {t : List Int} {q : Nat} {h : Int} (ht : l[i]? = some t) : zgQ (l.take (i + 1)) q h = zgQ (l.take i) q h + if t[q]? = some h then 1 else 0 := by
 rw [zgQ, zbf ht, List.filter_append, List.length_append, List.filter_cons, List.filter_nil, zgQ];congr 1
 by_cases e : t[q]? = some h <;> simp [e]
theorem zfI (l : List (List Int)) (q : Nat) (h : Int) : zgQ l q h ≤ l.length := List.length_filter_le _ _
end Go.Pk

namespace Go.Pk
open Go Go.RowKit
theorem sizes_len (p : Poll) : (zgJ p).length = p.questions.length := by rw [zgJ, List.length_map]
theorem sizes_ok {p : Poll} (h : zcJ p = true) : ∀ n ∈ zgJ p, 2 ≤ n ∧ n ≤ 3 := by
 intro n hn;obtain ⟨q, hq, rfl⟩ := List.mem_map.1 hn;obtain ⟨i, hi⟩ := List.mem_iff_getElem?.1 hq;have := zfs h hi;exact ⟨this.2.1, this.2.2.1⟩
theorem prod_pow : ∀ {ns : List Nat}, (∀ n ∈ ns, n ≤ 3) → prodL ns ≤ 3 ^ ns.length
 | [], _ => Nat.le_refl _
 | n :: ns, h => by
  rw [prodL, List.length_cons, Nat.pow_succ, Nat.mul_comm];exact Nat.mul_le_mul (prod_pow fun m hm => h m (List.mem_cons_of_mem _ hm)) (h n List.mem_cons_self)
theorem prod_le {p : Poll} (h : zcJ p = true) : prodL (zgJ p) ≤ 729 := by
 refine Nat.le_trans (prod_pow fun n hn => (sizes_ok h n hn).2) ?_;have : (zgJ p).length ≤ 6 := by rw [sizes_len]; exact (zcT h).1
 exact Nat.pow_le_pow_right zr this
theorem zez {p : Poll} (hp : zcJ p = true) : (zO p).length ≤ 729 := by
 refine Nat.le_trans (List.length_filter_le _ _) ?_;rw [candL_len]; exact prod_le hp
end Go.Pk

namespace Go.Pk
open Go Go.RowKit
def ltL : List Int → List Int → Bool
 | a :: s, b :: t => if a = b then ltL s t else decide (a < b)
 | _, _ => false
def zjA (a b : List Int) : Bool := if a.length ≠ b.length then decide (a.length < b.length) else ltL a b
def alikeL (a b l : List Int) : Bool := l.all fun k => decide (a[k.toNat]? = b[k.toNat]?)
def zji (ts : List (List Int)) (l : List Int) (i : Nat) : Bool := match ts[i]? with | some t => (ts.take i).all fun u => !alikeL t u l | none => true
def zjh (ts : List (List Int)) (l : List Int) : Bool := (List.range ts.length).all (zji ts l)
theorem tells_no {ts : List (List Int)} {l : List Int} {i : Nat} (h : zji ts l i = false) : zjh ts l = false := by
 refine ziS h ?_;refine Classical.byContradiction fun q => ?_;simp [zji, List.getElem?_eq_none (show ts.length ≤ i by omega)] at h
def zbU (s : Int) (n : Nat) : List Int := ((List.range n).filter fun (i : Nat) => decide (ziN s (i : Int) = 1)).map fun (i : Nat) => (i : Int)
theorem zjn (s : Int) (n : Nat) : zbU s (n + 1) = zbU s n ++ if ziN s (n : Int) = 1 then [(n : Int)] else [] := by
 rw [zbU, List.range_succ, List.filter_append, List.map_append, List.filter_cons, List.filter_nil, zbU]
 by_cases h : ziN s (n : Int) = 1 <;> simp [h]
theorem ziA (s : Int) (n : Nat) : (zbU s n).length ≤ n := by
 rw [zbU, List.length_map];have := List.length_filter_le (fun i : Nat => decide (ziN s (i : Int) = 1)) (List.range n);rwa [List.length_range] at this
def askK (ts : List (List Int)) (n : Nat) : Nat → Option (List Int)
 | 0 => none
 | k + 1 => if ((match askK ts n k with | none => true | some b => zjA (zbU (k : Int) n) b) && zjh ts (zbU (k : Int) n)) = true then some (zbU (k : Int) n) else askK ts n k
def askR7 (p : Poll) : List Int := if zcO p true = 0 then (askK (zO p) p.questions.length (2 ^ p.questions.length)).getD [] else []
def zhz (ts : List (List Int)) : Nat → Nat
 | 0 => 0
 | k + 1 => if zdg ts (k + 1) < zdg ts (zhz ts k) then k + 1 else zhz ts k
def nextE (p : Poll) : Int := if zcO p true ≠ 0 then zcO p true else if (zO p).length = 1 then 6 else 0
def nextR (p : Poll) : Int := if nextE p = 0 then (zhz (zO p) (p.questions.length - 1) : Int) else 0
theorem zdI {p : Poll} {t : List Int} (h : t ∈ zO p) : t.length = p.questions.length := true_len (List.mem_filter.1 h).2
theorem truth_in {p : Poll} {t : List Int} (h : t ∈ zO p) {k : Nat} {a : Int} {q : Question} (ha : t[k]? = some a) (hq : p.questions[k]? = some q) : 0 ≤ a ∧ a < (q.heads.length : Int) := true_in (List.mem_filter.1 h).2 ha hq
def openB (ts : List (List Int)) (q : Nat) (h : Int) : Bool := ts.any fun t => decide (t[q]? = some h)
def zfj (ts : List (List Int)) (q n : Nat) : List Int := ((List.range n).filter fun (h : Nat) => openB ts q (h : Int)).map fun (h : Nat) => (h : Int)
theorem openK_succ (ts : List (List Int)) (q n : Nat) : zfj ts q (n + 1) = zfj ts q n ++ if openB ts q (n : Int) = true then [(n : Int)] else [] := by
 rw [zfj, List.range_succ, List.filter_append, List.map_append, List.filter_cons, List.filter_nil, zfj]
 by_cases h : openB ts q (n : Int) = true <;> simp [h]
theorem openK_len (ts : List (List Int)) (q n : Nat) : (zfj ts q n).length ≤ n := by
 rw [zfj, List.length_map];have := List.length_filter_le (fun h : Nat => openB ts q (h : Int)) (List.range n);rwa [List.length_range] at this
def openR (p : Poll) (question : Int) : List Int := if zcO p (inB question 0 ((p.questions.length : Int) - 1)) = 0 then zfj (zO p) question.toNat (((p.questions[question.toNat]?).getD zhW).heads.length) else []
def zfo (vs : List Voter) (q n : Nat) : List Int := (List.range n).map fun (h : Nat) => (((vs.filter fun v => decide (v.votes[q]? = some (h : Int))).length : Nat) : Int)
theorem zgr (vs : List Voter) (q n : Nat) : (zfo vs q n).length = n := by simp [zfo]
theorem tally_zero (q n : Nat) : List.replicate n (0 : Int) = zfo [] q n := by
 refine List.ext_getElem (by simp [zgr]) fun i h1 h2 => ?_;simp [zfo]
theorem tally_at (vs : List Voter) (q : Nat) {n h : Nat} (hh : h < n) : (zfo vs q n)[h]? = some (((vs.filter fun v => decide (v.votes[q]? = some (h : Int))).length : Nat) : Int) := by
 rw [zfo, List.getElem?_map, List.getElem?_range hh]; rfl
theorem tally_skip {vs : List Voter} {q n i : Nat} {v : Voter} {a : Int} (hv : vs[i]? = some v) (ha : v.votes[q]? = some a) (h : a < 0) : zfo (vs.take (i + 1)) q n = zfo (vs.take i) q n := by
 rw [zfo, zfo];refine List.map_congr_left fun k _ => ?_;rw [zbf hv, List.filter_append, List.length_append, List.filter_cons, List.filter_nil, ha, if_neg (by simp; omega)];rfl
theorem tally_set {vs : List Voter} {q n i : Nat} {v : Voter} {a x : Int} (hv : vs[i]? = some v) (ha : v.votes[q]? = some a) (h : 0 ≤ a) (hx : (zfo (vs.take i) q n)[a.toNat]? = some x) : (zfo (vs.take i) q n).set a.toNat (x + 1) = zfo (vs.take (i + 1)) q n := by
 have hl := (List.getElem?_eq_some_iff.1 hx).1;rw [zgr] at hl;rw [tally_at _ _ hl] at hx;refine List.ext_getElem? fun k => ?_
 by_cases hk : k < n
 ·rw [tally_at _ _ hk, zbf hv, List.filter_append, List.length_append, List.filter_cons, List.filter_nil, ha]
  by_cases e : k = a.toNat
  ·subst e;rw [List.getElem?_set_self (by rw [zgr]; exact hk), ← Option.some.inj hx, if_pos (by simp; omega)];simp
  ·rw [List.getElem?_set_ne (Ne.symm e), tally_at _ _ hk, if_neg (by simp; omega)];simp
 rw [List.getElem?_eq_none (by rw [List.length_set, zgr]; omega), List.getElem?_eq_none (by rw [zgr]; omega)]
def ziI (p : Poll) (question : Int) : Int := if zcx p ≠ 0 then zcx p else if inB question 0 ((p.questions.length : Int) - 1) = true then 0 else 2
def tallyR (p : Poll) (question : Int) : List Int := if ziI p question = 0 then zfo p.voters question.toNat (((p.questions[question.toNat]?).getD zhW).heads.length) else []
theorem zfm {s b : Int} (h0 : 0 ≤ s) (h1 : s ≤ 1000000) : 0 ≤ s / 2 ^ b.toNat ∧ s / 2 ^ b.toNat ≤ 1000000 := by
 have hp : (0 : Int) < 2 ^ b.toNat := by
  have : 0 < (2 : Nat) ^ b.toNat := Nat.pow_pos zr
  exact_mod_cast this
 exact ⟨Int.ediv_nonneg h0 zr, Int.le_trans (Int.ediv_le_self _ h0) h1⟩
theorem pow_le {n : Nat} (h : n ≤ 6) : 2 ^ n ≤ 64 ∧ (2 : Int) ^ ((n : Int)).toNat = ((2 ^ n : Nat) : Int) := by
 refine ⟨Nat.le_trans (Nat.pow_le_pow_right zr h) (by decide), ?_⟩;rw [Int.toNat_natCast]; exact_mod_cast rfl
theorem votes_in {p : Poll} {v : Voter} (h : zfD p v = true) {k : Nat} {a : Int} {q : Question} (ha : v.votes[k]? = some a) (hq : p.questions[k]? = some q) : -1 ≤ a ∧ a < (q.heads.length : Int) := by
 rw [zfD, List.all_eq_true] at h;have := h k (List.mem_range.2 (List.getElem?_eq_some_iff.1 ha).1);simp only [zey, ha, hq, inB, Bool.and_eq_true, decide_eq_true_eq] at this;omega
theorem tally_small {vs : List Voter} {q n h : Nat} {x : Int} (hx : (zfo vs q n)[h]? = some x) : 0 ≤ x ∧ x ≤ (vs.length : Int) := by
 have hl := (List.getElem?_eq_some_iff.1 hx).1;rw [zgr] at hl;rw [tally_at _ _ hl] at hx;have := List.length_filter_le (fun v : Voter => decide (v.votes[q]? = some (h : Int))) vs;have := Option.some.inj hx;omega
end Go.Pk

namespace Go.Pk
open Go Go.RowKit
def setAt (ts : List (List Int)) (a0 : List Int) (k : Nat) : Int := match a0[k]? with | some h => if (ts.all fun t => decide (t[k]? = some h)) = true then h else -1 | none => -1
def setK (ts : List (List Int)) (a0 : List Int) : List Int := (List.range a0.length).map (setAt ts a0)
def zda (ts : List (List Int)) : List Int := match ts[0]? with | some a0 => setK ts a0 | none => []
theorem zga (ts : List (List Int)) (a0 : List Int) : (setK ts a0).length = a0.length := by simp [setK]
theorem ziR {ts : List (List Int)} {a0 : List Int} {k : Nat} (hk : k < a0.length) : (setK ts a0)[k]? = some (setAt ts a0 k) := by rw [setK, List.getElem?_map, List.getElem?_range hk]; rfl
def setM (ts : List (List Int)) (a0 : List Int) (i k : Nat) : List Int := (setK (ts.take (i + 1)) a0).take k ++ (setK (ts.take i) a0).drop k
theorem setM_len (ts : List (List Int)) (a0 : List Int) (i k : Nat) : (setM ts a0 i k).length = a0.length := by
 rw [setM, List.length_append, List.length_take, List.length_drop, zga, zga]; omega
theorem setM_zero (ts : List (List Int)) (a0 : List Int) (i : Nat) : setM ts a0 i 0 = setK (ts.take i) a0 := by simp [setM]
theorem setM_end {ts : List (List Int)} {a0 : List Int} {i k : Nat} (hk : a0.length ≤ k) : setM ts a0 i k = setK (ts.take (i + 1)) a0 := by
 rw [setM, List.take_of_length_le (by rw [zga]; omega), List.drop_eq_nil_of_le (by rw [zga]; omega), List.append_nil]
theorem setM_at {ts : List (List Int)} {a0 : List Int} {i k : Nat} (hk : k < a0.length) : setM ts a0 i (k + 1) = (setM ts a0 i k).set k (setAt (ts.take (i + 1)) a0 k) := by
 have h1 : (setK (ts.take (i + 1)) a0)[k]? = some (setAt (ts.take (i + 1)) a0 k) := ziR hk;have h2 : (setK (ts.take i) a0)[k]? = some (setAt (ts.take i) a0 k) := ziR hk;have hl : ((setK (ts.take (i + 1)) a0).take k).length = k := by rw [List.length_take, zga]; omega
 rw [setM, zbf h1, setM, List.set_append_right _ _ zr, hl, Nat.sub_self, zhk h2, List.set_cons_zero, List.append_assoc]; rfl
theorem setAt_snoc {ts : List (List Int)} {a0 t : List Int} {i k : Nat} {h x : Int} (ht : ts[i]? = some t) (h0 : a0[k]? = some h) (hx : t[k]? = some x) : setAt (ts.take (i + 1)) a0 k = if x = h then setAt (ts.take i) a0 k else -1 := by
 simp only [setAt, h0];rw [zbf ht, List.all_append, List.all_cons, List.all_nil, Bool.and_true, hx]
 by_cases e : x = h
 ·simp [e]
 simp [e]
theorem setM_same {ts : List (List Int)} {a0 t : List Int} {i k : Nat} {h x : Int} (ht : ts[i]? = some t) (h0 : a0[k]? = some h) (hx : t[k]? = some x) (e : x = h) : setM ts a0 i (k + 1) = setM ts a0 i k := by
 have hk : k < a0.length := (List.getElem?_eq_some_iff.1 h0).1;rw [setM_at hk, setAt_snoc ht h0 hx, if_pos e];refine List.ext_getElem? fun j => ?_
 by_cases ej : j = k
 ·subst ej;rw [List.getElem?_set_self (by rw [setM_len]; exact hk), setM, List.getElem?_append_right (by rw [List.length_take]; omega), List.length_take, zga, Nat.min_eq_left zr, Nat.sub_self, List.getElem?_drop, Nat.add_zero, ziR hk]
 rw [List.getElem?_set_ne (Ne.symm ej)]
theorem setM_else {ts : List (List Int)} {a0 t : List Int} {i k : Nat} {h x : Int} (ht : ts[i]? = some t) (h0 : a0[k]? = some h) (hx : t[k]? = some x) (e : ¬ x = h) : setM ts a0 i (k + 1) = (setM ts a0 i k).set k (-1) := by
 rw [setM_at (List.getElem?_eq_some_iff.1 h0).1, setAt_snoc ht h0 hx, if_neg e]
def zdz (p : Poll) : List Int := if zcO p true = 0 then zda (zO p) else []
def zeo (v : Voter) (ts : List (List Int)) : Span := ts.foldl (fun s t => ⟨minI s.lo (zbc v t), zgM s.hi (zbc v t)⟩) ⟨6, 0⟩
theorem spanK_snoc {v : Voter} {ts : List (List Int)} {i : Nat} {t : List Int} (ht : ts[i]? = some t) : zeo v (ts.take (i + 1)) = ⟨minI (zeo v (ts.take i)).lo (zbc v t), zgM (zeo v (ts.take i)).hi (zbc v t)⟩ := by rw [zeo, zbf ht, List.foldl_append]; rfl
def zgd (p : Poll) (voter : Int) : Span := if zcO p (inB voter 0 ((p.voters.length : Int) - 1)) = 0 then zeo ((p.voters[voter.toNat]?).getD zVoter) (zO p) else zSpan
theorem wrongN_le {p : Poll} {t : List Int} (h : t ∈ zO p) (v : Voter) : zbc v t ≤ p.questions.length := by
 rw [zbc, ← zdI h];have := List.length_filter_le (zdS v t) (List.range t.length);rwa [List.length_range] at this
end Go.Pk

namespace Go.Pk
open Go Go.RowKit
section
variable {P : Program} {σ : Env} {w : World} {ty : TypeId} {pos : String} {aft : Array Edge} {g : Option (Nat × Bool)} {dst : Option Tmp}
theorem r_sgtr {t t' : TypeId} {x y : Operand} {a b : Str} (hx : ev σ x = zP a) (hy : ev σ y = zP b) : Run P σ w ⟨dst, .binOp .gtr t x y t', ty, pos, aft, g⟩ (.bool (!(Op.bytesLess a b || decide (a = b)))) w := by
 simp only [zP] at hx hy;simp [Run, execOp, hx, hy, eqGuard, binOp, Op.stringOp, beq_str]
theorem zgK {t e : TypeId} {x ix : Operand} {i : Int} {k m n : Nat} {vs us : List Value} (hx : ev σ x = .agg vs.toArray) (hi : ev σ ix = .int .i64 i) (hk : i = (k : Int)) (hlt : Nat.blt k n = true) (hu : P.underlying t = some (.array n e)) (ha : ∀ w, (isAgg e).run P w = .ok true w) (hz : ∀ w, (sizeOf e).run P w = .ok m w) (hv : (vs.drop (k * m)).take m = us) :
  Run P σ w ⟨dst, .index t x ix, ty, pos, aft, g⟩ (.agg us.toArray) w := by
 subst hk hv;have h1 : k < n := by rwa [Nat.blt_eq] at hlt
 simp [Run, execOp, hx, hi, Instr.index, asIntOf, run_underlying hu, h1, part, ha, hz]
end
def cmpT (a b : Str) : Int := if sLt a b = true then -1 else if a = b then 0 else 1
def orL : List Int → Int
 | [] => 0
 | a :: l => if a ≠ 0 then a else orL l
theorem orL_drop {l : List Int} {k : Nat} {a : Int} (h : l[k]? = some a) : orL (l.drop k) = if a ≠ 0 then a else orL (l.drop (k + 1)) := by rw [zhk h]; rfl
theorem places_lt (a b : Place) : decide (orL [zcY a.chapter b.chapter, zcY a.line b.line, zcY a.word b.word] < 0) = zeq a b := by
 rcases a with ⟨a1, a2, a3⟩; rcases b with ⟨b1, b2, b3⟩
 simp only [orL, zcY, zeq, ne_eq];rw [Bool.eq_iff_iff, decide_eq_true_eq]
 by_cases h1 : a1 = b1 <;> by_cases h2 : a2 = b2 <;> simp only [h1, h2, not_true_eq_false, not_false_eq_true, if_true, if_false, decide_eq_true_eq, Int.lt_irrefl] <;> (repeat' split) <;> omega
theorem heads_lt (a b : Head) : decide (orL [cmpT a.stem b.stem, zcY a.mark b.mark] < 0) = headLt a b := by
 rcases a with ⟨s1, m1⟩; rcases b with ⟨s2, m2⟩
 simp only [orL, cmpT, zcY, headLt, ne_eq];rw [Bool.eq_iff_iff, decide_eq_true_eq]
 by_cases h1 : sLt s1 s2 = true
 ·simp [h1]
 simp only [h1, if_false, Bool.or_eq_true, Bool.and_eq_true, decide_eq_true_eq, false_or, Bool.false_eq_true]
 by_cases h2 : s1 = s2
 ·subst h2;simp only [if_true, not_true_eq_false, if_false, true_and]
  (repeat' split) <;> omega
 simp [h2]
def zet (p : Poll) (i : Nat) (q : Question) : Bool := zbG p.text q.at_ && (decide (i = 0) || zeq ((p.questions[i - 1]?).getD zhW).at_ q.at_) && inB q.heads.length 2 3
def zfV (p : Poll) (i : Nat) (q : Question) (k : Nat) : Bool := zet p i q && (List.range k).all (zde q.heads)
theorem ziz (p : Poll) (i : Nat) (q : Question) (k : Nat) : zfV p i q (k + 1) = (zfV p i q k && zde q.heads k) := by
 simp only [zfV, List.range_succ, List.all_append, List.all_cons, List.all_nil, Bool.and_true, Bool.and_assoc]
theorem questK_zero (p : Poll) (i : Nat) (q : Question) : zfV p i q 0 = zet p i q := by simp [zfV]
theorem quest_eq {p : Poll} {i k : Nat} {q : Question} (hq : p.questions[i]? = some q) (hk : q.heads.length = k) : zdU p i = zfV p i q k := by
 subst hk;simp only [zdU, hq, zfV, zet, headsOk]
section
variable {p : Poll} {i k : Nat} {q q1 : Question} {hd h1 : Head}
theorem q_init0 (a : (if zbG p.text q.at_ = true then (0 : Int) else 12) = 0) (b : zcQ [(q.heads.length : Int)] 2 3 = true) (c : (i : Int) = 0) : true = zet p i q := by
 have a : zbG p.text q.at_ = true := by
  cases e : zbG p.text q.at_
  ·rw [e] at a; simp at a
  ·rfl
 rw [inAll_one] at b;simp only [zet, a, b, decide_eq_true (show i = 0 by omega), Bool.and_true, Bool.true_or]
theorem q_init1 (a : (if zbG p.text q.at_ = true then (0 : Int) else 12) = 0) (b : zcQ [(q.heads.length : Int)] 2 3 = true) (c : ¬ (i : Int) = 0) (d : p.questions[i - 1]? = some q1) : decide (orL [zcY q1.at_.chapter q.at_.chapter, zcY q1.at_.line q.at_.line, zcY q1.at_.word q.at_.word] < 0) = zet p i q := by
 have a : zbG p.text q.at_ = true := by
  cases e : zbG p.text q.at_
  ·rw [e] at a; simp at a
  ·rfl
 rw [inAll_one] at b;simp only [zet, a, b, decide_eq_false (show ¬ i = 0 by omega), Bool.and_true, Bool.true_and, Bool.false_or, places_lt, d, Option.getD_some]
theorem q_init2 (b : zcQ [(q.heads.length : Int)] 2 3 = false) : false = zet p i q := by
 rw [inAll_one] at b;simp only [zet, b, Bool.and_false]
theorem q_init3 (a : ¬ (if zbG p.text q.at_ = true then (0 : Int) else 12) = 0) : false = zet p i q := by
 have a : zbG p.text q.at_ = false := by
  cases e : zbG p.text q.at_
  ·rfl
  ·rw [e] at a; simp at a
 simp only [zet, a, Bool.false_and]
theorem q_step0 (a : zfV p i q k = true) (b : zeg hd = true) (c : (k : Int) = 0) (d : q.heads[k]? = some hd) : true = (zfV p i q k && zde q.heads k) := by
 simp only [a, zde, d, b, decide_eq_true (show k = 0 by omega), Bool.true_or, Bool.and_true]
theorem q_step1 (a : zfV p i q k = true) (b : zeg hd = true) (c : ¬ (k : Int) = 0) (d : q.heads[k]? = some hd) (e : q.heads[k - 1]? = some h1) : decide (orL [cmpT h1.stem hd.stem, zcY h1.mark hd.mark] < 0) = (zfV p i q k && zde q.heads k) := by
 simp only [a, zde, d, b, e, decide_eq_false (show ¬ k = 0 by omega), Bool.false_or, Bool.true_and, heads_lt, Option.getD_some]
theorem q_step2 (b : zeg hd = false) (d : q.heads[k]? = some hd) : false = (zfV p i q k && zde q.heads k) := by
 simp only [zde, d, b, Bool.false_and, Bool.and_false]
theorem q_step3 (a : zfV p i q k = false) : false = (zfV p i q k && zde q.heads k) := by simp only [a, Bool.false_and]
end
def zch (p : Poll) (v : Voter) (i : Nat) : Nat → Bool
 | 0 => inB v.id 0 9999
 | 1 => inB v.wrong 0 6
 | 2 => decide (v.votes.length = p.questions.length)
 | 3 => zfD p v
 | _ => !((p.voters.take i).any fun u => decide (u.id = v.id))
theorem ask_all {p : Poll} {v : Voter} {i k : Nat} (hv : p.voters[i]? = some v) (h : ∀ m, m < k → zch p v i m = true) (hk : 5 ≤ k) : zdT p i = true := by
 have h0 := h 0 zr; have h1 := h 1 zr; have h2 := h 2 zr; have h3 := h 3 zr; have h4 := h 4 zr;simp only [zch] at h0 h1 h2 h3 h4;simp only [zdT, hv, zfe, h0, h1, h2, h3, Bool.and_true, Bool.true_and];rw [List.all_eq_true];intro u hu;simp only [Bool.not_eq_true', List.any_eq_false, decide_eq_true_eq] at h4;exact decide_eq_true (h4 u hu)
theorem ask_no {p : Poll} {v : Voter} {i k : Nat} (hv : p.voters[i]? = some v) (h : zch p v i k = false) : zcJ p = false := by
 refine poll_v (i := i) ?_;simp only [zdT, hv, zfe]
 match k, h with
 | 0, h => simp only [zch] at h; simp [h]
 | 1, h => simp only [zch] at h; simp [h]
 | 2, h => simp only [zch] at h; simp [h]
 | 3, h => simp only [zch] at h; simp [h]
 | k + 4, h =>
  simp only [zch, Bool.not_eq_false', List.any_eq_true, decide_eq_true_eq] at h;obtain ⟨u, hu, e⟩ := h;have : ((p.voters.take i).all fun u => decide (u.id ≠ v.id)) = false := List.all_eq_false.2 ⟨u, hu, by simp [e]⟩;rw [this, Bool.and_false]
theorem asked_len {p : Poll} {v u : Voter} {j : Nat} (hv : p.voters[j]? = some v) (h : zch p v j 2 = true) : u.votes.length = p.questions.length ∨ p.voters[((j : Int)).toNat]? ≠ some u := by
 by_cases e : p.voters[((j : Int)).toNat]? = some u
 ·rw [Int.toNat_natCast, hv] at e;cases e;exact .inl (by simpa [zch] using h)
 exact .inr e
theorem zgx {p : Poll} (h0 : zaQ p.text p.lexicon = 0) (h : zcJ p = false) : zcx p = 70 := by simp [zcx, h0, h]
theorem check_yes {p : Poll} (h0 : zaQ p.text p.lexicon = 0) (h : zcJ p = true) : zcx p = 0 := by simp [zcx, h0, h]
theorem quest_no {p : Poll} {i : Nat} {q : Question} (hq : p.questions[i]? = some q) (h : zet p i q = false) : zdU p i = false := by
 simp only [zdU, hq];show (zet p i q && headsOk q.heads) = false;rw [h]; rfl
theorem quest_ok {p : Poll} {i : Nat} {q : Question} (h : zet p i q = true) : zbG p.text q.at_ = true ∧ (decide (i = 0) || zeq ((p.questions[i - 1]?).getD zhW).at_ q.at_) = true ∧ inB q.heads.length 2 3 = true := by
 simp only [zet, Bool.and_eq_true] at h;exact ⟨h.1.1, h.1.2, h.2⟩
def voteB (p : Poll) (v : Voter) : Bool := inB v.id 0 9999 && inB v.wrong 0 6 && decide (v.votes.length = p.questions.length)
theorem vote_no {p : Poll} {i : Nat} {v : Voter} (hv : p.voters[i]? = some v) (h : voteB p v = false) : zdT p i = false := by
 simp only [zdT, hv, zfe];show ((voteB p v && zfD p v) && _) = false;rw [h]; rfl
theorem vote_ok {p : Poll} {v : Voter} (h : voteB p v = true) : inB v.id 0 9999 = true ∧ inB v.wrong 0 6 = true ∧ v.votes.length = p.questions.length := by
 simp only [voteB, Bool.and_eq_true, decide_eq_true_eq] at h;exact ⟨h.1.1, h.1.2, h.2⟩
end Go.Pk

namespace Go.Pk
open Go Go.RowKit
def zft (now : List Int) (v : Voter) : Int := v.wrong - (zbc v now : Int)
def leftL (p : Poll) (now : List Int) : List Int := p.voters.map (zft now)
def zgv (p : Poll) (now : List Int) (h : Int) (i : Nat) : List Int := (p.voters.take i).map (zft (now ++ [h])) ++ (p.voters.drop i).map (zft now)
structure NowOk (p : Poll) (now : List Int) : Prop where
 len : now.length ≤ p.questions.length
 ins : ∀ k, k < now.length → inAt p now k = true
 wr : ∀ v ∈ p.voters, (zbc v now : Int) ≤ v.wrong
theorem now_nil {p : Poll} (hp : zcJ p = true) : NowOk p [] := by
 refine ⟨Nat.zero_le _, fun k hk => absurd hk (by simp), fun v hv => ?_⟩;have := zfr hp hv;have e : zbc v [] = 0 := rfl;rw [e]; omega
theorem now_true {p : Poll} {now : List Int} (h : NowOk p now) (hl : now.length = p.questions.length) : zfZ p now = true :=
 true_yes (i := now.length) (k := p.voters.length) hl h.ins (Nat.le_refl _) (fun v hv => h.wr v (List.mem_of_mem_take hv)) (Nat.le_refl _)
theorem now_snoc {p : Poll} {now : List Int} {q : Question} {h : Nat} (hn : NowOk p now) (hq : p.questions[now.length]? = some q) (hh : h < q.heads.length) (hw : ∀ v ∈ p.voters, (zbc v (now ++ [(h : Int)]) : Int) ≤ v.wrong) : NowOk p (now ++ [(h : Int)]) := by
 have hlt := (List.getElem?_eq_some_iff.1 hq).1;refine ⟨by simp; omega, fun k hk => ?_, hw⟩;rw [List.length_append, List.length_cons, List.length_nil] at hk
 by_cases e : k < now.length
 ·have := hn.ins k e;simp only [inAt, List.getElem?_append_left e] at this ⊢;exact this
 obtain rfl : k = now.length := by omega
 simp only [inAt, hq, List.getElem?_append_right (Nat.le_refl _), Nat.sub_self, List.getElem?_cons_zero, inB, Bool.and_eq_true, decide_eq_true_eq];omega
theorem ziW (p : Poll) (now : List Int) : (leftL p now).length = p.voters.length := by simp [leftL]
theorem zhj (p : Poll) (now : List Int) (h : Int) (i : Nat) : (zgv p now h i).length = p.voters.length := by simp [zgv]; omega
theorem leftM_zero (p : Poll) (now : List Int) (h : Int) : zgv p now h 0 = leftL p now := by simp [zgv, leftL]
theorem leftM_all {p : Poll} (now : List Int) (h : Int) {i : Nat} (hi : p.voters.length ≤ i) : zgv p now h i = leftL p (now ++ [h]) := by
 rw [zgv, List.take_of_length_le hi, List.drop_eq_nil_of_le hi]; simp [leftL]
theorem leftM_at {p : Poll} {now : List Int} {h : Int} {i : Nat} {v : Voter} (hv : p.voters[i]? = some v) : (zgv p now h i)[i]? = some (zft now v) := by
 have hlt := (List.getElem?_eq_some_iff.1 hv).1;rw [zgv, List.getElem?_append_right (by simp; omega)];simp [List.length_take, Nat.min_eq_left (Nat.le_of_lt hlt), hv]
theorem leftM_next {p : Poll} {now : List Int} {h : Int} {i : Nat} {v : Voter} (hv : p.voters[i]? = some v) : zgv p now h (i + 1) = (zgv p now h i).set i (zft (now ++ [h]) v) := by
 have hlt := (List.getElem?_eq_some_iff.1 hv).1;rw [zgv, zgv, zbf hv, zhk hv, List.map_append, List.map_cons, List.map_nil, List.map_cons, List.set_append_right _ _ (by simp; omega), List.length_map, List.length_take, Nat.min_eq_left (Nat.le_of_lt hlt), Nat.sub_self, List.set_cons_zero, List.append_assoc];rfl
theorem leftV_same {now : List Int} {h a : Int} {v : Voter} (ha : v.votes[now.length]? = some a) (hc : a < 0 ∨ a = h) : zbc v (now ++ [h]) = zbc v now := by
 rw [wrongN_snoc, ha, if_neg, Nat.add_zero];simp only [Bool.and_eq_true, decide_eq_true_eq];rintro ⟨h1, h2⟩
 rcases hc with hc | hc
 ·omega
 exact h2 hc
theorem leftV_less {now : List Int} {h a : Int} {v : Voter} (ha : v.votes[now.length]? = some a) (h1 : ¬ a < 0) (h2 : ¬ a = h) : zbc v (now ++ [h]) = zbc v now + 1 := by
 rw [wrongN_snoc, ha, if_pos];simp only [Bool.and_eq_true, decide_eq_true_eq];exact ⟨by omega, h2⟩
theorem leftM_skip {p : Poll} {now : List Int} {h a : Int} {i : Nat} {v : Voter} (hv : p.voters[i]? = some v) (ha : v.votes[now.length]? = some a) (hc : a < 0 ∨ a = h) : zgv p now h (i + 1) = zgv p now h i := by
 rw [leftM_next hv];have e : zft (now ++ [h]) v = zft now v := by rw [zft, zft, leftV_same ha hc]
 rw [e];have q := leftM_at (now := now) (h := h) hv;refine List.ext_getElem? fun j => ?_;rw [List.getElem?_set];split
 ·rename_i ej;subst ej;rw [q, if_pos (List.getElem?_eq_some_iff.1 q).1]
 rfl
theorem leftM_less {p : Poll} {now : List Int} {h a : Int} {i : Nat} {v : Voter} (hv : p.voters[i]? = some v) (ha : v.votes[now.length]? = some a) (h1 : ¬ a < 0) (h2 : ¬ a = h) : zgv p now h (i + 1) = (zgv p now h i).set i (zft now v - 1) := by
 rw [leftM_next hv];have e : zft (now ++ [h]) v = zft now v - 1 := by rw [zft, zft, leftV_less ha h1 h2]; omega
 rw [e]
theorem left_neg {now : List Int} {h a z : Int} {v : Voter} (ha : v.votes[now.length]? = some a) (h1 : ¬ a < 0) (h2 : ¬ a = h) (hz : z = zft now v - 1) (hn : z < 0) : v.wrong < (zbc v (now ++ [h]) : Int) := by
 rw [leftV_less ha h1 h2]; rw [zft] at hz; omega
theorem left_pos {now : List Int} {h a z : Int} {v : Voter} (ha : v.votes[now.length]? = some a) (h1 : ¬ a < 0) (h2 : ¬ a = h) (hz : z = zft now v - 1) (hn : ¬ z < 0) : (zbc v (now ++ [h]) : Int) ≤ v.wrong := by
 rw [leftV_less ha h1 h2]; rw [zft] at hz; omega
theorem left_skip {p : Poll} {now : List Int} {h a : Int} {v : Voter} (hn : NowOk p now) (hv : v ∈ p.voters) (ha : v.votes[now.length]? = some a) (hc : a < 0 ∨ a = h) : (zbc v (now ++ [h]) : Int) ≤ v.wrong := by
 rw [leftV_same ha hc]; exact hn.wr v hv
theorem left_at {p : Poll} {now : List Int} {h x : Int} {i : Nat} {v : Voter} (hv : p.voters[i]? = some v) (hx : (zgv p now h i)[i]? = some x) : x = zft now v := by
 rw [leftM_at hv] at hx; exact (Option.some.inj hx).symm
theorem left_bound {p : Poll} {now : List Int} {v : Voter} (hp : zcJ p = true) (hn : NowOk p now) (hv : v ∈ p.voters) : 0 ≤ zft now v ∧ zft now v ≤ 6 := by
 have h1 := zfr hp hv;have h2 := hn.wr v hv;rw [zft]; omega
theorem set_at {l : List Int} {i : Nat} {x z : Int} (h : (l.set i x)[i]? = some z) : z = x := by
 rw [List.getElem?_set] at h;simp only [if_true] at h;split at h
 ·exact (Option.some.inj h).symm
 cases h
def zhJ (p : Poll) (i : Nat) : List Int := (p.voters.take i).map (·.wrong) ++ List.replicate (p.voters.length - i) 0
theorem startL_zero (p : Poll) : zhJ p 0 = List.replicate p.voters.length 0 := by simp [zhJ]
theorem startL_len {p : Poll} {i : Nat} (h : i ≤ p.voters.length) : (zhJ p i).length = p.voters.length := by simp [zhJ]; omega
theorem startL_set {p : Poll} {i : Nat} {v : Voter} (hv : p.voters[i]? = some v) : (zhJ p i).set i v.wrong = zhJ p (i + 1) := by
 have hlt := (List.getElem?_eq_some_iff.1 hv).1;rw [zhJ, zhJ, zbf hv, List.set_append_right _ _ (by simp; omega), List.length_map, List.length_take, Nat.min_eq_left (Nat.le_of_lt hlt), Nat.sub_self, show p.voters.length - i = (p.voters.length - (i + 1)) + 1 by omega, List.replicate_succ, List.set_cons_zero, List.map_append, List.append_assoc];rfl
theorem startL_all {p : Poll} {i : Nat} (h : p.voters.length ≤ i) : zhJ p i = leftL p [] := by
 rw [zhJ, List.take_of_length_le h, show p.voters.length - i = 0 by omega, leftL];simp only [List.replicate_zero, List.append_nil];refine List.map_congr_left fun v _ => ?_;have e : zbc v [] = 0 := rfl;rw [zft, e]; simp
def zhp (p : Poll) (now : List Int) (k : Nat) : List (List Int) := (List.range k).flatMap fun (h : Nat) => zct p (now ++ [(h : Int)])
theorem zjf (p : Poll) (now : List Int) (k : Nat) : zhp p now (k + 1) = zhp p now k ++ zct p (now ++ [(k : Int)]) := by
 rw [zhp, List.range_succ, List.flatMap_append, List.flatMap_cons, List.flatMap_nil, List.append_nil]; rfl
theorem truthsK_all {p : Poll} {now : List Int} {q : Question} {k : Nat} (hq : p.questions[now.length]? = some q) (hk : q.heads.length = k) : zct p now = zhp p now k := by
 subst hk;exact truthsFrom_next (by simp [zgJ, hq])
def OnWay (p : Poll) (done : List (List Int)) (now : List Int) : Prop := ∃ tl, zO p = done ++ zct p now ++ tl
theorem onway_nil (p : Poll) : OnWay p [] [] := ⟨[], by rw [truthsFrom_nil]; simp⟩
theorem onway_next {p : Poll} {done : List (List Int)} {now : List Int} {q : Question} {k : Nat} (h : OnWay p done now) (hq : p.questions[now.length]? = some q) (hk : k < q.heads.length) : OnWay p (done ++ zhp p now k) (now ++ [(k : Int)]) := by
 obtain ⟨tl, h⟩ := h;rw [truthsK_all hq rfl] at h;have e : zhp p now q.heads.length = zhp p now k ++ zct p (now ++ [(k : Int)]) ++ ((List.range (q.heads.length - (k + 1))).map (k + 1 + ·)).flatMap fun (h : Nat) => zct p (now ++ [(h : Int)]) := by
  rw [← zjf];simp only [zhp];rw [← List.flatMap_append];congr 1
  conv => lhs; rw [show q.heads.length = (k + 1) + (q.heads.length - (k + 1)) by omega]
  rw [List.range_add]
 rw [e] at h;exact ⟨((List.range (q.heads.length - (k + 1))).map (k + 1 + ·)).flatMap (fun (h : Nat) => zct p (now ++ [(h : Int)])) ++ tl, by rw [h]; simp only [List.append_assoc]⟩
theorem onway_at {p : Poll} {done : List (List Int)} {now : List Int} (h : OnWay p done now) (hn : zct p now = [now]) : (zO p)[done.length]? = some now := by
 obtain ⟨tl, h⟩ := h;rw [h, hn]; simp
theorem truths_one {p : Poll} {now : List Int} (h : NowOk p now) (hl : now.length = p.questions.length) : zct p now = [now] := by
 rw [truthsFrom_all hl, if_pos (now_true h hl)]
end Go.Pk

namespace Go.Pk
open Go Go.RowKit
theorem intLt_T : TLt (fun a b : Int => decide (a < b)) := by
 refine ⟨fun a => by simp, fun a b c h1 h2 => ?_, fun a b h => ?_⟩
 ·simp only [decide_eq_true_eq] at *; omega
 simp only [decide_eq_true_eq]; omega
def choiceAt (q : Nat) (t : List Int) : Int := (t[q]?).getD 0
theorem ziL {q : Nat} {t : List Int} {a : Int} (h : t[q]? = some a) : choiceAt q t = a := by rw [choiceAt, h]; rfl
theorem zjl (ts : List (List Int)) (q : Nat) : ∀ n, (zfj ts q n).Pairwise fun a b => decide (a < b) = true
 | 0 => by simp [zfj]
 | n + 1 => by
  rw [openK_succ, List.pairwise_append];refine ⟨zjl ts q n, by split <;> simp, fun a ha b hb => ?_⟩;split at hb
  ·rw [List.mem_singleton] at hb;subst hb;simp only [zfj, List.mem_map, List.mem_filter, List.mem_range] at ha;obtain ⟨k, ⟨hk, _⟩, rfl⟩ := ha;simp; omega
  ·cases hb
theorem open_sorted {ts : List (List Int)} {q n : Nat} (h : ∀ t ∈ ts, ∃ a, t[q]? = some a ∧ 0 ≤ a ∧ a < (n : Int)) : zcu ((ts.map (choiceAt q)).mergeSort fun a b => decide (a ≤ b)) = zfj ts q n := by
 rw [setOf_compact intLt_T (List.mergeSort_perm _ _)]
 ·refine strict_eq intLt_T (setL_sorted intLt_T _) (zjl ts q n) fun x => ?_;rw [setL_mem];simp only [zfj, List.mem_map, List.mem_filter, List.mem_range, openB, List.any_eq_true, decide_eq_true_eq];constructor
  ·rintro ⟨t, ht, rfl⟩;obtain ⟨a, ha, h0, h1⟩ := h t ht;refine ⟨a.toNat, ⟨by omega, t, ht, ?_⟩, ?_⟩
   ·rw [ha]; congr 1; omega
   ·rw [ziL ha]; omega
  ·rintro ⟨k, ⟨_, t, ht, e⟩, rfl⟩;exact ⟨t, ht, ziL e⟩
 have := List.pairwise_mergeSort (le := fun a b : Int => decide (a ≤ b)) (by intro a b c h1 h2; simp only [decide_eq_true_eq] at *; omega) (by intro a b; simp only [Bool.or_eq_true, decide_eq_true_eq]; omega) (ts.map (choiceAt q));exact this.imp fun {a b} h => by simp only [decide_eq_true_eq, decide_eq_false_iff_not] at *; omega
theorem truth_at {p : Poll} {t : List Int} {q : Nat} {x : Question} (h : t ∈ zO p) (hx : p.questions[q]? = some x) : ∃ a, t[q]? = some a ∧ 0 ≤ a ∧ a < (x.heads.length : Int) := by
 have hl := zdI h;have hlt := (List.getElem?_eq_some_iff.1 hx).1;refine ⟨_, List.getElem?_eq_getElem zr, ?_⟩;exact truth_in h (List.getElem?_eq_getElem zr) hx
theorem setK_nil (ts : List (List Int)) (a0 : List Int) : setK (ts.take 0) a0 = a0 := by
 refine List.ext_getElem (zga _ _) fun k h1 h2 => ?_;have := ziR (ts := ts.take 0) h2;rw [List.getElem?_eq_getElem h1] at this;have e := Option.some.inj this;rw [e, setAt, List.getElem?_eq_getElem h2];simp
def zhK (q : Question) : Bool := decide (q.heads.length ≤ 6) && q.heads.all fun h => decide (h.stem.length ≤ 40)
def smallV (v : Voter) : Bool := decide (v.votes.length ≤ 20)
def zei (p : Poll) : Bool := zfq p.text && zfp p.lexicon && decide (p.questions.length ≤ 10) && decide (p.voters.length ≤ 10) && p.questions.all zhK && p.voters.all smallV
theorem smallP_q {p : Poll} (h : zei p = true) {i : Nat} {q : Question} (hq : p.questions[i]? = some q) : q.heads.length ≤ 6 := by
 simp only [zei, Bool.and_eq_true, List.all_eq_true] at h;have := h.1.2 q (List.mem_of_getElem? hq);simp only [zhK, Bool.and_eq_true, decide_eq_true_eq] at this;exact this.1
theorem smallP_v {p : Poll} (h : zei p = true) {i : Nat} {v : Voter} (hv : p.voters[i]? = some v) : v.votes.length ≤ 20 := by
 simp only [zei, Bool.and_eq_true, List.all_eq_true] at h;have := h.2 v (List.mem_of_getElem? hv);simpa [smallV] using this
theorem smallP_len {p : Poll} (h : zei p = true) : zfq p.text = true ∧ zfp p.lexicon = true ∧ p.questions.length ≤ 10 ∧ p.voters.length ≤ 10 := by
 simp only [zei, Bool.and_eq_true, decide_eq_true_eq] at h;exact ⟨h.1.1.1.1.1, h.1.1.1.1.2, h.1.1.1.2, h.1.1.2⟩
theorem small_yes {p : Poll} {i j : Nat} (h1 : zfq p.text = true) (h2 : zfp p.lexicon = true) (h3 : p.questions.length ≤ 10) (h4 : p.voters.length ≤ 10) (hA : (p.questions.take i).all zhK = true) (hi : p.questions.length ≤ i) (hV : (p.voters.take j).all smallV = true) (hj : p.voters.length ≤ j) : zei p = true := by
 rw [List.take_of_length_le hi] at hA;rw [List.take_of_length_le hj] at hV;simp only [zei, h1, h2, hA, hV, decide_eq_true h3, decide_eq_true h4, Bool.and_true]
theorem small_no (p : Poll) (h : zfq p.text = false ∨ zfp p.lexicon = false ∨ 10 < p.questions.length ∨ 10 < p.voters.length) : zei p = false := by
 cases e : zei p with
 | false => rfl
 | true =>
  have h2 := smallP_len e
  rcases h with h | h | h | h
  ·rw [h2.1] at h; cases h
  ·rw [h2.2.1] at h; cases h
  ·omega
  ·omega
theorem small_noq {p : Poll} {i : Nat} {q : Question} (hq : p.questions[i]? = some q) (h : zhK q = false) : zei p = false := by
 have : p.questions.all zhK = false := List.all_eq_false.2 ⟨q, List.mem_of_getElem? hq, by simp [h]⟩;simp only [zei, this, Bool.and_false, Bool.false_and]
theorem small_nov {p : Poll} {i : Nat} {v : Voter} (hv : p.voters[i]? = some v) (h : 20 < v.votes.length) : zei p = false := by
 have : p.voters.all smallV = false := List.all_eq_false.2 ⟨v, List.mem_of_getElem? hv, by simp [smallV]; omega⟩;simp only [zei, this, Bool.and_false]
theorem small_q6 {q : Question} (h : 6 < q.heads.length) : zhK q = false := by simp [zhK]; intros; omega
theorem small_qh {q : Question} {k : Nat} {hd : Head} (hh : q.heads[k]? = some hd) (h : 40 < hd.stem.length) : zhK q = false := by
 have : (q.heads.all fun h => decide (h.stem.length ≤ 40)) = false := List.all_eq_false.2 ⟨hd, List.mem_of_getElem? hh, by simp; omega⟩;simp only [zhK, this, Bool.and_false]
theorem small_qy {q : Question} {k : Nat} (h : q.heads.length ≤ 6) (hB : ((q.heads.take k).all fun h => decide (h.stem.length ≤ 40)) = true) (hk : q.heads.length ≤ k) : zhK q = true := by
 rw [List.take_of_length_le hk] at hB;simp only [zhK, hB, decide_eq_true h, Bool.and_true]
end Go.Pk
