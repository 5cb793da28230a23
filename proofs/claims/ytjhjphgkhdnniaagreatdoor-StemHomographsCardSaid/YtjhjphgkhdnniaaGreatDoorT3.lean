/- A PART OF THE PROOF: contracts of functions, each walked once (much of it printed by a program of the author's own). -/
import Derived.Test.YtjhjphgkhdnniaaGreatDoorT0
import Derived.Shelf.SlSortCmp.NoneTotal
import Derived.Test.YtjhjphgkhdnniaaGreatDoorT2
import Derived.Sort.Walk0
import Derived.Test.YtjhjphgkhdnniaaGreatDoorT1
set_option linter.unusedSimpArgs false
set_option linter.unusedVariables false
set_option maxRecDepth 4000
namespace Go.Pk
open Go Go.RowKit Go.Proofs Go.Shelf Go.Lib Go.Sort
theorem bel_grow {W w' : World} (b : Bel W.heap.size W w') : ∃ q os', w' = grow (W.drewN q) os' := by
 refine ⟨w'.drawn - W.drawn, w'.heap.extract W.heap.size w'.heap.size, ?_⟩;obtain ⟨h1, h2, h3, h4, h5, h6⟩ := b;cases w'; cases W;simp only at h1 h2 h3 h4 h5 h6;subst h1; subst h2; subst h3;simp only [grow, World.drewN, World.mk.injEq, true_and, and_true];refine ⟨?_, by omega⟩;apply Array.ext_getElem?;intro i;rw [Array.getElem?_append];split
 ·rename_i hi; exact h5 i hi
 rename_i hi;rw [Array.getElem?_extract];split
 ·congr 1; omega
 rw [Array.getElem?_eq_none zD]
theorem Bel.grow {B : Nat} {a w : World} (b : Bel B a w) (hB : B ≤ w.heap.size) (os : Array Obj) : Bel B a (grow w os) :=
 b.trans ⟨rfl, rfl, rfl, by simp [Go.Sort.grow], fun k hk => by simp only [Go.Sort.grow]; rw [Array.getElem?_append_left zD], Nat.le_refl _⟩
theorem St.grow {h0 h : Heap} {w0 w : World} {own : Own} (st : St h0 w0 h w own) (os : Array Obj) : St h0 w0 h (grow w os) own := by
 have e : ∀ b o, w.heap[b]? = some o → (Go.Sort.grow w os).heap[b]? = some o := fun b o hb => by
  simp only [Go.Sort.grow]; rw [Array.getElem?_append_left (zcn hb)]; exact hb
 exact ⟨st.le, st.new, fun b o hb => e b o (st.sub b o hb), st.below.grow st.below.size os, fun p hp => ⟨e _ _ (st.mine p hp).1, (st.mine p hp).2⟩, st.nodup⟩
theorem putRow_own {w : World} {b : Nat} {cur : Array Value} {T : TypeId} {F : Array Value} (hb : w.heap[b]? = some (.cells cur T)) (n : Nat) :
  putRow id (Go.Sort.ahead w n) b 0 F = { w with drawn := w.drawn + n, heap := w.heap.setIfInBounds b (.cells (putCells id 0 F cur) T) } := by
 have hlt := zcn hb;have hb' : w.heap[b] = .cells cur T := by rw [Array.getElem?_eq_getElem hlt] at hb; simpa using hb
 simp only [putRow, mapBlock, Go.Sort.ahead, World.mk.injEq, and_true, true_and];apply Array.ext_getElem?;intro i;rw [Array.getElem?_modify, Array.getElem?_setIfInBounds]
 by_cases e : b = i
 ·subst e; simp [hlt, hb', onCells]
 ·simp [e]
theorem putCells_take {F cur : Array Value} (h : F.size ≤ cur.size) : (putCells id 0 F cur).toList.take F.size = F.toList := by
 apply List.ext_getElem?;intro i;rw [List.getElem?_take];split
 ·rename_i hi;simp only [putCells, Array.getElem?_toList, Array.getElem?_mapIdx];rw [Array.getElem?_eq_getElem (show i < cur.size by omega), Array.getElem?_eq_getElem hi];simp [hi]
 rename_i hi;rw [List.getElem?_eq_none (by simpa using hi)]
theorem flatK_enc {α : Type} [Inhabited α] {L : Lay α} {h : Heap} {enc : α → List Value} (d : Array α) (hk : ∀ x, (enc x).length = L.size) (hR : ∀ x ∈ d.toList, L.R h (enc x) x) : Enc L h (flatK enc L.size d).toList d.toList := by
 refine ⟨by simp, fun i x hi => ?_⟩;obtain ⟨h1, h2⟩ := List.getElem?_eq_some_iff.1 hi;have h1' : i < d.size := by simpa using h1
 have e : ((flatK enc L.size d).toList.drop (i * L.size)).take L.size = enc x := by
  apply List.ext_getElem?;intro j;rw [List.getElem?_take]
  by_cases hj : j < L.size
  ·rw [if_pos hj, List.getElem?_drop];have ht : i * L.size + j < d.size * L.size := by
    have : (i + 1) * L.size ≤ d.size * L.size := Nat.mul_le_mul_right _ h1';rw [Nat.add_mul, Nat.one_mul] at this; omega
   have h3 := get_flatK enc L.size d _ ht;have hd : (i * L.size + j) / L.size = i := by rw [Nat.mul_comm, Nat.mul_add_div zD, Nat.div_eq_of_lt hj]; rfl
   have hm : (i * L.size + j) % L.size = j := by rw [Nat.mul_comm, Nat.mul_add_mod, Nat.mod_eq_of_lt hj]
   rw [hd, hm, getElem!_pos d i h1', getElem!_pos (flatK enc L.size d) _ (by simpa using ht)] at h3;have hx : d[i] = x := by simpa using h2
   rw [hx, getElem!_pos (enc x) j (by rw [hk]; exact hj)] at h3;rw [List.getElem?_eq_getElem (by simpa using ht), List.getElem?_eq_getElem (by rw [hk]; exact hj)];simpa using h3
  ·rw [if_neg hj, List.getElem?_eq_none (by rw [hk]; omega)]
 rw [e];exact hR x (List.mem_of_getElem? hi)
theorem enc_flatK {α : Type} [Inhabited α] {L : Lay α} {h : Heap} {enc : α → List Value} (hpos : 0 < L.size) (d : Array α) (hE : ∀ {vs x}, L.R h vs x → vs = enc x) {cs : List Value} (e : Enc L h cs d.toList) {j : Nat} (hj : j < d.size * L.size) : cs[j]? = some (flatK enc L.size d)[j]! := by
 have hi : j / L.size < d.size := Nat.div_lt_of_lt_mul (by rwa [Nat.mul_comm]);have hr := hE (e.2 (j / L.size) d[j / L.size] (by simp [hi]));rw [get_flatK enc L.size d j hj, getElem!_pos d _ hi, ← hr];have hlen : cs.length = d.size * L.size := by simpa using e.1
 have hm := Nat.mod_lt j hpos;have hdm := Nat.div_add_mod j L.size;rw [Nat.mul_comm] at hdm;have hl : j % L.size < ((cs.drop (j / L.size * L.size)).take L.size).length := by
  simp only [List.length_take, List.length_drop]; omega
 rw [getElem!_pos ((cs.drop (j / L.size * L.size)).take L.size) (j % L.size) hl];simp only [List.getElem_take, List.getElem_drop, hdm];rw [List.getElem?_eq_getElem zD]
theorem sortFunc {α : Type} {L : Lay α} {T : TypeId} {P : Program} {ρ : Ren} (LL : SlLaysF0.n6 P ρ) (aE : ∀ w, (isAgg (ρ.t 24)).run P w = .ok true w) (zE : ∀ w, (Go.sizeOf (ρ.t 24)).run P w = .ok L.size w) (hpos : 0 < L.size)
  (enc : α → List Value) (hE : ∀ {h vs x}, L.R h vs x → vs = enc x) (cf : α → α → Int) (hS : SWO (ltOf cf)) {g : Nat} {caps : List Value} {h0 h : Heap} {w0 w : World} {own : Own} {i : Nat} {v : Value} {xs : List α} {o : List (Nat × Obj)}
  (st : St h0 w0 h w own) (hO : OSl L T h v xs o) (hi : own[i]? = some o) (hlen : xs.length < 4611686018427387904) (eg : ∀ a w, (callFunc g a).run P w = .ok (.enter g a) w)
  (hcmp : ∀ x ∈ xs, ∀ y ∈ xs, ∀ w', Sub h w' → Calls P g (.agg (enc x).toArray :: .agg (enc y).toArray :: caps).toArray w' (Rets h w' fun _ _ r => r = .int .i64 (cf x y))) :
  Calls P (ρ.f 6) #[v, .func (.func g) #[] caps.toArray] w fun e w' => e = .returned (.tuple #[]) ∧ ∃ ys o' own', own' = own.set i o' ∧ ys.Perm xs ∧ ys.Pairwise (fun a b => ¬ cf b a < 0) ∧ OSl L T h v ys o' ∧ St h0 w0 h w' own' := by
 by_cases hx : xs = []
 ·subst hx;obtain ⟨p, c, rfl⟩ := hO.form;refine (AnyF.slices_SortFunc_none LL p c _ w).mono ?_;rintro e w' ⟨he, rfl⟩;refine ⟨he, [], o, _, rfl, List.Perm.refl _, List.Pairwise.nil, hO, ?_⟩;have e3 : own.set i o = own := by
   apply List.ext_getElem?;intro j;rw [List.getElem?_set];split
   ·rename_i e4; subst e4;split
    ·exact hi.symm
    ·rename_i h5; rw [List.getElem?_eq_none zD]
   ·rfl
  rw [e3]; exact st
 obtain ⟨cs, e1, ⟨⟨p, rfl⟩, rfl, rfl⟩ | ⟨b, cap, cur, rfl, rfl, hnc, hcm, hsz, htk⟩⟩ := hO
 ·exact absurd rfl hx
 -- the elements, each with its place in the list
 let β := { x : α // x ∈ xs }
 haveI : Inhabited β := ⟨⟨xs.head hx, List.head_mem hx⟩⟩
 let enc' : β → List Value := fun x => enc x.1
 let cf' : β → β → Int := fun x y => cf x.1 y.1
 let d : Array β := xs.attach.toArray
 have hdl : d.size = xs.length := by show xs.attach.toArray.size = xs.length; rw [List.size_toArray]; exact List.length_attach
 have hmap : d.toList.map (·.1) = xs := by show xs.attach.map (·.1) = xs; exact List.attach_map_subtype_val xs
 have hRx : ∀ x : β, L.R h (enc x.1) x.1 := by
  intro x;obtain ⟨j, hj⟩ := List.mem_iff_getElem?.1 x.2;have := e1.2 j x.1 hj;rwa [hE this] at this
 have hk : ∀ x : β, (enc' x).length = L.size := fun x => L.len (hRx x)
 let L' : Lay β := { size := L.size, R := fun h vs x => L.R h vs x.1, up := fun a b => L.up a b, len := fun a => L.len a, one := fun a => L.one a }
 have hb := st.get hi;have hcsl : cs.length = xs.length * L.size := e1.1;have e1' : Enc L' h cs d.toList := ⟨by rw [hcsl, ← hdl]; rfl, fun j x hj => e1.2 j x.1 (by
  have := congrArg (Option.map (·.1)) hj;rw [← List.getElem?_map, hmap] at this;simpa using this)⟩
 have hH : HoldsK enc' L.size w b 0 d := by
  intro j hj;have hj' : j < d.size * L.size := by simpa using hj
  have hcj := enc_flatK (L := L') (enc := enc') hpos d (fun h => hE h) e1' hj';have hjc : j < cs.length := by rw [hcsl, ← hdl]; exact hj'
  have hcur : cur[j]? = some (flatK enc' L.size d)[j]! := by
   rw [← htk, List.getElem?_take] at hcj;split at hcj
   ·simpa using hcj
   ·cases hcj
  refine ⟨?_, ?_⟩
  ·simp only [World.cell?, hb, Option.isSome_none, Bool.false_eq_true, if_false, Nat.zero_add, id];exact hcur
  ·simp [World.frozen?, hb]
 have hlt := zcn hb;have hsubs : ∀ m (os : Array Obj) (dk : Array β), Sub h (sortWorldK enc' L.size w b 0 m dk os) := by
  intro m os dk;unfold sortWorldK putRowK;rw [putRow_own hb];have := (((st.set (.cells (putCells id 0 (flatK enc' L.size dk) cur) T) hi).same (w' := { w with drawn := w.drawn + m, heap := w.heap.setIfInBounds b (.cells (putCells id 0 (flatK enc' L.size dk) cur) T) }) rfl rfl rfl rfl (Nat.le_add_right _ _)).grow os).sub;exact this
 have hC : CmpLays P g caps.toArray enc' L.size cf' b 0 d.size w := by
  intro m os dk hdk x y;have c : Calls P g (#[.agg (enc' x).toArray, .agg (enc' y).toArray] ++ caps.toArray) (sortWorldK enc' L.size w b 0 m dk os) (Rets h (sortWorldK enc' L.size w b 0 m dk os) fun _ _ r => r = .int .i64 (cf x.1 y.1)) := by
   simpa using hcmp x.1 x.2 y.1 y.2 _ (hsubs m os dk)
  refine c.mono ?_;rintro e w' ⟨h', r, rfl, s, rfl⟩;exact ⟨rfl, bel_grow s.below⟩
 have hS' : SWO (ltOf cf') := ⟨fun x => hS.irrefl x.1, fun x y z => hS.trans x.1 y.1 z.1, fun x y z => hS.ntrans x.1 y.1 z.1⟩;have con := AnyQ.slices_SortFunc LL L.size aE zE enc' hk (fun x => L.one (hRx x)) cf' hS' g caps.toArray b 0 cap d w eg hC hH hlt (by rw [hdl]; exact hlen);rw [hdl] at con;refine con.mono ?_;rintro e w' ⟨he, d', n, os, ⟨p1, p2, p3⟩, hsort, rfl⟩;have hd' : d'.size = xs.length := by rw [p1, hdl]
 refine ⟨he, d'.toList.map (·.1), [(b, .cells (putCells id 0 (flatK enc' L.size d') cur) T)], _, rfl, ?_, ?_, ?_, ?_⟩
 ·have e3 : d'.extract 0 xs.length = d' := by rw [← hd']; simp
  have e4 : d.extract 0 xs.length = d := by rw [← hdl]; simp
  rw [e3, e4] at p3;have := p3.map (fun x : β => x.1);rwa [hmap] at this
 ·rw [List.pairwise_map, List.pairwise_iff_getElem];intro q r hq hr hqr;have := hsort q r (Nat.zero_le _) hqr (by simpa [hd'] using hr);rw [getElem!_pos d' r (by simpa using hr), getElem!_pos d' q (by simpa using hq)] at this;simp only [ltOf, decide_eq_false_iff_not, cf'] at this;simpa using this
 ·have hsf : (flatK enc' L.size d').size = xs.length * L.size := by simp [hd']
  have hfc : (flatK enc' L.size d').size ≤ cur.size := by rw [hsf, hsz]; exact Nat.mul_le_mul_right _ hnc
  refine ⟨(flatK enc' L.size d').toList, ?_, .inr ⟨b, cap, _, by simp [hd'], rfl, by simpa [hd'] using hnc, hcm, by simpa [putCells] using hsz, ?_⟩⟩
  ·have := flatK_enc (L := L') (h := h) (enc := enc') d' hk (fun x _ => hRx x);refine ⟨by simp [hd'], fun j x hj => ?_⟩;rw [List.getElem?_map] at hj;obtain ⟨y, hy, rfl⟩ := Option.map_eq_some_iff.1 hj;exact this.2 j y hy
  ·have := putCells_take hfc;rw [hsf] at this;simpa [hd'] using this
 ·unfold sortWorldK putRowK;rw [putRow_own hb];exact ((st.set (.cells (putCells id 0 (flatK enc' L.size d') cur) T) hi).same (w' := { w with drawn := w.drawn + n, heap := w.heap.setIfInBounds b (.cells (putCells id 0 (flatK enc' L.size d') cur) T) }) rfl rfl rfl rfl (Nat.le_add_right _ _)).grow os
theorem swo_asc {α : Type} (f : α → Int) : SWO (ltOf fun a b => f a - f b) := by
 refine ⟨fun x => ?_, fun x y z h1 h2 => ?_, fun x y z h1 h2 => ?_⟩ <;> simp only [ltOf, decide_eq_true_eq, decide_eq_false_iff_not] at * <;> omega
theorem swo_desc {α : Type} (f : α → Int) : SWO (ltOf fun a b => f b - f a) := by
 refine ⟨fun x => ?_, fun x y z h1 h2 => ?_, fun x y z h1 h2 => ?_⟩ <;> simp only [ltOf, decide_eq_true_eq, decide_eq_false_iff_not] at * <;> omega
theorem OSl.memR {α : Type} {L : Lay α} {T : TypeId} {h : Heap} {v : Value} {xs : List α} {o : List (Nat × Obj)} (hO : OSl L T h v xs o) {x : α} (hx : x ∈ xs) : ∃ vs, L.R h vs x := by
 obtain ⟨cs, e, _⟩ := hO;obtain ⟨j, hj⟩ := List.mem_iff_getElem?.1 hx;exact ⟨_, e.2 j x hj⟩
theorem Sl.memR {α : Type} {L : Lay α} {h : Heap} {v : Value} {xs : List α} (hs : Sl L h v xs) {x : α} (hx : x ∈ xs) : ∃ vs, L.R h vs x := by
 obtain ⟨p, c, _, _, rfl | ⟨b, off, _, hh⟩⟩ := hs
 ·cases hx
 obtain ⟨j, hj⟩ := List.mem_iff_getElem?.1 hx;obtain ⟨vs, _, hr⟩ := hh j x hj;exact ⟨vs, hr⟩
theorem putRow_own1 {α : Type} [Inhabited α] {enc : α → Value} {w : World} {b : Nat} {cur : Array Value} {T : TypeId} {F : Array α} (hb : w.heap[b]? = some (.cells cur T)) (n : Nat) :
  putRow enc (Go.Sort.ahead w n) b 0 F = { w with drawn := w.drawn + n, heap := w.heap.setIfInBounds b (.cells (putCells enc 0 F cur) T) } := by
 have hlt := zcn hb;have hb' : w.heap[b] = .cells cur T := by rw [Array.getElem?_eq_getElem hlt] at hb; simpa using hb
 simp only [putRow, mapBlock, Go.Sort.ahead, World.mk.injEq, and_true, true_and];apply Array.ext_getElem?;intro i;rw [Array.getElem?_modify, Array.getElem?_setIfInBounds]
 by_cases e : b = i
 ·subst e; simp [hlt, hb', onCells]
 ·simp [e]
theorem putCells_take1 {α : Type} [Inhabited α] {enc : α → Value} {F : Array α} {cur : Array Value} (h : F.size ≤ cur.size) : (putCells enc 0 F cur).toList.take F.size = F.toList.map enc := by
 apply List.ext_getElem?;intro i;rw [List.getElem?_take, List.getElem?_map];split
 ·rename_i hi;simp only [putCells, Array.getElem?_toList, Array.getElem?_mapIdx];rw [Array.getElem?_eq_getElem (show i < cur.size by omega), Array.getElem?_eq_getElem hi];simp [hi]
 rename_i hi;rw [List.getElem?_eq_none (by simpa using hi)]; rfl
theorem sort1 {α : Type} [Inhabited α] {L : Lay α} {T : TypeId} {P : Program} {f : FuncId} (enc : α → Value) (hE : ∀ {h vs x}, L.R h vs x → vs = [enc x]) (hz : L.size = 1) (srt : List α → List α) (hp : ∀ l, (srt l).Perm l)
  (hc : ∀ blk off cap (zs : List α) w, Holds enc w blk off zs.toArray → blk < w.heap.size → zs.length < 4611686018427387904 → Calls P f #[.slice (some ⟨blk, off, none⟩) zs.length cap] w fun e w' => e = .returned (.tuple #[]) ∧ ∃ n os, w' = Go.Sort.grow (putRow enc (Go.Sort.ahead w n) blk off (srt zs).toArray) os)
  (hn : ∀ p cap w, Calls P f #[.slice p 0 cap] w fun e w' => e = .returned (.tuple #[]) ∧ w' = w)
  {h0 h : Heap} {w0 w : World} {own : Own} {i : Nat} {v : Value} {xs : List α} {o : List (Nat × Obj)} (st : St h0 w0 h w own) (hO : OSl L T h v xs o) (hi : own[i]? = some o) (hlen : xs.length < 4611686018427387904) :
  Calls P f #[v] w fun e w' => e = .returned (.tuple #[]) ∧ ∃ o' own', own' = own.set i o' ∧ OSl L T h v (srt xs) o' ∧ St h0 w0 h w' own' := by
 obtain ⟨cs, e1, ⟨⟨p, rfl⟩, rfl, rfl⟩ | ⟨b, cap, cur, rfl, rfl, hnc, hcm, hsz, htk⟩⟩ := hO
 ·refine (hn p 0 w).mono ?_;rintro e w' ⟨he, rfl⟩;have e0 : srt [] = [] := (hp []).eq_nil;rw [e0];exact ⟨he, [], _, rfl, OSl.nil0 L T h ⟨p, rfl⟩, st.drop i⟩
 have hb := st.get hi;have hlt := zcn hb;have hcs : cs = xs.map enc := by
  apply List.ext_getElem?;intro j;rw [List.getElem?_map]
  by_cases hj : j < xs.length
  ·have hr := hE (e1.2 j xs[j] (List.getElem?_eq_getElem hj));rw [hz, Nat.mul_one] at hr;have hjc : j < cs.length := by rw [e1.1, hz]; omega
   rw [List.getElem?_eq_getElem hj, List.getElem?_eq_getElem hjc];have h1 := congrArg (·[0]?) hr;simp only [List.getElem?_take, List.getElem?_drop, List.getElem?_cons_zero] at h1;simp only [Nat.zero_lt_one, if_true, Nat.add_zero] at h1;rw [List.getElem?_eq_getElem hjc] at h1;simpa using h1
  ·rw [List.getElem?_eq_none (by rw [e1.1, hz]; omega), List.getElem?_eq_none zD]; rfl
 have hH : Holds enc w b 0 xs.toArray := by
  intro j hj;have hj' : j < xs.length := by simpa using hj
  have h2 : cs[j]? = some (enc xs[j]) := by rw [hcs, List.getElem?_map, List.getElem?_eq_getElem hj']; rfl
  have hcur : cur[j]? = some (enc xs[j]) := by
   rw [← htk, List.getElem?_take] at h2;split at h2
   ·simpa using h2
   ·cases h2
  refine ⟨?_, by simp [World.frozen?, hb]⟩;simp only [World.cell?, hb, Option.isSome_none, Bool.false_eq_true, if_false, Nat.zero_add];rw [hcur, getElem!_pos xs.toArray j (by simpa using hj')];simp
 refine (hc b 0 cap xs w hH hlt hlen).mono ?_;rintro e w' ⟨he, n, os, rfl⟩;have hl : (srt xs).length = xs.length := (hp xs).length_eq;refine ⟨he, [(b, .cells (putCells enc 0 (srt xs).toArray cur) T)], _, rfl, ?_, ?_⟩
 ·have hfc : (srt xs).toArray.size ≤ cur.size := by rw [List.size_toArray, hl, hsz, hz]; omega
  refine ⟨(srt xs).map enc, ⟨by simp [hz], fun j x hj => ?_⟩, .inr ⟨b, cap, _, by rw [hl], rfl, by omega, hcm, by simpa [putCells] using hsz, ?_⟩⟩
  ·have hm : x ∈ xs := (hp xs).mem_iff.1 (List.mem_of_getElem? hj);obtain ⟨q, hq⟩ := List.mem_iff_getElem?.1 hm;have hr := e1.2 q x hq;rw [hE hr] at hr;obtain ⟨h1, h2⟩ := List.getElem?_eq_some_iff.1 hj;have e3 : (((srt xs).map enc).drop (j * L.size)).take L.size = [enc x] := by
    rw [hz, Nat.mul_one, List.drop_eq_getElem_cons (by simpa using h1)];simp [h2]
   rw [e3]; exact hr
  ·have := putCells_take1 (enc := enc) hfc;rw [hz, Nat.mul_one];simpa using this
 ·rw [putRow_own1 hb];exact ((st.set (.cells (putCells enc 0 (srt xs).toArray cur) T) hi).same (w' := { w with drawn := w.drawn + n, heap := w.heap.setIfInBounds b (.cells (putCells enc 0 (srt xs).toArray cur) T) }) rfl rfl rfl rfl (Nat.le_add_right _ _)).grow os
end Go.Pk

namespace Go.Pk
open Go Go.RowKit
section
variable {α : Type} [DecidableEq α]
structure TLt (lt : α → α → Bool) : Prop where
 irrefl : ∀ a, lt a a = false
 trans : ∀ a b c, lt a b = true → lt b c = true → lt a c = true
 total : ∀ a b, a ≠ b → lt a b = true ∨ lt b a = true
def insBy (lt : α → α → Bool) (l : List α) (x : α) : List α := if (l.dropWhile fun a => lt a x).head? = some x then l else (l.takeWhile fun a => lt a x) ++ [x] ++ (l.dropWhile fun a => lt a x)
def zjm (lt : α → α → Bool) (l : List α) : List α := l.foldl (insBy lt) []
variable {lt : α → α → Bool}
theorem setL_snoc (l : List α) (x : α) : zjm lt (l ++ [x]) = insBy lt (zjm lt l) x := by simp [zjm]
omit [DecidableEq α] in
theorem TLt.asymm (T : TLt lt) {a b : α} (h : lt a b = true) : lt b a = false := by
 cases e : lt b a with
 | false => rfl
 | true => have := T.trans _ _ _ h e; rw [T.irrefl] at this; cases this
theorem insBy_mem {l : List α} {x y : α} : y ∈ insBy lt l x ↔ y ∈ l ∨ y = x := by
 unfold insBy;split
 ·rename_i h;have : x ∈ l.dropWhile fun a => lt a x := List.mem_of_mem_head? h;have hx : x ∈ l := (List.dropWhile_sublist _).subset this;constructor
  ·exact .inl
  ·rintro (h | rfl)
   ·exact h
   ·exact hx
 have e : l = (l.takeWhile fun a => lt a x) ++ (l.dropWhile fun a => lt a x) := (List.takeWhile_append_dropWhile).symm;have : y ∈ l ↔ y ∈ (l.takeWhile fun a => lt a x) ∨ y ∈ (l.dropWhile fun a => lt a x) := by
  rw [← List.mem_append, ← e]
 rw [this];simp only [List.mem_append, List.mem_singleton];constructor
 ·rintro ((h | h) | h)
  ·exact .inl (.inl h)
  ·exact .inr h
  ·exact .inl (.inr h)
 rintro ((h | h) | h)
 ·exact .inl (.inl h)
 ·exact .inr h
 exact .inl (.inr h)
theorem insBy_sorted (T : TLt lt) {l : List α} {x : α} (hs : l.Pairwise fun a b => lt a b = true) : (insBy lt l x).Pairwise fun a b => lt a b = true := by
 unfold insBy;split
 ·exact hs
 rename_i hne;have e : l = (l.takeWhile fun a => lt a x) ++ (l.dropWhile fun a => lt a x) := (List.takeWhile_append_dropWhile).symm;have hs' := hs;rw [e] at hs';obtain ⟨s1, s2, s3⟩ := List.pairwise_append.1 hs';have ht : ∀ a ∈ l.takeWhile (fun a => lt a x), lt a x = true := by
  intro a ha;have := List.all_takeWhile (l := l) (p := fun a => lt a x);exact List.all_eq_true.1 this a ha
 have hd : ∀ b ∈ l.dropWhile (fun a => lt a x), lt x b = true := by
  cases hD : l.dropWhile (fun a => lt a x) with
  | nil => simp
  | cons c D =>
   have hc : ¬ lt c x = true := by
    have := List.head?_dropWhile_not (fun a => lt a x) l;rw [hD] at this; simpa using this
   have hcx : c ≠ x := by
    intro q; rw [hD, q] at hne; exact hne rfl
   have h1 : lt x c = true := (T.total x c (Ne.symm hcx)).resolve_right hc;intro b hb
   rcases List.mem_cons.1 hb with rfl | hb
   ·exact h1
   ·rw [hD] at s2;exact T.trans _ _ _ h1 ((List.pairwise_cons.1 s2).1 b hb)
 rw [List.append_assoc];refine List.pairwise_append.2 ⟨s1, List.pairwise_append.2 ⟨by simp, s2, ?_⟩, ?_⟩
 ·intro a ha b hb;simp at ha; subst ha;exact hd b hb
 intro a ha b hb
 rcases List.mem_append.1 hb with hb | hb
 ·simp at hb; subst hb; exact ht a ha
 exact s3 a ha b hb
theorem zfu (T : TLt lt) (l : List α) : (zjm lt l).Pairwise fun a b => lt a b = true := by
 induction l using zes with
 | nil => exact List.Pairwise.nil
 | snoc l d ih => rw [setL_snoc]; exact insBy_sorted T ih
theorem ziW {l : List α} {y : α} : y ∈ zjm lt l ↔ y ∈ l := by
 induction l using zes with
 | nil => simp [zjm]
 | snoc l d ih => rw [setL_snoc, insBy_mem, ih]; simp
omit [DecidableEq α] in
theorem strict_eq (T : TLt lt) {a b : List α} (ha : a.Pairwise fun x y => lt x y = true) (hb : b.Pairwise fun x y => lt x y = true) (h : ∀ x, x ∈ a ↔ x ∈ b) : a = b := by
 have na : a.Nodup := ha.imp (fun h e => by subst e; rw [T.irrefl] at h; cases h);have nb : b.Nodup := hb.imp (fun h e => by subst e; rw [T.irrefl] at h; cases h);refine List.Perm.eq_of_pairwise (le := fun x y => lt x y = true) (fun x y _ _ h1 h2 => by have := T.asymm h1; rw [h2] at this; cases this) ha hb ((List.perm_ext_iff_of_nodup na nb).2 h)
theorem setL_len (T : TLt lt) (l : List α) : (zjm lt l).length ≤ l.length := by
 induction l using zes with
 | nil => simp [zjm]
 | snoc l d ih =>
  rw [setL_snoc, insBy];split
  ·simp; omega
  ·have e := congrArg List.length (List.takeWhile_append_dropWhile (p := fun a => lt a d) (l := zjm lt l));simp only [List.length_append] at e ⊢;simp only [List.length_cons, List.length_nil]; omega
theorem compactL_mem {l : List α} : ∀ {y : α}, y ∈ zcK l ↔ y ∈ l := by
 induction l using zes with
 | nil => simp [zcK]
 | snoc l d ih =>
  intro y;rw [zhj, zhq];split
  ·rename_i h;rw [ih];have : d ∈ zcK l := List.mem_of_getLast? h;rw [ih] at this;constructor
   ·intro h; simp [h]
   ·intro h
    rcases List.mem_append.1 h with h | h
    ·exact h
    ·simp at h; subst h; exact this
  ·simp [ih]
theorem compactL_sorted (T : TLt lt) {l : List α} (hs : l.Pairwise fun a b => lt b a = false) : (zcK l).Pairwise fun a b => lt a b = true := by
 induction l using zes with
 | nil => exact List.Pairwise.nil
 | snoc l d ih =>
  obtain ⟨s1, _, s3⟩ := List.pairwise_append.1 hs;rw [zhj, zhq];split
  ·exact ih s1
  ·rename_i hne;refine List.pairwise_append.2 ⟨ih s1, by simp, fun a ha b hb => ?_⟩;simp at hb; subst hb;have hal : a ∈ l := compactL_mem.1 ha;have h1 := s3 a hal b (by simp)
   by_cases e : a = b
   ·exfalso;subst e;rw [compactL_last] at hne;cases hL : l.getLast? with
    | none => rw [List.getLast?_eq_none_iff] at hL; subst hL; cases hal
    | some z =>
     rw [hL] at hne;have hz : z ∈ l := List.mem_of_getLast? hL;have h2 := s3 z hz a (by simp)
     -- a comes ahead of z, or is it
     have h3 : lt z a = false := by
      obtain ⟨i, hi⟩ := List.mem_iff_getElem?.1 hal;rw [List.getLast?_eq_getElem?] at hL;obtain ⟨i1, i2⟩ := List.getElem?_eq_some_iff.1 hi;obtain ⟨z1, z2⟩ := List.getElem?_eq_some_iff.1 hL
      rcases Nat.lt_or_ge i (l.length - 1) with h | h
      ·have := List.pairwise_iff_getElem.1 s1 i (l.length - 1) i1 z1 h;rw [i2, z2] at this; exact this
      ·have : i = l.length - 1 := by omega
       subst this;rw [i2] at z2; subst z2; exact T.irrefl _
     by_cases e2 : z = a
     ·exact hne (by rw [e2])
     ·rcases T.total z a e2 with q | q
      ·rw [q] at h3; cases h3
      ·rw [q] at h2; cases h2
   ·rcases T.total a b e with q | q
    ·exact q
    ·rw [q] at h1; cases h1
theorem setOf_compact (T : TLt lt) {xs ys : List α} (hp : ys.Perm xs) (hs : ys.Pairwise fun a b => lt b a = false) : zcK ys = zjm lt xs :=
 strict_eq T (compactL_sorted T hs) (zfu T xs) (fun x => by rw [compactL_mem, ziW]; exact hp.mem_iff)
end
theorem sLt_eq (a b : Str) : sLt a b = decide (a < b) := Go.Proofs.bytesLess_eq a b
theorem zdJ : TLt sLt := by
 refine ⟨fun a => ?_, fun a b c => ?_, fun a b h => ?_⟩
 ·rw [sLt_eq]; simp [List.lt_irrefl]
 ·rw [sLt_eq, sLt_eq, sLt_eq]; simp only [decide_eq_true_eq]; exact fun h1 h2 => List.lt_trans h1 h2
 rw [sLt_eq, sLt_eq]; simp only [decide_eq_true_eq]
 by_cases h1 : a < b
 ·exact .inl h1
 by_cases h2 : b < a
 ·exact .inr h2
 exact absurd (List.le_antisymm (List.not_lt.1 h2) (List.not_lt.1 h1)) h
def headsN (t : Text) (x : Lexicon) : List Head := if zan t x = 0 then zjm headLt (zju t x) else []
def zgT (t : Text) (x : Lexicon) (hd : Head) : List Place := (zam t).filter fun p => decide (zbO t x p = hd)
def zeT (t : Text) (x : Lexicon) (hd : Head) : Int := if zan t x = 0 then (if zfN hd = true then (if zgT t x hd = [] then 6 else 0) else 2) else zan t x
def underR (t : Text) (x : Lexicon) (hd : Head) : List Place := if zeT t x hd = 0 then zgT t x hd else []
def zfi (t : Text) (x : Lexicon) (hd : Head) : List Entry := if zeT t x hd = 0 then (zaB t x).filter fun y => !decide (y.head ≠ hd) else []
def formsR (t : Text) (x : Lexicon) (hd : Head) : List Str := if zeT t x hd = 0 then zjm sLt ((zgT t x hd).map (zax t)) else []
theorem under_filter (t : Text) (x : Lexicon) (hd : Head) : ((zaB t x).filter fun y => !decide (y.head ≠ hd)) = (zgT t x hd).map (zdN t x) := by
 rw [zaB, zgT, List.filter_map];congr 1;apply List.filter_congr;intro p _;simp only [zdN, Function.comp]
 by_cases e : zbO t x p = hd <;> simp [e]
theorem entries_len {t : Text} (ht : zaM t = true) (x : Lexicon) : (zaB t x).length ≤ 600 := by rw [zaB, List.length_map]; exact zeV ht
theorem under_check {t : Text} {x : Lexicon} {hd : Head} (h : zeT t x hd = 0) : zan t x = 0 := by
 unfold zeT at h;split at h
 ·assumption
 rename_i q; exact absurd h q
theorem setOf_sort (l : List Str) : zcK (l.mergeSort fun a b => decide (a ≤ b)) = zjm sLt l := by
 refine setOf_compact zdJ (List.mergeSort_perm _ _) ?_;have h := List.pairwise_mergeSort (le := fun a b : Str => decide (a ≤ b)) (by intro a b c h1 h2; simp only [decide_eq_true_eq] at *; exact List.le_trans h1 h2) (by intro a b; simp only [Bool.or_eq_true, decide_eq_true_eq]; exact List.le_total a b) l;refine h.imp fun h => ?_;rw [sLt_eq]; simp only [decide_eq_true_eq] at h; simpa using h
end Go.Pk

namespace Go.Pk
open Go Go.RowKit
def zcB (es : List Entry) (w : Str) : Option Head := (es.find? fun y => decide (y.word = w)).map (·.head)
def homAt (es : List Entry) (y : Entry) : List Str := match zcB es y.word with
 | some h => if h ≠ y.head then [y.word] else []
 | none => []
def zhB (es : List Entry) : Nat → List Str
 | 0 => []
 | n + 1 => zhB es n ++ (match es[n]? with
  | some y => homAt (es.take n) y
  | none => [])
theorem homsN_succ {es : List Entry} {n : Nat} {y : Entry} (h : es[n]? = some y) : zhB es (n + 1) = zhB es n ++ homAt (es.take n) y := by simp only [zhB, h]
theorem zhS (es : List Entry) : ∀ n, (zhB es n).length ≤ n
 | 0 => by simp [zhB]
 | n + 1 => by
  have ih := zhS es n;simp only [zhB, List.length_append];split
  ·unfold homAt;split
   ·split <;> simp <;> omega
   ·simp; omega
  ·simp; omega
theorem zjv (es : List Entry) (y : Entry) (w : Str) : zcB (es ++ [y]) w = match zcB es w with
  | some h => some h
  | none => if y.word = w then some y.head else none := by
 unfold zcB;rw [List.find?_append];cases h : es.find? fun y => decide (y.word = w) with
 | some z => simp
 | none =>
  by_cases e : y.word = w <;> simp [e]
theorem hdFirst_put {es : List Entry} {n : Nat} {y : Entry} (h : es[n]? = some y) {m : List (Str × Head)} (hm : ∀ w, zaV m w = zcB (es.take n) w) (hc : ∀ z, zcB (es.take n) y.word = some z → z = y.head) : ∀ w, zaV (zdQ m y.word y.head) w = zcB (es.take (n + 1)) w := by
 intro w;rw [zeD, zbf h, zjv, hm]
 by_cases e : w = y.word
 ·subst e;simp only [if_true];cases q : zcB (es.take n) y.word with
  | some z => rw [hc z q]
  | none => rfl
 rw [if_neg e];cases q : zcB (es.take n) w with
 | some z => rfl
 | none => simp only []; rw [if_neg (fun q => e q.symm)]
theorem hdFirst_keep {es : List Entry} {n : Nat} {y : Entry} (h : es[n]? = some y) {m : List (Str × Head)} (hm : ∀ w, zaV m w = zcB (es.take n) w) {z : Head} (hc : zcB (es.take n) y.word = some z) : ∀ w, zaV m w = zcB (es.take (n + 1)) w := by
 intro w;rw [zbf h, zjv, hm];cases q : zcB (es.take n) w with
 | some z => rfl
 | none =>
  simp only []
  by_cases e : y.word = w
  ·subst e; rw [hc] at q; cases q
  ·rw [if_neg e]
theorem hdFirst_some {es : List Entry} {n : Nat} {w : Str} {h : Head} (q : zcB (es.take n) w = some h) : ∃ j b, j < n ∧ es[j]? = some b ∧ b.word = w ∧ b.head = h := by
 unfold zcB at q;obtain ⟨b, hb, rfl⟩ := Option.map_eq_some_iff.1 q;have h1 := List.find?_some hb;have h2 := List.mem_of_find?_eq_some hb;obtain ⟨j, hj⟩ := List.mem_iff_getElem?.1 h2;rw [List.getElem?_take] at hj;split at hj
 ·exact ⟨j, b, by assumption, hj, by simpa using h1, rfl⟩
 cases hj
theorem hdFirst_is {es : List Entry} {n j : Nat} {b : Entry} (hj : j < n) (hb : es[j]? = some b) : ∃ h, zcB (es.take n) b.word = some h := by
 cases q : zcB (es.take n) b.word with
 | some h => exact ⟨h, rfl⟩
 | none =>
  exfalso;unfold zcB at q;rw [Option.map_eq_none_iff, List.find?_eq_none] at q;have := q b (List.mem_of_getElem? (by rw [List.getElem?_take, if_pos hj]; exact hb));simp at this
theorem hdFirst_take {es : List Entry} {n m : Nat} {w : Str} {h : Head} (hnm : n ≤ m) (q : zcB (es.take n) w = some h) : zcB (es.take m) w = some h := by
 have e : es.take m = es.take n ++ (es.take m).drop n := by
  conv => lhs; rw [← List.take_append_drop n (es.take m), List.take_take, Nat.min_eq_left hnm]
 unfold zcB at q ⊢;rw [e, List.find?_append];cases f : (es.take n).find? fun y => decide (y.word = w) with
 | some z => rw [f] at q; simpa using q
 | none => rw [f] at q; cases q
def pairAt (es : List Entry) (i j : Nat) : List Str := match es[i]?, es[j]? with
 | some a, some b => if a.word = b.word ∧ a.head ≠ b.head then [a.word] else []
 | _, _ => []
def pairRow (es : List Entry) (i : Nat) : List Str := (List.range i).flatMap (pairAt es i)
def pairsN (es : List Entry) (n : Nat) : List Str := (List.range n).flatMap (pairRow es)
theorem pairAt_some {es : List Entry} {i j : Nat} {a b : Entry} (ha : es[i]? = some a) (hb : es[j]? = some b) : pairAt es i j = if a.word = b.word ∧ a.head ≠ b.head then [a.word] else [] := by simp only [pairAt, ha, hb]
theorem mem_pairs {es : List Entry} {n : Nat} {w : Str} : w ∈ pairsN es n ↔ ∃ i j a b, i < n ∧ j < i ∧ es[i]? = some a ∧ es[j]? = some b ∧ a.word = w ∧ b.word = w ∧ a.head ≠ b.head := by
 simp only [pairsN, pairRow, List.mem_flatMap, List.mem_range];constructor
 ·rintro ⟨i, hi, j, hj, hw⟩;unfold pairAt at hw;split at hw
  ·rename_i a b ha hb;split at hw
   ·rename_i hc;simp only [List.mem_singleton] at hw;exact ⟨i, j, a, b, hi, hj, ha, hb, hw.symm, by rw [← hc.1, hw], hc.2⟩
   ·cases hw
  ·cases hw
 rintro ⟨i, j, a, b, hi, hj, ha, hb, h1, h2, h3⟩;refine ⟨i, hi, j, hj, ?_⟩;rw [pairAt_some ha hb, if_pos ⟨h1.trans h2.symm, h3⟩, h1];simp
theorem mem_homs {es : List Entry} {w : Str} : ∀ {n : Nat}, w ∈ zhB es n ↔ ∃ i a h, i < n ∧ es[i]? = some a ∧ a.word = w ∧ zcB (es.take i) w = some h ∧ h ≠ a.head
 | 0 => by simp [zhB]
 | n + 1 => by
  rw [zhB, List.mem_append, mem_homs (n := n)];constructor
  ·rintro (⟨i, a, h, hi, q⟩ | hw)
   ·exact ⟨i, a, h, by omega, q⟩
   ·split at hw
    ·rename_i y hy;unfold homAt at hw;split at hw
     ·rename_i h hh;split at hw
      ·rename_i hne;simp only [List.mem_singleton] at hw;exact ⟨n, y, h, by omega, hy, hw.symm, by rw [hw]; exact hh, hne⟩
      ·cases hw
     ·cases hw
    ·cases hw
  ·rintro ⟨i, a, h, hi, ha, h1, h2, h3⟩
   rcases Nat.lt_or_ge i n with q | q
   ·exact .inl ⟨i, a, h, q, ha, h1, h2, h3⟩
   ·obtain rfl : i = n := by omega
    right;subst h1;simp only [ha, homAt, h2, if_pos h3];simp
theorem homs_pairs (es : List Entry) : zjm sLt (zhB es es.length) = zjm sLt (pairsN es es.length) := by
 refine strict_eq zdJ (zfu zdJ _) (zfu zdJ _) fun w => ?_;rw [ziW, ziW, mem_homs, mem_pairs];constructor
 ·rintro ⟨i, a, h, hi, ha, h1, h2, h3⟩;obtain ⟨j, b, hj, hb, e1, e2⟩ := hdFirst_some h2;exact ⟨i, j, a, b, hi, hj, ha, hb, h1, e1, by rw [e2]; exact Ne.symm h3⟩
 rintro ⟨i, j, a, b, hi, hj, ha, hb, h1, h2, h3⟩;obtain ⟨h0, q0⟩ := hdFirst_is (es := es) hj hb;rw [h2] at q0
 by_cases e : h0 = a.head
 ·cases q : zcB (es.take j) w with
  | some h4 =>
   have := hdFirst_take (Nat.le_of_lt hj) q;rw [q0] at this;have e4 : h0 = h4 := Option.some.inj this;exact ⟨j, b, h4, by omega, hb, h2, q, by rw [← e4, e]; exact h3⟩
  | none =>
   exfalso;have := zjv (es.take j) b w;rw [q] at this;simp only [if_pos h2] at this;rw [← zbf hb] at this;have := hdFirst_take (show j + 1 ≤ i by omega) this;rw [q0] at this;exact h3 (by rw [← e]; exact Option.some.inj this)
 exact ⟨i, a, h0, hi, ha, h1, q0, e⟩
def zgu (t : Text) (x : Lexicon) : List Str := if zan t x = 0 then zjm sLt (zhB (zaB t x) (zaB t x).length) else []
def zgz (x : Lexicon) (n : Int) : Lexicon := { x with decisions := x.decisions.filter fun d => decide (d.number ≠ n) }
theorem lexiconB_of {t : Text} {x y : Lexicon} (h : zan t x = 0) (hr : y.rules = x.rules) (hd : ∀ d ∈ y.decisions, zaf t d = true) (hl : y.decisions.length ≤ 20) (hn : (y.decisions.map (·.number)).Nodup) : zan t y = 0 := by
 obtain ⟨h1, h2⟩ := zhY h;have h3 : zco t y = true := by
  simp only [zco, Bool.and_eq_true, decide_eq_true_eq, List.all_eq_true] at h2 ⊢;exact ⟨⟨⟨⟨by rw [hr]; exact h2.1.1.1.1, hl⟩, by rw [hr]; exact h2.1.1.2⟩, hd⟩, hn⟩
 simp [zan, h1, h3]
theorem zeR {t : Text} {x : Lexicon} (h : zan t x = 0) (n : Int) : zan t (zgz x n) = 0 := by
 refine lexiconB_of h rfl (fun d hd => zho h d (List.mem_filter.1 hd).1) ?_ ?_
 ·exact Nat.le_trans (List.length_filter_le _ _) (zci h)
 exact (List.filter_sublist.map _).nodup (zdH h).1
theorem zfZ {t : Text} {x : Lexicon} (h : zan t x = 0) : x.rules.length ≤ 12 := by
 have h1 := (zhY h).2;simp only [zco, Bool.and_eq_true, decide_eq_true_eq] at h1;exact h1.1.1.1.1
def idleB (t : Text) (x : Lexicon) (n : Int) : Bool := decide ((zgz x n).decisions.length < x.decisions.length) && decide (zju t (zgz x n) = zju t x)
def natI (k : Nat) : Int := (k : Int) + 1
def idleK (t : Text) (x : Lexicon) (k : Nat) : List Int := ((List.range k).map natI).filter (idleB t x)
def idleR (t : Text) (x : Lexicon) : List Int := idleK t x 999
def idleN (t : Text) (x : Lexicon) : List Int := if zan t x = 0 then idleR t x else []
theorem idleK_len (t : Text) (x : Lexicon) (k : Nat) : (idleK t x k).length ≤ k := by
 have := List.length_filter_le (idleB t x) ((List.range k).map natI);simpa [idleK] using this
theorem entries_heads {t : Text} {x y : Lexicon} : zaB t y = zaB t x ↔ zju t y = zju t x := by
 constructor
 ·intro h;have := congrArg (fun l : List Entry => l.map (·.head)) h;simpa [zaB, zju, List.map_map, Function.comp_def, zdN] using this
 intro h;simp only [zju, zaB] at h ⊢;rw [List.map_inj_left] at h ⊢;intro p hp;rw [zdN, zdN, h p hp]
theorem without_at {ds : List Decision} {i : Nat} {d : Decision} (hn : (ds.map (·.number)).Nodup) (hd : ds[i]? = some d) : ds.take i ++ ds.drop (i + 1) = ds.filter fun e => decide (e.number ≠ d.number) := by
 have h1 : ds = ds.take i ++ d :: ds.drop (i + 1) := by rw [← zgY hd, List.take_append_drop]
 have hn' := hn;rw [h1, List.map_append, List.map_cons, List.nodup_append] at hn';obtain ⟨_, n2, n3⟩ := hn';rw [List.nodup_cons] at n2;have e1 : (ds.take i).filter (fun e => decide (e.number ≠ d.number)) = ds.take i := by
  rw [List.filter_eq_self];intro e he;simpa using n3 _ (List.mem_map_of_mem he) _ (List.mem_cons_self ..)
 have e2 : (ds.drop (i + 1)).filter (fun e => decide (e.number ≠ d.number)) = ds.drop (i + 1) := by
  rw [List.filter_eq_self];intro e he;have : ¬ e.number = d.number := fun q => n2.1 (q ▸ List.mem_map_of_mem he);simpa using this
 conv => rhs; rw [h1]
 rw [List.filter_append, List.filter_cons, if_neg (by simp), e1, e2]
def idleP (t : Text) (x : Lexicon) (d : Decision) : Bool := decide (zaB t (zgz x d.number) = zaB t x)
theorem idle_eq {t : Text} {x : Lexicon} (h : zan t x = 0) : ((x.decisions.filter (idleP t x)).map (·.number)).mergeSort (fun a b => decide (a ≤ b)) = idleR t x := by
 have hx := zdH h;have hs : (idleR t x).Pairwise fun a b => a < b := by
  refine List.Pairwise.filter _ ?_;rw [List.pairwise_map];refine List.pairwise_lt_range.imp fun h => ?_;simp only [natI]; omega
 have hnd : (idleR t x).Nodup := hs.imp fun h => by omega
 have hn1 : ((x.decisions.filter (idleP t x)).map (·.number)).Nodup := (List.filter_sublist.map _).nodup hx.1;have hperm : ((x.decisions.filter (idleP t x)).map (·.number)).Perm (idleR t x) := by
  rw [List.perm_ext_iff_of_nodup hn1 hnd];intro n;simp only [idleR, idleK, List.mem_filter, List.mem_map, List.mem_range, idleB, Bool.and_eq_true, decide_eq_true_eq, idleP];constructor
  ·rintro ⟨d, ⟨h1, h2⟩, rfl⟩;obtain ⟨h3, h4, _⟩ := hx.2 d h1;refine ⟨⟨(d.number - 1).toNat, by omega, by simp only [natI]; omega⟩, ?_, entries_heads.1 h2⟩;have h5 : (zgz x d.number).decisions.Sublist x.decisions := List.filter_sublist;refine Nat.lt_of_le_of_ne h5.length_le fun e => ?_;have h6 := h5.eq_of_length e;have h7 : d ∈ (zgz x d.number).decisions := by rw [h6]; exact h1
   simpa using (List.mem_filter.1 h7).2
  ·rintro ⟨_, h1, h2⟩
   rcases Classical.em (∃ d ∈ x.decisions, d.number = n) with ⟨d, hd, e⟩ | hno
   ·exact ⟨d, ⟨hd, by rw [e]; exact entries_heads.2 h2⟩, e⟩
   ·exfalso;have : (zgz x n).decisions = x.decisions := by
     simp only [zgz];rw [List.filter_eq_self];intro d hd;have : ¬ d.number = n := fun e => hno ⟨d, hd, e⟩;simpa using this
    rw [this] at h1; omega
 refine List.Perm.eq_of_pairwise (le := fun a b : Int => a ≤ b) (fun a b _ _ h1 h2 => by omega) ?_ (hs.imp (fun h => by omega)) ((List.mergeSort_perm _ _).trans hperm);have h := List.pairwise_mergeSort (le := fun a b : Int => decide (a ≤ b)) (by intro a b c h1 h2; simp at *; omega) (by intro a b; simp; omega) ((x.decisions.filter (idleP t x)).map (·.number));exact h.imp (fun h => by simpa using h)
def moreX (x : Lexicon) (d : Decision) : Lexicon := { x with decisions := x.decisions ++ [d] }
def ascD (l : List Decision) : List Decision := l.mergeSort fun a b => decide (a.number ≤ b.number)
def zgI (x : Lexicon) (d : Decision) : Lexicon := { x with decisions := ascD (x.decisions ++ [d]) }
def zhP (t : Text) (x : Lexicon) (d : Decision) : Int := if zan t x ≠ 0 then zan t x else if x.decisions.length = 20 then 9 else if zan t (moreX x d) ≠ 0 then 41 else 0
def zLexicon : Lexicon := ⟨[], []⟩
def zih (t : Text) (x : Lexicon) (d : Decision) : Lexicon := if zhP t x d = 0 then zgI x d else zLexicon
theorem ascD_perm (l : List Decision) : (ascD l).Perm l := List.mergeSort_perm _ _
theorem ascD_sorted (l : List Decision) : (ascD l).Pairwise fun a b => a.number ≤ b.number := by
 have h := List.pairwise_mergeSort (le := fun a b : Decision => decide (a.number ≤ b.number)) (by intro a b c h1 h2; simp at *; omega) (by intro a b; simp; omega) l;exact h.imp (fun h => by simpa using h)
theorem ascD_eq {l ys : List Decision} (hp : ys.Perm l) (hs : ys.Pairwise fun a b => a.number ≤ b.number) (hn : (l.map (·.number)).Nodup) : ys = ascD l := by
 refine List.Perm.eq_of_pairwise (le := fun a b : Decision => a.number ≤ b.number) ?_ hs (ascD_sorted l) (hp.trans (ascD_perm l).symm);intro a b ha hb h1 h2;exact nodup_key hn (hp.mem_iff.1 ha) ((ascD_perm l).mem_iff.1 hb) zD
theorem addE_zero {t : Text} {x : Lexicon} {d : Decision} (h : zhP t x d = 0) : zan t x = 0 ∧ ¬ x.decisions.length = 20 ∧ zan t (moreX x d) = 0 := by
 unfold zhP at h;split at h
 ·rename_i q; exact absurd h q
 rename_i q;split at h
 ·cases h
 rename_i q2;split at h
 ·cases h
 rename_i q3;exact ⟨by simpa using q, q2, by simpa using q3⟩
theorem addX_check {t : Text} {x : Lexicon} {d : Decision} (h : zan t (moreX x d) = 0) : zan t (zgI x d) = 0 := by
 have hp := ascD_perm (x.decisions ++ [d]);refine lexiconB_of h rfl (fun e he => zho h e (hp.mem_iff.1 he)) ?_ ?_
 ·have := zci h;rw [show (zgI x d).decisions.length = (moreX x d).decisions.length from hp.length_eq]; exact this
 exact (hp.map _).nodup_iff.2 (zdH h).1
def changesP (t : Text) (x : Lexicon) (d : Decision) : List Place := (zam t).filter fun p => decide (zbO t (zgI x d) p ≠ zbO t x p)
def zhr (t : Text) (x : Lexicon) (d : Decision) : List Place := if zhP t x d = 0 then changesP t x d else []
theorem hom_keep {es : List Entry} {n : Nat} {y : Entry} (h : es[n]? = some y) {m : List (Str × Head)} (hm : ∀ w, zaV m w = zcB (es.take n) w) (h1 : (zaV m y.word).isSome = true) : ∀ w, zaV m w = zcB (es.take (n + 1)) w := by
 obtain ⟨z, hz⟩ := Option.isSome_iff_exists.1 h1;exact hdFirst_keep h hm ((hm _).symm.trans hz)
theorem hom_put {es : List Entry} {n : Nat} {y : Entry} (h : es[n]? = some y) {m : List (Str × Head)} (hm : ∀ w, zaV m w = zcB (es.take n) w) (h1 : (zaV m y.word).isSome = true → (zaV m y.word).getD zek = y.head) : ∀ w, zaV (zdQ m y.word y.head) w = zcB (es.take (n + 1)) w := by
 refine hdFirst_put h hm fun z hz => ?_;rw [← hm] at hz;rw [hz] at h1;exact h1 rfl
theorem homAt_yes {es : List Entry} {y : Entry} {m : List (Str × Head)} (hm : ∀ w, zaV m w = zcB es w) (h1 : (zaV m y.word).isSome = true) (h2 : (zaV m y.word).getD zek ≠ y.head) : homAt es y = [y.word] := by
 obtain ⟨z, hz⟩ := Option.isSome_iff_exists.1 h1;rw [hz] at h2;rw [hm] at hz;simp only [homAt, hz];exact if_pos h2
theorem homAt_no {es : List Entry} {y : Entry} {m : List (Str × Head)} (hm : ∀ w, zaV m w = zcB es w) (h1 : (zaV m y.word).isSome = true → (zaV m y.word).getD zek = y.head) : homAt es y = [] := by
 unfold homAt;rw [← hm];cases hz : zaV m y.word with
 | none => rfl
 | some z =>
  rw [hz] at h1;simp only [];exact if_neg (fun q => q (h1 rfl))
theorem entry_at {t : Text} {x : Lexicon} {i : Nat} {y : Entry} (h : (zaB t x)[i]? = some y) : ∃ p, (zam t)[i]? = some p ∧ y = zdN t x p := by
 rw [zaB, List.getElem?_map] at h;obtain ⟨p, hp, rfl⟩ := Option.map_eq_some_iff.1 h;exact ⟨p, hp, rfl⟩
theorem change_at {t : Text} {x x' : Lexicon} {i : Nat} {y z : Entry} (hy : (zaB t x')[i]? = some y) (hz : (zaB t x)[i]? = some z) : ∃ p, (zam t)[i]? = some p ∧ y.at_ = p ∧ (y = z ↔ zbO t x' p = zbO t x p) := by
 obtain ⟨p, hp, rfl⟩ := entry_at hy;obtain ⟨q, hq, rfl⟩ := entry_at hz;rw [hp] at hq; cases hq;exact ⟨p, hp, rfl, by simp [zdN]⟩
theorem zib (t : Text) (x : Lexicon) : (zaB t x).length = (zam t).length := by rw [zaB, List.length_map]
theorem addE_bad {t : Text} {x : Lexicon} {d : Decision} (h : ¬ zan t x = 0) : zhP t x d = zan t x ∧ zih t x d = zLexicon := by
 have e : zhP t x d = zan t x := if_pos h;exact ⟨e, by rw [zih, e]; exact if_neg h⟩
theorem addE_full {t : Text} {x : Lexicon} {d : Decision} (h : zan t x = 0) (h2 : x.decisions.length = 20) : zhP t x d = 9 ∧ zih t x d = zLexicon := by
 have e : zhP t x d = 9 := by rw [zhP, if_neg (fun q => q h), if_pos h2]
 exact ⟨e, by rw [zih, e]; rfl⟩
theorem addE_err {t : Text} {x : Lexicon} {d : Decision} (h : zan t x = 0) (h2 : ¬ x.decisions.length = 20) (h3 : ¬ zan t (moreX x d) = 0) : zhP t x d = 41 ∧ zih t x d = zLexicon := by
 have e : zhP t x d = 41 := by rw [zhP, if_neg (fun q => q h), if_neg h2, if_pos h3]
 exact ⟨e, by rw [zih, e]; rfl⟩
theorem addE_ok {t : Text} {x : Lexicon} {d : Decision} (h : zan t x = 0) (h2 : ¬ x.decisions.length = 20) (h3 : zan t (moreX x d) = 0) : zhP t x d = 0 ∧ zih t x d = zgI x d := by
 have e : zhP t x d = 0 := by rw [zhP, if_neg (fun q => q h), if_neg h2, if_neg (fun q => q h3)]
 exact ⟨e, by rw [zih, e]; rfl⟩
end Go.Pk

namespace Go.Pk
open Go Go.RowKit
def insK (ds : List Decision) (i k : Nat) (y : Decision) : List Decision := ds.take k ++ y :: ((ds.take i).drop k ++ ds.drop (i + 1))
def sortedTo (ds : List Decision) (i : Nat) : Prop := (ds.take i).Pairwise fun a b => a.number ≤ b.number
end Go.Pk

namespace Go.Pk
open Go Go.RowKit
def winV (x : Lexicon) (p : Place) (wd : Str) : Decision :=
 if (zaQ ((x.decisions.filter (zdd x)).filter fun d => zel d p wd)).number = 0 then { zcm with to := ⟨((zcz x.rules 4 wd).getLast?).getD [], 0⟩ } else zaQ ((x.decisions.filter (zdd x)).filter fun d => zel d p wd)
theorem standM_perm (x : Lexicon) : ((zcL x).map (·.2)).Perm (x.decisions.filter (zdd x)) := by
 have : (zcL x).map (·.2) = (zdc x).filter (zdd x) := by simp [zcL, zfw, List.map_map, Function.comp_def]
 rw [this];exact (zdB x).filter _
theorem winV_eq {x : Lexicon} (h : OkD x) : zcQ x = winV x := by
 funext p wd;have hp : (conD x p wd).Perm ((x.decisions.filter (zdd x)).filter fun d => zel d p wd) := (standM_perm x).filter _;have e : zaQ (conD x p wd) = zaQ ((x.decisions.filter (zdd x)).filter fun d => zel d p wd) := by
  refine bestOf_perm hp ?_ ?_
  ·intro y hy;exact (h.2 _ (List.mem_filter.1 (List.mem_filter.1 hy).1).1).1
  ·exact ((List.filter_sublist.trans List.filter_sublist).map _).nodup h.1
 rw [zcQ, winV, e]
def headV (t : Text) (x : Lexicon) (p : Place) : Head := (winV x p (zax t p)).to
theorem headV_eq {t : Text} {x : Lexicon} (h : OkD x) : zbO t x = headV t x := by
 funext p;rw [zbO, headV, winV_eq h]
def entryV (t : Text) (x : Lexicon) (p : Place) : Entry := ⟨p, zax t p, headV t x p⟩
def headsV (t : Text) (x : Lexicon) : List Head := (zam t).map (headV t x)
def entriesV (t : Text) (x : Lexicon) : List Entry := (zam t).map (entryV t x)
theorem headsV_eq {t : Text} {x : Lexicon} (h : OkD x) : zju t x = headsV t x := by rw [zju, headsV, headV_eq h]
theorem entriesV_eq {t : Text} {x : Lexicon} (h : OkD x) : zaB t x = entriesV t x := by
 rw [zaB, entriesV];refine List.map_congr_left fun p _ => ?_;rw [zdN, entryV, headV_eq h]
def underV (t : Text) (x : Lexicon) (hd : Head) : List Place := (zam t).filter fun p => decide (headV t x p = hd)
theorem underV_eq {t : Text} {x : Lexicon} {hd : Head} (h : OkD x) : zgT t x hd = underV t x hd := by rw [zgT, underV, headV_eq h]
def homV (t : Text) (x : Lexicon) : List Str := zjm sLt (zhB (entriesV t x) (zam t).length)
theorem homV_eq {t : Text} {x : Lexicon} (h : zan t x = 0) : zgu t x = homV t x := by
 rw [zgu, if_pos h, homV, zib, entriesV_eq (zdH h)]
def idleV (t : Text) (x : Lexicon) (n : Int) : Bool := decide ((zgz x n).decisions.length < x.decisions.length) && decide (headsV t (zgz x n) = headsV t x)
theorem idleV_eq {t : Text} {x : Lexicon} (h : zan t x = 0) : idleN t x = ((List.range 999).map natI).filter (idleV t x) := by
 rw [idleN, if_pos h, idleR, idleK];refine List.filter_congr fun n _ => ?_;rw [idleB, idleV, headsV_eq (zdH h), headsV_eq (zdH (zeR h n))]
def changesV (t : Text) (x y : Lexicon) : List Place := (zam t).filter fun p => decide (headV t y p ≠ headV t x p)
theorem changesV_eq {t : Text} {x y : Lexicon} {d : Decision} (h : zhP t x d = 0) (hy : zgI x d = y) : zhr t x d = changesV t x y := by
 obtain ⟨h1, _, h3⟩ := addE_zero h;have h4 := addX_check h3;rw [zhr, if_pos h, changesP, headV_eq (zdH h1), headV_eq (zdH h4), hy]; rfl
theorem addX_eq {x : Lexicon} {d : Decision} {ys : List Decision} (hp : ys.Perm (x.decisions ++ [d])) (hs : ys.Pairwise fun a b => a.number ≤ b.number) (hn : ((x.decisions ++ [d]).map (·.number)).Nodup) : zgI x d = ⟨x.rules, ys⟩ := by
 rw [zgI, ← ascD_eq hp hs hn]
def wThe : Str := [116, 104, 101]
def zcY : Str := [115, 101, 97]
def ziS : Str := [115, 101, 101]
def wIs : Str := [105, 115]
def zer : Str := [111, 108, 100]
def ziT : Str := [111, 108, 100, 101]
def wAnd : Str := [97, 110, 100]
def wAge : Str := [97, 103, 101]
def zbi : Text := ⟨[⟨7, [[wThe, zcY, wIs, zer], [zer, wThe, zcY]]⟩, ⟨3, [[zcY, wAnd, zcY]]⟩]⟩
def rulesE : List Rule := [⟨[115], [], 2⟩, ⟨[108, 100], [108, 100, 101], 1⟩]
def d1E : Decision := ⟨1, 1, zcY, zdV, ⟨zcY, 1⟩, 0⟩
def d2E : Decision := ⟨2, 2, zer, ⟨0, 1, 0⟩, ⟨wAge, 3⟩, 0⟩
def d3E : Decision := ⟨3, 3, [], ⟨1, 0, 2⟩, ⟨ziS, 2⟩, 0⟩
def d4E : Decision := ⟨4, 1, zcY, zdV, ⟨ziS, 2⟩, 0⟩
def d5E : Decision := ⟨5, 4, [], zdV, zek, 3⟩
def zcl (more : List Decision) : Lexicon := ⟨rulesE, [d1E, d2E, d3E] ++ more⟩
theorem zjy : zan zbi (zcl []) = 0 := by decide +kernel
theorem checkE4 : zan zbi (zcl [d4E]) = 0 := by decide +kernel
theorem checkE5 : zan zbi (zcl [d5E]) = 0 := by decide +kernel
theorem stepsE_old : zhW zbi (zcl []) zer = [zer, ziT] ∧ ziJ zbi (zcl []) zer = 0 := by decide +kernel
theorem under_ok {t : Text} {x : Lexicon} {hd : Head} {l : List Place} (hx : zan t x = 0) (hh : zfN hd = true) (h : underV t x hd = l) (hl : l ≠ []) : zeT t x hd = 0 ∧ underR t x hd = l := by
 have e : zgT t x hd = l := by rw [underV_eq (zdH hx)]; exact h
 have e1 : zeT t x hd = 0 := by rw [zeT, if_pos hx, if_pos hh, e, if_neg hl]
 exact ⟨e1, by rw [underR, if_pos e1, e]⟩
theorem underE_sea : zeT zbi (zcl []) ⟨zcY, 1⟩ = 0 ∧ underR zbi (zcl []) ⟨zcY, 1⟩ = [⟨0, 0, 1⟩, ⟨0, 1, 2⟩, ⟨1, 0, 0⟩] := under_ok zjy (by decide +kernel) (by decide +kernel) (by simp)
theorem homE : zgu zbi (zcl []) = [zer, zcY] := by rw [homV_eq zjy]; decide +kernel
theorem addE4 : zhP zbi (zcl []) d4E = 0 := by decide +kernel
theorem addE54 : zhP zbi (zcl [d5E]) d4E = 0 := by decide +kernel
theorem addX4 : zgI (zcl []) d4E = zcl [d4E] := addX_eq (ys := [d1E, d2E, d3E, d4E]) (List.Perm.refl _) (by decide +kernel) (by decide +kernel)
theorem addX54 : zgI (zcl [d5E]) d4E = zcl [d4E, d5E] := addX_eq (ys := [d1E, d2E, d3E, d4E, d5E]) (by decide +kernel) (by decide +kernel) (by decide +kernel)
theorem changesE4 : zhr zbi (zcl []) d4E = [⟨0, 0, 1⟩, ⟨0, 1, 2⟩, ⟨1, 0, 0⟩] := by rw [changesV_eq addE4 addX4]; decide +kernel
theorem idleE4 : idleN zbi (zcl [d4E]) = [1, 3] := by rw [idleV_eq checkE4]; decide +kernel
theorem standingE5 : zeA zbi (zcl [d5E]) = [1, 2, 5] := by decide +kernel
theorem askR_eq {t : Text} {x : Lexicon} {p : Place} (hx : zan t x = 0) (hp : zbH t p = true) : zea t x p = winV x p (zax t p) := by rw [zea, if_pos ⟨hx, hp⟩, winV_eq (zdH hx)]
theorem zjI {t : Text} {x : Lexicon} {p : Place} (hx : zan t x = 0) (hp : zbH t p = true) : ziP t x p = 0 := by rw [ziP, if_pos hx, if_pos hp]
theorem ask1 : zea zbi (zcl []) ⟨0, 0, 3⟩ = { zcm with to := ⟨ziT, 0⟩ } ∧ ziP zbi (zcl []) ⟨0, 0, 3⟩ = 0 := ⟨by rw [askR_eq zjy (by decide +kernel)]; decide +kernel, zjI zjy (by decide +kernel)⟩
theorem ask2 : zea zbi (zcl []) ⟨0, 1, 0⟩ = d2E ∧ ziP zbi (zcl []) ⟨0, 1, 0⟩ = 0 := ⟨by rw [askR_eq zjy (by decide +kernel)]; decide +kernel, zjI zjy (by decide +kernel)⟩
theorem ask3 : zea zbi (zcl []) ⟨1, 0, 2⟩ = d3E ∧ ziP zbi (zcl []) ⟨1, 0, 2⟩ = 0 := ⟨by rw [askR_eq zjy (by decide +kernel)]; decide +kernel, zjI zjy (by decide +kernel)⟩
end Go.Pk

namespace Go.Pk
open Go Go.RowKit
theorem stepsN_len (rs : List Rule) : ∀ (n : Nat) (w : Str), 1 ≤ (zcz rs n w).length ∧ (zcz rs n w).length ≤ n + 1
 | 0, w => by simp [zcz]
 | n + 1, w => by
  simp only [zcz];split
  ·simp
  ·rename_i s _;have := stepsN_len rs n s;simp only [List.length_cons]; omega
theorem lexicon_rs {t : Text} {x : Lexicon} (h : zan t x = 0) : ∀ r ∈ x.rules, zhl r = true := by
 have h1 := (zhY h).2;simp only [zco, Bool.and_eq_true, List.all_eq_true] at h1;exact h1.1.1.2
theorem bare_check {t : Text} {x : Lexicon} (h : zan t x = 0) : zan t ⟨x.rules, []⟩ = 0 :=
 lexiconB_of h rfl (by simp) (by simp) (by simp)
def countV (x : Lexicon) (p : Place) (wd : Str) : List Decision := (x.decisions.filter (zdd x)).filter fun d => zel d p wd
end Go.Pk

namespace Go.Pk
open Go Go.RowKit
def standS (x : Lexicon) : List Int := (zhQ x).map (·.number)
def cntQ {α : Type} (q : α → Bool) (l : List α) (i : Nat) : Nat := ((l.take i).filter q).length
end Go.Pk

namespace Go.Pk
open Go Go.RowKit
theorem winV_none {x : Lexicon} {p : Place} {wd : Str} (h : countV x p wd = []) : winV x p wd = { zcm with to := ⟨((zcz x.rules 4 wd).getLast?).getD [], 0⟩ } := by
 simp only [countV] at h;rw [winV, h, if_pos (show (zaQ []).number = 0 from rfl)]
def voidD (n o : Int) : Decision := ⟨n, 4, [], zdV, zek, o⟩
section
variable {t : Text} {x : Lexicon} {d : Decision} {most : Int}
end
end Go.Pk

namespace Go.Pk
open Go Go.RowKit
def zRule : Rule := ⟨[], [], 0⟩
def chooseN (l : List Int) (i : Nat) : Int := (l[i % l.length]?).getD 0
theorem tmod_nat {i : Int} {n : Nat} (hi : 0 ≤ i) : i.tmod (n : Int) = ((i.toNat % n : Nat) : Int) := by
 obtain ⟨m, rfl⟩ := Int.eq_ofNat_of_zero_le hi;rw [Int.tmod_eq_emod_of_nonneg hi, Int.toNat_natCast, Int.natCast_emod]
theorem askR_head {t : Text} {x : Lexicon} {p : Place} (hx : zan t x = 0) (hp : zbH t p = true) : (zea t x p).to = zbO t x p := by
 rw [zea, if_pos ⟨hx, hp⟩]; rfl
theorem askR_win {t : Text} {x : Lexicon} {p : Place} (hx : zan t x = 0) (hp : zbH t p = true) : zea t x p = zcQ x p (zax t p) := by
 rw [zea, if_pos ⟨hx, hp⟩]
theorem stepsR_eq {t : Text} {x : Lexicon} {w : Str} (hx : zan t x = 0) (hw : zbS w = true) : zhW t x w = zcz x.rules 4 w := by rw [zhW, if_pos ⟨hx, hw⟩]
theorem stepsE_eq {t : Text} {x : Lexicon} {w : Str} (hx : zan t x = 0) (hw : zbS w = true) : ziJ t x w = 0 := by rw [ziJ, if_neg (by simpa using hx), if_pos hw]
theorem addN54 : zih zbi (zcl [d5E]) d4E = zcl [d4E, d5E] := by rw [zih, if_pos addE54, addX54]
end Go.Pk

namespace Go.Pk
open Go Go.RowKit
theorem at_word {t : Text} {p : Place} (ht : zaM t = true) : (if zaM t = true then (zgS t p).getD [] else []) = zax t p := by rw [if_pos ht]; rfl
theorem at_err {t : Text} {p : Place} (ht : zaM t = true) (hp : zbH t p = true) : (if (zaM t && zbH t p) = true then (0 : Int) else if zaM t = true then 12 else 10) = 0 := by rw [if_pos (by rw [ht, hp]; rfl)]
theorem placesT_in {t : Text} {k n w : Nat} {c : Chapter} {ln : List Str} (hc : t.chapters[k]? = some c) (hl : c.lines[n]? = some ln) (hw : w < ln.length) : mkP k n w ∈ zam t := by
 refine List.mem_flatMap.2 ⟨k, List.mem_range.2 (List.getElem?_eq_some_iff.1 hc).1, List.mem_flatMap.2 ⟨n, List.mem_range.2 ?_, List.mem_map.2 ⟨w, List.mem_range.2 ?_, rfl⟩⟩⟩
 ·rw [zda hc]; exact (List.getElem?_eq_some_iff.1 hl).1
 rw [zdk hc hl]; exact hw
theorem zjq {t : Text} (ht : zaM t = true) : 0 < (zam t).length := by
 have ht' := ht;simp only [zaM, Bool.and_eq_true, List.all_eq_true, inB, decide_eq_true_eq] at ht;obtain ⟨⟨h1, h2⟩, _⟩ := ht;have hc : t.chapters[0]? = some t.chapters[0] := List.getElem?_eq_getElem zD;have h3 := h2 _ (List.mem_of_getElem? hc);simp only [zbl, Bool.and_eq_true, List.all_eq_true, inB, decide_eq_true_eq] at h3;have hl : t.chapters[0].lines[0]? = some t.chapters[0].lines[0] := List.getElem?_eq_getElem zD;have h4 := h3.2 _ (List.mem_of_getElem? hl);simp only [zfn, Bool.and_eq_true, List.all_eq_true, inB, decide_eq_true_eq] at h4;exact List.length_pos_of_mem (placesT_in hc hl (w := 0) zD)
theorem wordD_word {t : Text} {p : Place} (ht : zaM t = true) (hp : zbH t p = true) : zbS (zax t p) = true := by
 obtain ⟨c, ln, wd, _, hc, _, hl, _, hw, e⟩ := place_at hp;rw [e];simp only [zaM, Bool.and_eq_true, List.all_eq_true] at ht;have h1 := ht.1.2 _ (List.mem_of_getElem? hc);simp only [zbl, Bool.and_eq_true, List.all_eq_true] at h1;have h2 := h1.2 _ (List.mem_of_getElem? hl);simp only [zfn, Bool.and_eq_true, List.all_eq_true] at h2;exact h2.2 _ (List.mem_of_getElem? hw)
def trM (l : List Int) : List (Int × Bool) := l.map fun n => (n, true)
def wonF (l : List Decision) (n : Int) : Decision := l.foldl (fun a d => if d.number = n then d else a) zcm
theorem any_snoc {α : Type} {q : α → Bool} {l : List α} {k : Nat} {a : α} (h : l[k]? = some a) : (l.take (k + 1)).any q = ((l.take k).any q || q a) := by rw [zbf h, List.any_append]; simp
def someS (x : Lexicon) (p : Place) (wd : Str) (d : Decision) : Bool := decide (d.number ∈ standS x) && zel d p wd
def mostN (l : List Decision) : Int := l.foldl (fun a d => max a d.number) 0
def chQ (t : Text) (x : Lexicon) (d : Decision) (p : Place) : Bool := decide (zbO t (zgI x d) p ≠ zbO t x p)
section
variable {t : Text} {x : Lexicon} {d : Decision}
def cdQ (x y : Lexicon) (p : Place) (wd : Str) (o : Decision) : Bool := (decide (o.number ∈ standS x) != decide (o.number ∈ standS y)) && zel o p wd
end
end Go.Pk

namespace Go.Pk
open Go Go.RowKit
def zText : Text := ⟨[]⟩
end Go.Pk

namespace Go.Pk
open Go Go.RowKit
def numI (t : Text) (p : Place) : Int := (((zam t).idxOf p : Nat) : Int)
def underA (t : Text) (x : Lexicon) (hs : List Head) : List Place := hs.flatMap (zgT t x)
def seenL (t : Text) (x : Lexicon) (hs : List Head) (u : List Place) : List Int := (underA t x hs ++ u).map (numI t)
def putAll (ws : List Str) : List (Str × Bool) := ws.foldl (fun m w => zdQ m w true) []
theorem look_some_mem {κ υ : Type} [DecidableEq κ] {m : List (κ × υ)} {k : κ} : (zaV m k).isSome = true ↔ k ∈ m.map (·.1) := by
 rw [zaV, Option.isSome_map, List.find?_isSome];constructor
 ·rintro ⟨p, hp, e⟩; exact List.mem_map.2 ⟨p, hp, of_decide_eq_true e⟩
 intro h;obtain ⟨p, hp, e⟩ := List.mem_map.1 h;exact ⟨p, hp, decide_eq_true e⟩
theorem flat_split {α : Type} (f : Nat → List α) {i : Nat} : ∀ {N : Nat}, i < N → ∃ R, (List.range N).flatMap f = (List.range i).flatMap f ++ (f i ++ R)
 | N + 1, h => by
  rw [zdm]
  by_cases e : i = N
  ·subst e; exact ⟨[], by simp⟩
  ·obtain ⟨R, hR⟩ := flat_split f (show i < N by omega);exact ⟨R ++ f N, by rw [hR]; simp⟩
theorem map_split {α : Type} (g : Nat → α) {m : Nat} : ∀ {N : Nat}, m < N → ∃ R, (List.range N).map g = (List.range m).map g ++ g m :: R
 | N + 1, h => by
  rw [List.range_succ, List.map_append]
  by_cases e : m = N
  ·subst e; exact ⟨[], rfl⟩
  ·obtain ⟨R, hR⟩ := map_split g (show m < N by omega);exact ⟨R ++ [g N], by rw [hR]; simp⟩
theorem place_pos {t : Text} {i n m : Nat} {c : Chapter} {ln : List Str} (hc : t.chapters[i]? = some c) (hl : c.lines[n]? = some ln) (hm : m < ln.length) :
  (zam t)[((List.range i).flatMap (zfP t) ++ (List.range n).flatMap (zfS t i) ++ (List.range m).map (mkP i n)).length]? = some (mkP i n m) := by
 obtain ⟨R1, e1⟩ := flat_split (zfP t) (List.getElem?_eq_some_iff.1 hc).1;obtain ⟨R2, e2⟩ := flat_split (zfS t i) (show n < (zhL t i).length by rw [zda hc]; exact (List.getElem?_eq_some_iff.1 hl).1);obtain ⟨R3, e3⟩ := map_split (mkP i n) (show m < (wordsAt t i n).length by rw [zdk hc hl]; exact hm);have e : zam t = ((List.range i).flatMap (zfP t) ++ (List.range n).flatMap (zfS t i) ++ (List.range m).map (mkP i n)) ++ (mkP i n m :: (R3 ++ (R2 ++ R1))) := by
  rw [zam, e1, show zfP t i = (List.range n).flatMap (zfS t i) ++ (zfS t i n ++ R2) from e2, show zfS t i n = (List.range m).map (mkP i n) ++ mkP i n m :: R3 from e3];simp [List.append_assoc]
 rw [e, List.getElem?_append_right (Nat.le_refl _), Nat.sub_self]; rfl
theorem pre_snoc {α : Type} {l pre : List α} {x : α} (h : pre = l.take pre.length) (hx : l[pre.length]? = some x) : pre ++ [x] = l.take (pre ++ [x]).length := by
 rw [List.length_append, List.length_cons, List.length_nil, Nat.zero_add, zbf hx, ← h]
end Go.Pk

namespace Go.Pk
open Go Go.RowKit
def zdr (t : Text) (w : Str) (xs : List Place) : List Place := xs.filter fun p => decide (zax t p = w)
def wordsP (t : Text) (w : Str) : List Place := zdr t w (zam t)
def optL {α : Type} (l : List α) : Option (List α) := if l.isEmpty then none else some l
def IdxOk (t : Text) (xs : List Place) (ls : List (Str × List Place)) : Prop := ∀ k, zaV ls k = optL (zdr t k xs)
theorem idx_nil (t : Text) : IdxOk t [] [] := fun _ => rfl
theorem optL_getD {α : Type} (l : List α) : (optL l).getD [] = l := by
 cases l with
 | nil => rfl
 | cons a l => rfl
theorem idx_get {t : Text} {xs : List Place} {ls : List (Str × List Place)} (h : IdxOk t xs ls) (k : Str) : (zaV ls k).getD [] = zdr t k xs := by rw [h k, optL_getD]
theorem idx_step {t : Text} {xs : List Place} {ls : List (Str × List Place)} (h : IdxOk t xs ls) (p : Place) : IdxOk t (xs ++ [p]) (zdQ ls (zax t p) ((zaV ls (zax t p)).getD [] ++ [p])) := by
 intro k;rw [zeD, idx_get h, h k];simp only [zdr, List.filter_append, List.filter_cons, List.filter_nil]
 by_cases e : k = zax t p
 ·subst e;rw [if_pos rfl, if_pos (by simp), optL, if_neg (by simp)]
 rw [if_neg e, if_neg (by simpa using fun z => e z.symm), List.append_nil]
theorem wordP_len (t : Text) (k : Str) (xs : List Place) : (zdr t k xs).length ≤ xs.length := List.length_filter_le _ _
theorem idx_len {t : Text} {xs : List Place} {ls : List (Str × List Place)} (h : IdxOk t xs ls) {k : Str} {l : List Place} (e : zaV ls k = some l) : l.length ≤ xs.length := by
 have := idx_get h k;rw [e] at this;rw [show l = zdr t k xs from this]; exact wordP_len t k xs
def MapSl {κ α : Type} [DecidableEq κ] (L : Lay α) (h : Heap) (m : List (κ × Value)) (f : κ → List α) : Prop := ∀ k, (zaV m k = none ∧ f k = []) ∨ ∃ v, zaV m k = some v ∧ f k ≠ [] ∧ Sl L h v (f k)
theorem MapSl.up {κ α : Type} [DecidableEq κ] {L : Lay α} {h h' : Heap} {m : List (κ × Value)} {f : κ → List α} (a : MapSl L h m f) (l : Le h h') : MapSl L h' m f := by
 intro k
 rcases a k with b | ⟨v, b1, b2, b3⟩
 ·exact .inl b
 exact .inr ⟨v, b1, b2, b3.up l⟩
theorem MapSl.get {κ α : Type} [DecidableEq κ] {L : Lay α} {h : Heap} {m : List (κ × Value)} {f : κ → List α} (a : MapSl L h m f) (k : κ) : Sl L h ((zaV m k).getD (.slice none 0 0)) (f k) := by
 rcases a k with ⟨b1, b2⟩ | ⟨v, b1, _, b3⟩
 ·rw [b1, b2]; exact Sl.nil L h
 rw [b1]; exact b3
theorem idx_map {t : Text} {xs : List Place} {ls : List (Str × List Place)} {m : List (Str × Value)} {h h' : Heap} {T : TypeId} {O : List (Nat × Obj)} (hi : IdxOk t xs ls) (a : NM LPlace T h m ls O) (hf : ∀ k v, zaV m k = some v → Sl LPlace h' v ((zaV ls k).getD [])) : MapSl LPlace h' m fun k => zdr t k xs := by
 intro k;obtain ⟨es, _, a2, _⟩ := a
 rcases a2 k with ⟨b1, _, b3⟩ | ⟨v, o, l, b1, _, b3, _⟩
 ·refine .inl ⟨b1, ?_⟩;have := idx_get hi k;rw [b3] at this; exact this.symm
 refine .inr ⟨v, b1, ?_, ?_⟩
 ·have e := hi k;rw [b3, optL] at e;split at e
  ·cases e
  ·rename_i q; intro z; exact q (by rw [show zdr t k xs = [] from z]; rfl)
 have := hf k v b1;rwa [idx_get hi k] at this
end Go.Pk

namespace Go.Pk
open Go Go.RowKit
section
variable {κ : Type} [DecidableEq κ]
def zil (l : List κ) : List (κ × Bool) := l.foldl (fun m w => zdQ m w true) []
theorem putK_snoc (l : List κ) (w : κ) : zil (l ++ [w]) = zdQ (zil l) w true := by rw [zil, List.foldl_append]; rfl
theorem look_putK (w : κ) {ws : List κ} : zaV (zil ws) w = if w ∈ ws then some true else none := by
 have key : ∀ (l : List κ) (m : List (κ × Bool)), zaV (l.foldl (fun m w => zdQ m w true) m) w = if w ∈ l then some true else zaV m w := by
  intro l
  induction l with
  | nil => intro m; simp
  | cons a l ih =>
   intro m;rw [List.foldl_cons, ih, zeD]
   by_cases h1 : w ∈ l
   ·simp [h1]
   ·by_cases h2 : w = a <;> simp [h1, h2]
 rw [zil, key]; rfl
theorem putK_keys {ws : List κ} {x : κ} : x ∈ (zil ws).map (·.1) ↔ x ∈ ws := by
 rw [← look_some_mem, look_putK]
 by_cases h : x ∈ ws <;> simp [h]
theorem putK_two {ws : List κ} (hn : ((zil ws).map (·.1)).Nodup) : 1 < (zil ws).length ↔ ∃ a ∈ ws, ∃ b ∈ ws, a ≠ b := by
 have hl : (zil ws).length = ((zil ws).map (·.1)).length := (List.length_map _).symm;rw [hl];constructor
 ·intro h
  match e : (zil ws).map (·.1) with
  | [] => rw [e] at h; simp at h
  | [_] => rw [e] at h; simp at h
  | a :: b :: r =>
   rw [e] at hn;exact ⟨a, putK_keys.1 (by rw [e]; simp), b, putK_keys.1 (by rw [e]; simp), fun q => (List.nodup_cons.1 hn).1 (by rw [q]; simp)⟩
 rintro ⟨a, ha, b, hb, hab⟩;have h1 := putK_keys.2 ha; have h2 := putK_keys.2 hb
 match e : (zil ws).map (·.1) with
 | [] => rw [e] at h1; cases h1
 | [c] => rw [e] at h1 h2; simp at h1 h2; exact absurd (h1.trans h2.symm) hab
 | c :: d :: r => rw [e]; simp
def zim (l : List κ) : List κ := l.foldl (fun a x => if x ∈ a then a else a ++ [x]) []
theorem zjc (l : List κ) (x : κ) : zim (l ++ [x]) = if x ∈ zim l then zim l else zim l ++ [x] := by rw [zim, List.foldl_append]; rfl
theorem fstL_of {l a : List κ} {d : κ} (h : d ∈ l.foldl (fun a x => if x ∈ a then a else a ++ [x]) a) : d ∈ a ∨ d ∈ l := by
 induction l generalizing a with
 | nil => exact .inl h
 | cons x l ih =>
  rw [List.foldl_cons] at h
  rcases ih h with q | q
  ·split at q
   ·exact .inl q
   ·rcases List.mem_append.1 q with q | q
    ·exact .inl q
    ·rw [List.mem_singleton.1 q]; exact .inr (by simp)
  ·exact .inr (List.mem_cons_of_mem _ q)
theorem fstL_mem {l : List κ} {y : κ} : y ∈ zim l ↔ y ∈ l := by
 induction l using zes with
 | nil => simp [zim]
 | snoc l d ih =>
  rw [zjc];split
  ·rename_i h;rw [ih]; simp only [List.mem_append, List.mem_singleton];exact ⟨.inl, fun q => q.elim id fun e => e ▸ (fstL_of h).resolve_left (by simp)⟩
  ·simp [ih]
theorem fstL_nodup (l : List κ) : (zim l).Nodup := by
 induction l using zes with
 | nil => simp [zim]
 | snoc l d ih =>
  rw [zjc];split
  ·exact ih
  ·rename_i h;exact List.nodup_append.2 ⟨ih, by simp, fun a ha b hb e => h (by rw [List.mem_singleton.1 hb] at e; exact e ▸ ha)⟩
theorem fstL_len (l : List κ) : (zim l).length ≤ l.length := by
 induction l using zes with
 | nil => simp [zim]
 | snoc l d ih => rw [zjc]; split <;> simp <;> omega
omit [DecidableEq κ] in
theorem tell_at {V : List κ} (hn : V.Nodup) {p : κ → Bool} {i : Nat} {w : κ} (h : V[i]? = some w) : (V.filter p)[((V.take i).filter p).length]? = some w ↔ p w = true := by
 have e : V = V.take i ++ w :: V.drop (i + 1) := by rw [← zgY h, List.take_append_drop]
 have e2 : V.filter p = (V.take i).filter p ++ (w :: V.drop (i + 1)).filter p := by rw [← List.filter_append, ← e]
 rw [e2, List.getElem?_append_right (Nat.le_refl _), Nat.sub_self, List.filter_cons]
 by_cases hp : p w = true
 ·simp [hp]
 rw [if_neg hp];refine ⟨fun q => ?_, fun q => absurd q hp⟩;have hm : w ∈ V.drop (i + 1) := (List.mem_filter.1 (List.mem_of_getElem? q)).1;rw [e] at hn;exact absurd hm (List.nodup_cons.1 (List.nodup_append.1 hn).2.1).1
omit [DecidableEq κ] in
theorem tell_succ {V : List κ} {p : κ → Bool} {i : Nat} {w : κ} (h : V[i]? = some w) : ((V.take (i + 1)).filter p).length = ((V.take i).filter p).length + if p w = true then 1 else 0 := by
 rw [zbf h, List.filter_append, List.length_append, List.filter_cons];split <;> simp
end
def zem (t : Text) : List Str := zjm sLt ((zam t).map (zax t))
theorem vocab_nodup (t : Text) : (zem t).Nodup := (zfu zdJ _).imp fun h q => by subst q; rw [zdJ.irrefl] at h; cases h
theorem vocab_mem {t : Text} {w : Str} : w ∈ zem t ↔ ∃ p ∈ zam t, zax t p = w := by rw [zem, ziW, List.mem_map]
theorem vocab_len (t : Text) : (zem t).length ≤ (zam t).length := by
 have := setL_len zdJ ((zam t).map (zax t)); rwa [List.length_map] at this
theorem vocab_word {t : Text} (ht : zaM t = true) {w : Str} (h : w ∈ zem t) : zbS w = true ∧ zdr t w (zam t) ≠ [] := by
 obtain ⟨p, hp, rfl⟩ := vocab_mem.1 h;exact ⟨wordD_word ht (zgl hp), fun e => by
  have : p ∈ zdr t (zax t p) (zam t) := List.mem_filter.2 ⟨hp, by simp⟩;rw [e] at this; cases this⟩
theorem sorted_vocab {t : Text} {ys : List Str} (hp : ys.Perm (zim ((zam t).map (zax t)))) (hs : ys.Pairwise fun a b => sLt a b = true ∨ a = b) : ys = zem t := by
 have hn : ys.Nodup := hp.nodup_iff.2 (fstL_nodup _);have h2 : ys.Pairwise fun a b => sLt a b = true := by
  refine (List.pairwise_and_iff.2 ⟨hs, hn⟩).imp ?_;rintro a b ⟨h | h, h2⟩
  ·exact h
  ·exact absurd h h2
 refine strict_eq zdJ h2 (zfu zdJ _) fun x => ?_;rw [hp.mem_iff, fstL_mem, zem, ziW]
theorem hom_mem {t : Text} {x : Lexicon} (h : zan t x = 0) {w : Str} : w ∈ zgu t x ↔ ∃ p ∈ zdr t w (zam t), ∃ q ∈ zdr t w (zam t), zbO t x p ≠ zbO t x q := by
 rw [zgu, if_pos h, homs_pairs, ziW, mem_pairs];have get : ∀ {i : Nat} {a : Entry}, (zaB t x)[i]? = some a → ∃ p, (zam t)[i]? = some p ∧ a = zdN t x p := by
  intro i a ha;rw [zaB, List.getElem?_map] at ha;obtain ⟨p, hp, e⟩ := Option.map_eq_some_iff.1 ha;exact ⟨p, hp, e.symm⟩
 constructor
 ·rintro ⟨i, j, a, b, hi, hj, ha, hb, h1, h2, h3⟩;obtain ⟨p, hp, rfl⟩ := get ha;obtain ⟨q, hq, rfl⟩ := get hb;exact ⟨p, List.mem_filter.2 ⟨List.mem_of_getElem? hp, decide_eq_true h1⟩, q, List.mem_filter.2 ⟨List.mem_of_getElem? hq, decide_eq_true h2⟩, h3⟩
 rintro ⟨p, hp, q, hq, hpq⟩;obtain ⟨hp1, hp2⟩ := List.mem_filter.1 hp;obtain ⟨hq1, hq2⟩ := List.mem_filter.1 hq;obtain ⟨i, hi⟩ := List.mem_iff_getElem?.1 hp1;obtain ⟨j, hj⟩ := List.mem_iff_getElem?.1 hq1;have ei : (zaB t x)[i]? = some (zdN t x p) := by rw [zaB, List.getElem?_map, hi]; rfl
 have ej : (zaB t x)[j]? = some (zdN t x q) := by rw [zaB, List.getElem?_map, hj]; rfl
 have li := (List.getElem?_eq_some_iff.1 ei).1;have lj := (List.getElem?_eq_some_iff.1 ej).1
 rcases Nat.lt_trichotomy i j with e | e | e
 ·exact ⟨j, i, _, _, lj, e, ej, ei, of_decide_eq_true hq2, of_decide_eq_true hp2, fun z => hpq z.symm⟩
 ·subst e; rw [hi] at hj; cases hj; exact absurd rfl hpq
 exact ⟨i, j, _, _, li, e, ei, ej, of_decide_eq_true hp2, of_decide_eq_true hq2, hpq⟩
theorem hom_sub {t : Text} {x : Lexicon} (h : zan t x = 0) : (zem t).filter (fun w => decide (w ∈ zgu t x)) = zgu t x := by
 refine strict_eq zdJ ((zfu zdJ _).filter _) (by rw [zgu, if_pos h]; exact zfu zdJ _) fun w => ?_;rw [List.mem_filter, decide_eq_true_eq];refine ⟨fun q => q.2, fun q => ⟨?_, q⟩⟩;obtain ⟨p, hp, _⟩ := (hom_mem h).1 q;obtain ⟨h1, h2⟩ := List.mem_filter.1 hp;exact vocab_mem.2 ⟨p, h1, of_decide_eq_true h2⟩
theorem homL_len {t : Text} {x : Lexicon} (h : zan t x = 0) : (zgu t x).length ≤ (zem t).length := by
 have q := List.length_filter_le (fun w => decide (w ∈ zgu t x)) (zem t);rwa [hom_sub h] at q
theorem hom_two {t : Text} {x : Lexicon} (h : zan t x = 0) {w : Str} (hn : ((zil ((zdr t w (zam t)).map (zbO t x))).map (·.1)).Nodup) : 1 < (zil ((zdr t w (zam t)).map (zbO t x))).length ↔ w ∈ zgu t x := by
 rw [putK_two hn, hom_mem h];constructor
 ·rintro ⟨a, ha, b, hb, hab⟩;obtain ⟨p, hp, rfl⟩ := List.mem_map.1 ha;obtain ⟨q, hq, rfl⟩ := List.mem_map.1 hb;exact ⟨p, hp, q, hq, hab⟩
 rintro ⟨p, hp, q, hq, hpq⟩;exact ⟨_, List.mem_map_of_mem hp, _, List.mem_map_of_mem hq, hpq⟩
theorem bare_head {t : Text} {x : Lexicon} (h : zan t x = 0) (p : Place) : zbO t ⟨x.rules, []⟩ p = ⟨((zcz x.rules 4 (zax t p)).getLast?).getD [], 0⟩ := by
 rw [zbO, winV_eq (zdH (bare_check h)), winV_none (by rfl)]
theorem bare_hom {t : Text} {x : Lexicon} (h : zan t x = 0) : zgu t ⟨x.rules, []⟩ = [] := by
 refine List.eq_nil_iff_forall_not_mem.2 fun w q => ?_;obtain ⟨a, ha, b, hb, hab⟩ := (hom_mem (bare_check h)).1 q;rw [bare_head h, bare_head h, of_decide_eq_true (List.mem_filter.1 ha).2, of_decide_eq_true (List.mem_filter.1 hb).2] at hab;exact hab rfl
theorem left_get {m m0 : List (Str × Value)} {h : Heap} {f : Str → List Place} {ws : List Str} (ms : MapSl LPlace h m0 f) (hm : ∀ k, zaV m k = if k ∈ ws then none else zaV m0 k) (k : Str) : Sl LPlace h ((zaV m k).getD (.slice none 0 0)) (if k ∈ ws then [] else f k) := by
 rw [hm]
 by_cases e : k ∈ ws
 ·rw [if_pos e, if_pos e]; exact Sl.nil LPlace h
 rw [if_neg e, if_neg e]; exact ms.get k
theorem left_seen {t : Text} {p : Place} (hp : p ∈ zam t) {ws : List Str} : (((if zax t p ∈ ws then [] else zdr t (zax t p) (zam t)) : List Place).length : Int) = 0 ↔ zax t p ∈ ws := by
 by_cases e : zax t p ∈ ws
 ·simp [e]
 rw [if_neg e];refine ⟨fun q => ?_, fun q => absurd q e⟩;have h0 : zdr t (zax t p) (zam t) = [] := List.eq_nil_of_length_eq_zero zD;have : p ∈ zdr t (zax t p) (zam t) := List.mem_filter.2 ⟨hp, by simp⟩;rw [h0] at this; cases this
theorem left_step {m m0 : List (Str × Value)} {ws : List Str} {w : Str} (hm : ∀ k, zaV m k = if k ∈ ws then none else zaV m0 k) : ∀ k, zaV (zha m w) k = if k ∈ ws ++ [w] then none else zaV m0 k := by
 intro k;rw [look_delM, hm]
 by_cases e : k = w
 ·subst e; simp
 rw [if_neg e]; simp [e]
theorem left_keep {m m0 : List (Str × Value)} {ws : List Str} {w : Str} (hw : w ∈ ws) (hm : ∀ k, zaV m k = if k ∈ ws then none else zaV m0 k) : ∀ k, zaV m k = if k ∈ ws ++ [w] then none else zaV m0 k := by
 intro k;rw [hm]
 by_cases e : k = w
 ·subst e; simp [hw]
 simp [e]
end Go.Pk

namespace Go.Pk
open Go Go.RowKit
def zeN (l : List Str) (w : Nat) : Str := (l[w]?).getD []
def zjr (kind : Int) (own put : Str) : List Str := if kind = 1 then [] else if kind = 2 then [put, own] else [put]
def zfk (kind : Int) (own put : Str) : Bool := if kind = 1 then decide (put = []) else if kind = 2 then zbS put else zbS put && decide (put ≠ own)
def readS (s : List Str) (r : Reading) : List Str := s.dropLast ++ zjr r.kind (s.getLast?.getD []) r.word
def zbB (c : Copy) (p : Place) : List Reading := c.readings.filter fun r => decide (r.at_ = p)
def zew (rs : List Reading) (own : Str) : List Str := rs.foldl readS [own]
def readW (c : Copy) (k n : Nat) (l : List Str) (w : Nat) : List Str := zew (zbB c (mkP k n w)) (zeN l w)
def zhJ (c : Copy) (k n : Nat) (l : List Str) (m : Nat) : List Str := (List.range m).flatMap (readW c k n l)
def readL (c : Copy) (k n : Nat) (l : List Str) : List Str := (zhJ c k n l (l.length + 1)).filter fun s => decide (s ≠ [])
def zhw (c : Copy) (k : Nat) (ls : List (List Str)) (n : Nat) : List (List Str) := (List.range n).map fun i => readL c k i ((ls[i]?).getD [])
def readC (c : Copy) (k : Nat) (x : Chapter) : Chapter := ⟨x.id, zhw c k x.lines x.lines.length⟩
def zhx (t : Text) (c : Copy) (n : Nat) : List Chapter := (List.range n).map fun k => readC c k ((t.chapters[k]?).getD ⟨0, []⟩)
def zdF (t : Text) (c : Copy) : Text := ⟨zhx t c t.chapters.length⟩
def zhX (t : Text) (c : Copy) (i : Nat) : Bool := match c.readings[i]? with
 | some r => (match zbg t r.at_ with
  | some l => inB r.kind 1 3 && inB r.at_.word 0 ((l.length : Int) - 1 + if r.kind = 2 then 1 else 0) && zfk r.kind (zeN l r.at_.word.toNat) r.word && decide (l ≠ [])
  | none => false) && (match i with | 0 => true | i + 1 => match c.readings[i]? with | some q => decide (zeW q.at_ r.at_ < 0) || (decide (zeW q.at_ r.at_ = 0) && decide (q.kind = 2)) | none => true)
 | none => true
def zeh (t : Text) (c : Copy) : Bool := inB c.id 0 9999 && decide (c.readings.length ≤ 20) && (List.range c.readings.length).all (zhX t c) && (zdF t c).chapters.all fun x => x.lines.all fun l => inB l.length 1 10
theorem readLs_succ {c : Copy} {k n : Nat} {ls : List (List Str)} {l : List Str} (h : ls[n]? = some l) : zhw c k ls (n + 1) = zhw c k ls n ++ [readL c k n l] := by
 simp [zhw, List.range_succ, h]
theorem readCs_succ {t : Text} {c : Copy} {n : Nat} {x : Chapter} (h : t.chapters[n]? = some x) : zhx t c (n + 1) = zhx t c n ++ [readC c n x] := by
 simp [zhx, List.range_succ, h]
theorem readAll_succ (c : Copy) (k n : Nat) (l : List Str) (m : Nat) : zhJ c k n l (m + 1) = zhJ c k n l m ++ readW c k n l m := by
 simp [zhJ, List.range_succ]
theorem zgW (rs : List Reading) (r : Reading) (own : Str) : zew (rs ++ [r]) own = readS (zew rs own) r := by simp [zew, List.foldl_append]
end Go.Pk

namespace Go.Pk
open Go Go.RowKit
def ziQ : Question := ⟨zdV, []⟩
def zVoter : Voter := ⟨0, 0, []⟩
def zSpan : Span := ⟨0, 0⟩
def headsOkAt (hs : List Head) (k : Nat) : Bool := match hs[k]? with | some h => zfN h && (decide (k = 0) || headLt ((hs[k - 1]?).getD zek) h) | none => true
def headsOk (hs : List Head) : Bool := (List.range hs.length).all (headsOkAt hs)
def questAt (p : Poll) (i : Nat) : Bool := match p.questions[i]? with
 | some q => zbH p.text q.at_ && (decide (i = 0) || zdb ((p.questions[i - 1]?).getD ziQ).at_ q.at_) && inB q.heads.length 2 3 && headsOk q.heads
 | none => true
def votesAt (p : Poll) (v : Voter) (k : Nat) : Bool := match v.votes[k]?, p.questions[k]? with | some n, some q => inB n (-1) ((q.heads.length : Int) - 1) | _, _ => true
def votesOk (p : Poll) (v : Voter) : Bool := (List.range v.votes.length).all (votesAt p v)
def voterOk (p : Poll) (v : Voter) : Bool := inB v.id 0 9999 && inB v.wrong 0 6 && decide (v.votes.length = p.questions.length) && votesOk p v
def voterAt (p : Poll) (i : Nat) : Bool := match p.voters[i]? with | some v => voterOk p v && (p.voters.take i).all fun u => decide (u.id ≠ v.id) | none => true
def pollB (p : Poll) : Bool := decide (p.questions.length ≤ 6) && decide (p.voters.length ≤ 6) && (List.range p.questions.length).all (questAt p) && (List.range p.voters.length).all (voterAt p)
def checkP (p : Poll) : Int := if zan p.text p.lexicon ≠ 0 then zan p.text p.lexicon else if pollB p = true then 0 else 70
def wrongAt (v : Voter) (hs : List Int) (k : Nat) : Bool := match v.votes[k]?, hs[k]? with | some a, some b => decide (0 ≤ a) && decide (a ≠ b) | _, _ => false
def wrongN (v : Voter) (hs : List Int) : Nat := ((List.range hs.length).filter (wrongAt v hs)).length
def inAt (p : Poll) (hs : List Int) (k : Nat) : Bool := match hs[k]?, p.questions[k]? with | some n, some q => inB n 0 ((q.heads.length : Int) - 1) | _, _ => true
def trueB (p : Poll) (hs : List Int) : Bool := decide (hs.length = p.questions.length) && (List.range hs.length).all (inAt p hs) && p.voters.all fun v => decide ((wrongN v hs : Int) ≤ v.wrong)
def candL : List Nat → List (List Int)
 | [] => [[]]
 | n :: ns => (List.range n).flatMap fun (h : Nat) => (candL ns).map fun t => (h : Int) :: t
def sizesP (p : Poll) : List Nat := p.questions.map (·.heads.length)
def zeb (p : Poll) : List (List Int) := (candL (sizesP p)).filter (trueB p)
def truthsFrom (p : Poll) (now : List Int) : List (List Int) := ((candL ((sizesP p).drop now.length)).map (now ++ ·)).filter (trueB p)
def wrongK (v : Voter) (hs : List Int) (k : Nat) : Nat := ((List.range k).filter (wrongAt v hs)).length
end Go.Pk

namespace Go.Pk
open Go Go.RowKit
def allE (p : Poll) (so : Bool) : Int := if checkP p ≠ 0 then checkP p else if so = false then 2 else if zeb p = [] then 8 else 0
def allL (p : Poll) (so : Bool) : List (List Int) := if allE p so = 0 then zeb p else []
def prodL : List Nat → Nat
 | [] => 1
 | n :: ns => n * prodL ns
def cntH (l : List (List Int)) (q : Nat) (h : Int) : Nat := (l.filter fun t => decide (t[q]? = some h)).length
def worstK (l : List (List Int)) (q : Nat) : Nat → Int
 | 0 => 0
 | k + 1 => maxI (worstK l q k) (cntH l q (k : Int))
def worstN (l : List (List Int)) (q : Nat) : Int := worstK l q 3
end Go.Pk

namespace Go.Pk
open Go Go.RowKit
end Go.Pk

namespace Go.Pk
open Go Go.RowKit
def ltL : List Int → List Int → Bool
 | a :: s, b :: t => if a = b then ltL s t else decide (a < b)
 | _, _ => false
def beforeL (a b : List Int) : Bool := if a.length ≠ b.length then decide (a.length < b.length) else ltL a b
def alikeL (a b l : List Int) : Bool := l.all fun k => decide (a[k.toNat]? = b[k.toNat]?)
def tellsAt (ts : List (List Int)) (l : List Int) (i : Nat) : Bool := match ts[i]? with | some t => (ts.take i).all fun u => !alikeL t u l | none => true
def tellsL (ts : List (List Int)) (l : List Int) : Bool := (List.range ts.length).all (tellsAt ts l)
def membersL (s : Int) (n : Nat) : List Int := ((List.range n).filter fun (i : Nat) => decide (bitN s (i : Int) = 1)).map fun (i : Nat) => (i : Int)
def askK (ts : List (List Int)) (n : Nat) : Nat → Option (List Int)
 | 0 => none
 | k + 1 => if ((match askK ts n k with | none => true | some b => beforeL (membersL (k : Int) n) b) && tellsL ts (membersL (k : Int) n)) = true then some (membersL (k : Int) n) else askK ts n k
def askR7 (p : Poll) : List Int := if allE p true = 0 then (askK (zeb p) p.questions.length (2 ^ p.questions.length)).getD [] else []
def nextK (ts : List (List Int)) : Nat → Nat
 | 0 => 0
 | k + 1 => if worstN ts (k + 1) < worstN ts (nextK ts k) then k + 1 else nextK ts k
def nextE (p : Poll) : Int := if allE p true ≠ 0 then allE p true else if (zeb p).length = 1 then 6 else 0
def nextR (p : Poll) : Int := if nextE p = 0 then (nextK (zeb p) (p.questions.length - 1) : Int) else 0
def openB (ts : List (List Int)) (q : Nat) (h : Int) : Bool := ts.any fun t => decide (t[q]? = some h)
def openK (ts : List (List Int)) (q n : Nat) : List Int := ((List.range n).filter fun (h : Nat) => openB ts q (h : Int)).map fun (h : Nat) => (h : Int)
def openR (p : Poll) (question : Int) : List Int := if allE p (inB question 0 ((p.questions.length : Int) - 1)) = 0 then openK (zeb p) question.toNat (((p.questions[question.toNat]?).getD ziQ).heads.length) else []
def tallyL (vs : List Voter) (q n : Nat) : List Int := (List.range n).map fun (h : Nat) => (((vs.filter fun v => decide (v.votes[q]? = some (h : Int))).length : Nat) : Int)
def tallyE (p : Poll) (question : Int) : Int := if checkP p ≠ 0 then checkP p else if inB question 0 ((p.questions.length : Int) - 1) = true then 0 else 2
def tallyR (p : Poll) (question : Int) : List Int := if tallyE p question = 0 then tallyL p.voters question.toNat (((p.questions[question.toNat]?).getD ziQ).heads.length) else []
end Go.Pk

namespace Go.Pk
open Go Go.RowKit
def setAt (ts : List (List Int)) (a0 : List Int) (k : Nat) : Int := match a0[k]? with | some h => if (ts.all fun t => decide (t[k]? = some h)) = true then h else -1 | none => -1
def setK (ts : List (List Int)) (a0 : List Int) : List Int := (List.range a0.length).map (setAt ts a0)
def setL7 (ts : List (List Int)) : List Int := match ts[0]? with | some a0 => setK ts a0 | none => []
def setM (ts : List (List Int)) (a0 : List Int) (i k : Nat) : List Int := (setK (ts.take (i + 1)) a0).take k ++ (setK (ts.take i) a0).drop k
def settledR (p : Poll) : List Int := if allE p true = 0 then setL7 (zeb p) else []
def spanK (v : Voter) (ts : List (List Int)) : Span := ts.foldl (fun s t => ⟨minI s.lo (wrongN v t), maxI s.hi (wrongN v t)⟩) ⟨6, 0⟩
def wrongsR (p : Poll) (voter : Int) : Span := if allE p (inB voter 0 ((p.voters.length : Int) - 1)) = 0 then spanK ((p.voters[voter.toNat]?).getD zVoter) (zeb p) else zSpan
end Go.Pk

namespace Go.Pk
open Go Go.RowKit
section
variable {P : Program} {σ : Env} {w : World} {ty : TypeId} {pos : String} {aft : Array Edge} {g : Option (Nat × Bool)} {dst : Option Tmp}
theorem r_sgtr {t t' : TypeId} {x y : Operand} {a b : Str} (hx : ev σ x = zx a) (hy : ev σ y = zx b) : Run P σ w ⟨dst, .binOp .gtr t x y t', ty, pos, aft, g⟩ (.bool (!(Op.bytesLess a b || decide (a = b)))) w := by
 simp only [zx] at hx hy;simp [Run, execOp, hx, hy, eqGuard, binOp, Op.stringOp, beq_str]
end
def cmpT (a b : Str) : Int := if sLt a b = true then -1 else if a = b then 0 else 1
def orL : List Int → Int
 | [] => 0
 | a :: l => if a ≠ 0 then a else orL l
theorem orL_drop {l : List Int} {k : Nat} {a : Int} (h : l[k]? = some a) : orL (l.drop k) = if a ≠ 0 then a else orL (l.drop (k + 1)) := by rw [zgY h]; rfl
def questB (p : Poll) (i : Nat) (q : Question) : Bool := zbH p.text q.at_ && (decide (i = 0) || zdb ((p.questions[i - 1]?).getD ziQ).at_ q.at_) && inB q.heads.length 2 3
def questK (p : Poll) (i : Nat) (q : Question) (k : Nat) : Bool := questB p i q && (List.range k).all (headsOkAt q.heads)
section
variable {p : Poll} {i k : Nat} {q q1 : Question} {hd h1 : Head}
end
def askAt (p : Poll) (v : Voter) (i : Nat) : Nat → Bool
 | 0 => inB v.id 0 9999
 | 1 => inB v.wrong 0 6
 | 2 => decide (v.votes.length = p.questions.length)
 | 3 => votesOk p v
 | _ => !((p.voters.take i).any fun u => decide (u.id = v.id))
def voteB (p : Poll) (v : Voter) : Bool := inB v.id 0 9999 && inB v.wrong 0 6 && decide (v.votes.length = p.questions.length)
end Go.Pk

namespace Go.Pk
open Go Go.RowKit
section
variable {t : Text} {c : Copy} {x : Lexicon}
def wordE (s : Str) : Prop := s = [] ∨ zbS s = true
theorem readS_word {s : List Str} {r : Reading} {own : Str} (hs : ∀ a ∈ s, wordE a) (hr : r.kind = 1 ∨ zbS r.word = true) : ∀ a ∈ readS s r, wordE a := by
 intro a ha;rw [readS, List.mem_append] at ha
 rcases ha with ha | ha
 ·exact hs a (List.dropLast_subset _ ha)
 unfold zjr at ha;have hl : wordE (s.getLast?.getD []) := by
  cases e : s.getLast? with
  | none => exact .inl rfl
  | some b => exact hs b (List.mem_of_getLast? e)
 split at ha
 ·cases ha
 rename_i h1;have hw := hr.resolve_left h1;split at ha
 ·rcases List.mem_cons.1 ha with rfl | ha
  ·exact .inr hw
  ·rw [List.mem_singleton] at ha; rw [ha]; exact hl
 rw [List.mem_singleton] at ha; rw [ha]; exact .inr hw
theorem readP_word {own : Str} (ho : wordE own) : ∀ {rs : List Reading}, (∀ r ∈ rs, r.kind = 1 ∨ zbS r.word = true) → ∀ a ∈ zew rs own, wordE a := by
 intro rs
 induction rs using zes with
 | nil => intro _ a ha; rw [zew] at ha; simp only [List.foldl_nil, List.mem_singleton] at ha; rw [ha]; exact ho
 | snoc rs r ih =>
  intro hr;rw [zgW];exact readS_word (own := own) (ih fun q hq => hr q (List.mem_append_left _ hq)) (hr r (by simp))
theorem copy_word (h : zeh t c = true) : ∀ r ∈ c.readings, r.kind = 1 ∨ zbS r.word = true := by
 intro r hr;obtain ⟨i, hi⟩ := List.mem_iff_getElem?.1 hr;simp only [zeh, Bool.and_eq_true] at h;have h1 := List.all_eq_true.1 h.1.2 i (List.mem_range.2 (List.getElem?_eq_some_iff.1 hi).1);rw [zhX, hi] at h1;simp only [Bool.and_eq_true] at h1;have h2 := h1.1;cases e : zbg t r.at_ with
 | none => rw [e] at h2; cases h2
 | some l =>
  rw [e] at h2;simp only [Bool.and_eq_true] at h2;have h3 := h2.1.2;unfold zfk at h3;split at h3
  ·left; assumption
  ·split at h3
   ·exact .inr h3
   ·simp only [Bool.and_eq_true] at h3; exact .inr h3.1
theorem zjk (h : zaM t = true) : 1 ≤ t.chapters.length ∧ t.chapters.length ≤ 6 ∧ (∀ x ∈ t.chapters, zbl x = true) ∧ (t.chapters.map (·.id)).Nodup := by
 simp only [zaM, inB, Bool.and_eq_true, decide_eq_true_eq, List.all_eq_true] at h;exact ⟨by omega, by omega, h.1.2, h.2⟩
theorem readCs_get {n k : Nat} {x : Chapter} (hk : k < n) (h : t.chapters[k]? = some x) : (zhx t c n)[k]? = some (readC c k x) := by
 simp [zhx, List.getElem?_range hk, h]
theorem read_text (ht : zaM t = true) (hc : zeh t c = true) : zaM (zdF t c) = true := by
 obtain ⟨h1, h2, h3, h4⟩ := zjk ht;have hw := copy_word hc;have hlen : (zdF t c).chapters.length = t.chapters.length := by simp [zdF, zhx]
 have hch : ∀ (k : Nat) (y : Chapter), (zdF t c).chapters[k]? = some y → ∃ x, t.chapters[k]? = some x ∧ y = readC c k x := by
  intro k y hy;have hk := (List.getElem?_eq_some_iff.1 hy).1;rw [hlen] at hk;refine ⟨_, List.getElem?_eq_getElem hk, ?_⟩;have := readCs_get (c := c) hk (List.getElem?_eq_getElem hk);rw [show (zdF t c).chapters = zhx t c t.chapters.length from rfl, this] at hy;exact (Option.some.inj hy).symm
 simp only [zaM, Bool.and_eq_true, decide_eq_true_eq, inB, List.all_eq_true];refine ⟨⟨by omega, fun y hy => ?_⟩, ?_⟩
 ·obtain ⟨k, hk⟩ := List.mem_iff_getElem?.1 hy;obtain ⟨x, hx, rfl⟩ := hch k y hk;have hxb := h3 x (List.mem_of_getElem? hx);simp only [zbl, Bool.and_eq_true, inB, decide_eq_true_eq, List.all_eq_true] at hxb ⊢;refine ⟨⟨hxb.1.1, by simp [readC, zhw]; omega⟩, fun l hl => ?_⟩;have hl10 : inB l.length 1 10 = true := by
   simp only [zeh, Bool.and_eq_true, List.all_eq_true] at hc;exact hc.2 _ hy l hl
  simp only [zfn, Bool.and_eq_true, List.all_eq_true];refine ⟨hl10, fun s hs => ?_⟩
  -- the words of a line
  obtain ⟨n, hn⟩ := List.mem_iff_getElem?.1 hl;have hn2 : n < x.lines.length := by have := (List.getElem?_eq_some_iff.1 hn).1; simpa [readC, zhw] using this
  have e : l = readL c k n x.lines[n] := by
   have : (readC c k x).lines[n]? = some (readL c k n x.lines[n]) := by simp [readC, zhw, List.getElem?_range hn2, List.getElem?_eq_getElem hn2]
   rw [this] at hn; exact (Option.some.inj hn).symm
  subst e;rw [readL, List.mem_filter] at hs;obtain ⟨hs1, hs2⟩ := hs;rw [zhJ, List.mem_flatMap] at hs1;obtain ⟨w, _, hs3⟩ := hs1;have ho : wordE (zeN x.lines[n] w) := by
   unfold zeN;cases q : (x.lines[n])[w]? with
   | none => exact .inl rfl
   | some b =>
    have := hxb.2 _ (List.getElem_mem hn2);simp only [zfn, Bool.and_eq_true, List.all_eq_true] at this;exact .inr (this.2 b (List.mem_of_getElem? q))
  have := readP_word ho (fun r hr => hw r (List.mem_filter.1 hr).1) s hs3;exact this.resolve_left (by simpa using hs2)
 have e : (zdF t c).chapters.map (·.id) = t.chapters.map (·.id) := by
  refine List.ext_getElem? fun k => ?_;rw [List.getElem?_map, List.getElem?_map]
  rcases Nat.lt_or_ge k t.chapters.length with hk | hk
  ·rw [show (zdF t c).chapters = zhx t c t.chapters.length from rfl, readCs_get hk (List.getElem?_eq_getElem hk), List.getElem?_eq_getElem hk]; rfl
  ·rw [List.getElem?_eq_none zD, List.getElem?_eq_none hk]
 rw [e]; exact h4
theorem or_ord (a b : Place) : orL [zex a.chapter b.chapter, zex a.line b.line, zex a.word b.word] = zeW a b := by
 simp only [orL, zeW, cmpL]
 repeat' split
 all_goals first | rfl | simp_all
def zdX (x : Lexicon) (k : Nat) : Lexicon := ⟨x.rules, (x.decisions.take k).filter fun d => decide (d.kind = 1)⟩
theorem formsX_succ {k : Nat} {d : Decision} (h : x.decisions[k]? = some d) : (zdX x (k + 1)).decisions = (zdX x k).decisions ++ if d.kind = 1 then [d] else [] := by
 simp only [zdX, zbf h, List.filter_append, List.filter_cons, List.filter_nil, decide_eq_true_eq]
theorem forms_check {u : Text} {k : Nat} (hx : zan t x = 0) (hu : zaM u = true) : zan u (zdX x k) = 0 := by
 have hb := zfZ hx;have hd := zci hx;have hl := lexicon_rs hx;have hn := (zdH hx).1;have sub : (zdX x k).decisions.Sublist x.decisions := List.filter_sublist.trans (List.take_sublist _ _);unfold zan;rw [if_neg (by simp [hu])];have : zco u (zdX x k) = true := by
  simp only [zco, Bool.and_eq_true, decide_eq_true_eq, List.all_eq_true];refine ⟨⟨⟨⟨hb, Nat.le_trans sub.length_le hd⟩, hl⟩, fun d h => ?_⟩, (sub.map _).nodup hn⟩;have h1 := zho hx d (sub.subset h);have h2 : d.kind = 1 := by simpa using (List.mem_filter.1 h).2
  simp only [zaf, h2, if_true] at h1 ⊢;exact h1
 rw [if_neg (by simp [this])]
theorem forms_win {k : Nat} (hx : zan t x = 0) (p q : Place) (w : Str) : zcQ (zdX x k) p w = zcQ (zdX x k) q w := by
 have hy := zdH (forms_check (k := k) hx (zdq hx));rw [winV_eq hy];have e : ∀ d ∈ (zdX x k).decisions, zel d p w = zel d q w := by
  intro d h;have h2 : d.kind = 1 := by simpa using (List.mem_filter.1 h).2
  simp [zel, h2]
 have e2 : countV (zdX x k) p w = countV (zdX x k) q w := by
  simp only [countV];refine List.filter_congr fun d hd => e d (List.mem_filter.1 hd).1
 simp only [countV] at e2;rw [winV, winV, e2]
end
end Go.Pk

namespace Go.Pk
open Go Go.RowKit
section
variable {κ α : Type} [DecidableEq κ] {key : α → κ} {xs : List α} {ls : List (κ × List α)}
def grpL (key : α → κ) (k : κ) (xs : List α) : List α := xs.filter fun a => decide (key a = k)
def GrpOk (key : α → κ) (xs : List α) (ls : List (κ × List α)) : Prop := ∀ k, zaV ls k = optL (grpL key k xs)
theorem grp_nil : GrpOk key [] [] := fun _ => rfl
theorem grp_get (h : GrpOk key xs ls) (k : κ) : (zaV ls k).getD [] = grpL key k xs := by rw [h k, optL_getD]
theorem grp_step (h : GrpOk key xs ls) (a : α) : GrpOk key (xs ++ [a]) (zdQ ls (key a) ((zaV ls (key a)).getD [] ++ [a])) := by
 intro k;rw [zeD, grp_get h, h k];simp only [grpL, List.filter_append, List.filter_cons, List.filter_nil]
 by_cases e : k = key a
 ·subst e;rw [if_pos rfl, if_pos (by simp), optL, if_neg (by simp)]
 rw [if_neg e, if_neg (by simpa using fun z => e z.symm), List.append_nil]
theorem grp_len (k : κ) (xs : List α) : (grpL key k xs).length ≤ xs.length := List.length_filter_le _ _
theorem grp_lenL (h : GrpOk key xs ls) {k : κ} {l : List α} (e : zaV ls k = some l) : l.length ≤ xs.length := by
 have := grp_get h k;rw [e] at this;rw [show l = grpL key k xs from this]; exact grp_len k xs
theorem grp_map {L : Lay α} {m : List (κ × Value)} {h h' : Heap} {T : TypeId} {O : List (Nat × Obj)} (hi : GrpOk key xs ls) (a : NM L T h m ls O) (hf : ∀ k v, zaV m k = some v → Sl L h' v ((zaV ls k).getD [])) : MapSl L h' m fun k => grpL key k xs := by
 intro k;obtain ⟨es, _, a2, _⟩ := a
 rcases a2 k with ⟨b1, _, b3⟩ | ⟨v, o, l, b1, _, b3, _⟩
 ·refine .inl ⟨b1, ?_⟩;have := grp_get hi k;rw [b3] at this; exact this.symm
 refine .inr ⟨v, b1, ?_, ?_⟩
 ·have e := hi k;rw [b3, optL] at e;split at e
  ·cases e
  ·rename_i q; intro z; exact q (by rw [show grpL key k xs = [] from z]; rfl)
 have := hf k v b1;rwa [grp_get hi k] at this
theorem NM.ent {L : Lay α} {T : TypeId} {h : Heap} {m : List (κ × Value)} {k : κ} {v z : Value} {O : List (Nat × Obj)} (a : NM L T h (zdQ m k v) ls O) : NM L T h (zdQ (entM m k z) k v) ls O := by
 obtain ⟨es, a1, a2, a3⟩ := a;refine ⟨es, a1, fun k' => ?_, a3⟩;have e : zaV (zdQ (entM m k z) k v) k' = zaV (zdQ m k v) k' := by
  rw [zeD, zeD, look_entM]
  by_cases q : k' = k
  ·rw [if_pos q, if_pos q]
  ·rw [if_neg q, if_neg q, if_neg q]
 rw [e]; exact a2 k'
end
theorem OSl.pre {α : Type} {L : Lay α} {T : TypeId} {h : Heap} {p : Option Addr} {n c m : Nat} {xs : List α} {o : List (Nat × Obj)} (e : OSl L T h (.slice p n c) xs o) (hm : m ≤ xs.length) (h0 : xs ≠ []) : OSl L T h (.slice p m c) (xs.take m) o := by
 obtain ⟨cs, e1, ⟨_, rfl, _⟩ | ⟨g, cap, cur, q1, q2, q3, q4, q5, q6⟩⟩ := e
 ·exact absurd rfl h0
 cases q1;refine ⟨cs.take (m * L.size), ⟨?_, fun i x hi => ?_⟩, .inr ⟨g, c, cur, ?_, q2, ?_, q4, q5, ?_⟩⟩
 ·rw [List.length_take, List.length_take, e1.1, Nat.min_eq_left hm, Nat.min_eq_left (Nat.mul_le_mul_right _ hm)]
 ·rw [List.getElem?_take] at hi;split at hi
  ·rename_i hlt;have hr := e1.2 i x hi;have : (List.take L.size (List.drop (i * L.size) (List.take (m * L.size) cs))) = List.take L.size (List.drop (i * L.size) cs) := by
    rw [List.drop_take, List.take_take, Nat.min_eq_left];have := Nat.mul_le_mul_right L.size hlt;rw [Nat.succ_mul] at this; omega
   rw [this]; exact hr
  ·cases hi
 ·rw [List.length_take, Nat.min_eq_left hm]
 ·rw [List.length_take]; omega
 rw [List.length_take, Nat.min_eq_left hm, ← q6, List.take_take, Nat.min_eq_left (Nat.mul_le_mul_right _ hm)]
end Go.Pk

namespace Go.Pk
open Go Go.RowKit
def leftV (now : List Int) (v : Voter) : Int := v.wrong - (wrongN v now : Int)
def leftL (p : Poll) (now : List Int) : List Int := p.voters.map (leftV now)
def leftM (p : Poll) (now : List Int) (h : Int) (i : Nat) : List Int := (p.voters.take i).map (leftV (now ++ [h])) ++ (p.voters.drop i).map (leftV now)
structure NowOk (p : Poll) (now : List Int) : Prop where
 len : now.length ≤ p.questions.length
 ins : ∀ k, k < now.length → inAt p now k = true
 wr : ∀ v ∈ p.voters, (wrongN v now : Int) ≤ v.wrong
def startL (p : Poll) (i : Nat) : List Int := (p.voters.take i).map (·.wrong) ++ List.replicate (p.voters.length - i) 0
def truthsK (p : Poll) (now : List Int) (k : Nat) : List (List Int) := (List.range k).flatMap fun (h : Nat) => truthsFrom p (now ++ [(h : Int)])
def OnWay (p : Poll) (done : List (List Int)) (now : List Int) : Prop := ∃ tl, zeb p = done ++ truthsFrom p now ++ tl
end Go.Pk

namespace Go.Pk
open Go Go.RowKit
def choiceAt (q : Nat) (t : List Int) : Int := (t[q]?).getD 0
def smallQ (q : Question) : Bool := decide (q.heads.length ≤ 6) && q.heads.all fun h => decide (h.stem.length ≤ 40)
def smallV (v : Voter) : Bool := decide (v.votes.length ≤ 20)
def smallP (p : Poll) : Bool := ziK p.text && zhv p.lexicon && decide (p.questions.length ≤ 10) && decide (p.voters.length ≤ 10) && p.questions.all smallQ && p.voters.all smallV
end Go.Pk

namespace Go.Pk
open Go Go.RowKit
def maxL : List Int → Int
 | [] => 0
 | a :: l => l.foldl maxI a
def firstO {α : Type} (lt : α → α → Bool) (l : List α) : Option α := l.foldl (fun o x => match o with | none => some x | some b => if lt x b = true then some x else some b) none
def firstL {α : Type} (lt : α → α → Bool) (z : α) (l : List α) : α := (firstO lt l).getD z
def askC (ts : List (List Int)) (n k : Nat) : List (List Int) := ((List.range k).filter fun (s : Nat) => tellsL ts (membersL (s : Int) n)).map fun (s : Nat) => membersL (s : Int) n
def nextC (ts : List (List Int)) (k : Nat) : List Int := ((List.range k).filter fun (q : Nat) => decide (worstN ts q < (ts.length : Int))).map fun (q : Nat) => (q : Int)
def worseB (ts : List (List Int)) (a b : Int) : Bool := decide (worstN ts a.toNat < worstN ts b.toNat)
def sixAt (t : List Int) (s : Int) (k j : Nat) : Int := if j < k then (t[j]?).getD 0 * bitN s (j : Int) else 0
def sixK (t : List Int) (s : Int) (k : Nat) : Six := ⟨sixAt t s k 0, sixAt t s k 1, sixAt t s k 2, sixAt t s k 3, sixAt t s k 4, sixAt t s k 5⟩
def sixM (ts : List (List Int)) (s : Int) (i : Nat) (x : Six) : Option Bool := if ((ts.take i).any fun u => decide (sixK u s 6 = x)) = true then some true else none
end Go.Pk

namespace Go.Pk
open Go Go.RowKit
def decD (x : Lexicon) (q : Question) (hd : Head) : Decision := ⟨mostN x.decisions + 1, 3, [], q.at_, hd, 0⟩
def decN (n : Int) (q : Question) (hd : Head) : Decision := ⟨n, 3, [], q.at_, hd, 0⟩
def decQ (p : Poll) (x : Lexicon) (q : Question) (h : Int) : Lexicon × Int :=
 if h < 0 then (x, 0) else if (zea p.text x q.at_).to = (q.heads[h.toNat]?).getD zek then (x, 0)
 else (zih p.text x (decD x q ((q.heads[h.toNat]?).getD zek)), zhP p.text x (decD x q ((q.heads[h.toNat]?).getD zek)))
def decK (p : Poll) (s : List Int) : Nat → Lexicon × Int
 | 0 => (p.lexicon, 0)
 | k + 1 => if (decK p s k).2 = 0 then (match p.questions[k]?, s[k]? with
  | some q, some h => decQ p (decK p s k).1 q h
  | _, _ => decK p s k) else decK p s k
def decideE (p : Poll) : Int := if allE p true = 0 then (decK p (setL7 (zeb p)) (setL7 (zeb p)).length).2 else allE p true
def decideR (p : Poll) : Lexicon := if allE p true = 0 then (decK p (setL7 (zeb p)) (setL7 (zeb p)).length).1 else zLexicon
variable {p : Poll} {s : List Int} {k : Nat} {x : Lexicon} {q : Question} {h : Int} {hd : Head}
def nextN (l : List Decision) : Int := mostN l + 1
def mootB (p : Poll) (s : List Int) (k : Nat) (w : Str) : Bool := match p.questions[k]?, s[k]? with
 | some q, some h => decide (h < 0) && decide (zax p.text q.at_ = w)
 | _, _ => false
def mootQ (p : Poll) (s : List Int) (n : Nat) (w : Str) : Bool := (List.range n).any fun k => mootB p s k w
def mootR (p : Poll) : List Str := if allE p true = 0 then (zgu p.text p.lexicon).filter (mootQ p (setL7 (zeb p)) (setL7 (zeb p)).length) else []
def stillF (ws : List Str) (p : Poll) (s : List Int) (n : Nat) (w : Str) : Option Bool := if w ∈ ws ∧ mootQ p s n w = false then some true else none
end Go.Pk

namespace Go.Pk
open Go Go.RowKit
def dPE : Decision := ⟨1, 3, [], ⟨1, 0, 2⟩, ⟨ziS, 2⟩, 0⟩
def lexP (more : List Decision) : Lexicon := ⟨[], dPE :: more⟩
def seaSee : List Head := [⟨zcY, 1⟩, ⟨ziS, 2⟩]
def questsE : List Question := [⟨⟨0, 0, 1⟩, seaSee⟩, ⟨⟨0, 0, 3⟩, [⟨wAge, 3⟩, ⟨zer, 0⟩]⟩, ⟨⟨1, 0, 0⟩, seaSee⟩]
def votersE : List Voter := [⟨5, 0, [-1, 1, -1]⟩, ⟨2, 1, [0, 0, 0]⟩, ⟨8, 1, [0, -1, 1]⟩]
def pollE : Poll := ⟨zbi, lexP [], questsE, votersE⟩
def twoE : Poll := ⟨zbi, lexP [], questsE, votersE.drop 1⟩
def e1E : Decision := ⟨2, 3, [], ⟨0, 0, 1⟩, ⟨zcY, 1⟩, 0⟩
def e2E : Decision := ⟨3, 3, [], ⟨1, 0, 0⟩, ⟨zcY, 1⟩, 0⟩
end Go.Pk

namespace Go.Pk
open Go Go.RowKit
def candX (l : List (List Int)) (n : Nat) : List (List Int) := l.flatMap fun x => (List.range n).map fun (h : Nat) => x ++ [(h : Int)]
def heads1 (x : List Int) (h : Nat) : List (List Int) := (List.range h).map fun (h : Nat) => x ++ [(h : Int)]
def forN (vs : List Voter) (q : Nat) (h : Int) : Nat := (vs.filter fun v => decide (v.votes[q]? = some h)).length
end Go.Pk

namespace Go.Pk
open Go Go.RowKit
end Go.Pk

namespace Go.Pk
open Go Go.RowKit
def openN (p : Poll) (k : Nat) : List Int := if allE p true = 0 then openK (zeb p) k (((p.questions[k]?).getD ziQ).heads.length) else []
def wrongsN (p : Poll) (k : Nat) : Span := wrongsR p (k : Int)
def moreP (p : Poll) (v : Voter) : Poll := ⟨p.text, p.lexicon, p.questions, p.voters ++ [v]⟩
def rotP (p : Poll) (ys : List Voter) : Poll := ⟨p.text, p.lexicon, p.questions, ys⟩
def RotN (vs ys : List Voter) (k i : Nat) : Prop := ys.length = vs.length ∧ ∀ j, j < i → ys[j]? = vs[(j + k) % vs.length]?
theorem RotN.step {vs ys : List Voter} {k i : Nat} {v : Voter} (h : RotN vs ys k i) (hi : i < vs.length) (hv : vs[(i + k) % vs.length]? = some v) : RotN vs (ys.set i v) k (i + 1) := by
 refine ⟨by rw [List.length_set]; exact h.1, fun j hj => ?_⟩
 by_cases e : j = i
 ·subst e; rw [List.getElem?_set_self (by rw [h.1]; exact hi), hv]
 rw [List.getElem?_set_ne (Ne.symm e)]; exact h.2 j zD
theorem RotN.perm {vs ys : List Voter} {k i : Nat} (h : RotN vs ys k i) (hi : vs.length ≤ i) (hk : k < vs.length) : ys.Perm vs := by
 have e : ys = vs.drop k ++ vs.take k := by
  refine List.ext_getElem? fun j => ?_
  by_cases hj : j < vs.length
  ·rw [h.2 j zD]
   by_cases c : j + k < vs.length
   ·rw [Nat.mod_eq_of_lt c, List.getElem?_append_left (by rw [List.length_drop]; omega), List.getElem?_drop, Nat.add_comm]
   ·have e2 : (j + k) % vs.length = j + k - vs.length := by
     rw [Nat.mod_eq_sub_mod zD, Nat.mod_eq_of_lt zD]
    rw [e2, List.getElem?_append_right (by rw [List.length_drop]; omega), List.length_drop, List.getElem?_take, if_pos zD];congr 1; omega
  ·rw [List.getElem?_eq_none (by rw [h.1]; omega), List.getElem?_eq_none (by rw [List.length_append, List.length_drop, List.length_take]; omega)]
 rw [e];have := List.perm_append_comm (l₁ := vs.drop k) (l₂ := vs.take k);rwa [List.take_append_drop] at this
structure RotE (p x : Poll) : Prop where
 ck : checkP x = checkP p
 ts : zeb x = zeb p
 al : ∀ so, allE x so = allE p so
 se : settledR x = settledR p
 ak : askR7 x = askR7 p
 dr : decideR x = decideR p
 de : decideE x = decideE p
def wrongsV (p : Poll) (v : Voter) : Span := if allE p true = 0 then spanK v (zeb p) else zSpan
def maxIdN (vs : List Voter) : Int := vs.foldl (fun a v => maxI a v.id) 0
def expAt (hs qs : List Int) (k : Nat) : Int := if (k : Int) ∈ qs then (hs[k]?).getD 0 else -1
def expL (hs qs : List Int) (n : Nat) : List Int := (List.range n).map (expAt hs qs)
def expertV (p : Poll) (hs qs : List Int) : Voter := ⟨maxIdN p.voters + 1, 0, expL hs qs p.questions.length⟩
end Go.Pk

namespace Go.Pk
open Go Go.RowKit
def oddE : Poll := { pollE with voters := [⟨2, 0, [-1, 1, -1]⟩, ⟨2, 1, [0, 0, 0]⟩, ⟨8, 1, [0, -1, 1]⟩] }
def tornE : Poll := { pollE with lexicon := ⟨[], [⟨0, 3, [], ⟨1, 0, 2⟩, ⟨ziS, 2⟩, 0⟩]⟩ }
def noneE : Poll := { pollE with voters := [⟨5, 0, [-1, 1, -1]⟩, ⟨2, 0, [0, 0, 0]⟩, ⟨8, 1, [0, -1, 1]⟩] }
end Go.Pk

namespace Go.Pk
open Go Go.RowKit
section
variable {t : Text} {x : Lexicon} {d : Decision}
end
theorem before_trans {a b c : Place} (h1 : zdb a b = true) (h2 : zdb b c = true) : zdb a c = true := by
 rcases a with ⟨c1, l1, w1⟩; rcases b with ⟨c2, l2, w2⟩; rcases c with ⟨c3, l3, w3⟩
 simp only [zdb] at *
 by_cases q1 : c1 = c2 <;> by_cases q2 : c2 = c3 <;> by_cases q3 : l1 = l2 <;> by_cases q4 : l2 = l3 <;> by_cases q5 : c1 = c3 <;> by_cases q6 : l1 = l3 <;> simp_all <;> omega
def hdA (t : Text) (x : Lexicon) (q : Question) : Head := (zcQ x q.at_ (zax t q.at_)).to
def hdQ (q : Question) (h : Int) : Head := (q.heads[h.toNat]?).getD zek
def chgB (p : Poll) (s : List Int) (j : Nat) : Bool := match p.questions[j]?, s[j]? with
 | some q, some h => decide (0 ≤ h) && decide (hdA p.text p.lexicon q ≠ hdQ q h)
 | _, _ => false
def chgN (p : Poll) (s : List Int) (k : Nat) : Nat := ((List.range k).filter (chgB p s)).length
structure DecI (p : Poll) (s : List Int) (k : Nat) (x : Lexicon) : Prop where
 ck : zan p.text x = 0
 mono : mostN p.lexicon.decisions ≤ mostN x.decisions
 out : ∀ (pl : Place) (w : Str), (∀ (j : Nat) (q : Question) (h : Int), j < k → p.questions[j]? = some q → s[j]? = some h → 0 ≤ h → q.at_ ≠ pl) → zcQ x pl w = zcQ p.lexicon pl w
 ins : ∀ (j : Nat) (q : Question) (h : Int), j < k → p.questions[j]? = some q → s[j]? = some h → 0 ≤ h → hdA p.text x q = hdQ q h ∧ (hdA p.text p.lexicon q = hdQ q h → zcQ x q.at_ (zax p.text q.at_) = zcQ p.lexicon q.at_ (zax p.text q.at_)) ∧ (hdA p.text p.lexicon q ≠ hdQ q h → mostN p.lexicon.decisions < (zcQ x q.at_ (zax p.text q.at_)).number)
 len : x.decisions.length = p.lexicon.decisions.length + chgN p s k
end Go.Pk

namespace Go.Pk
open Go Go.RowKit
theorem St.front {h0 h : Heap} {w0 w : World} {own : Own} {k : Nat} {o : List (Nat × Obj)} (st : St h0 w0 h w own) (hk : own[k]? = some o) : St h0 w0 h w (o :: own.set k []) := by
 obtain ⟨h1, h2⟩ := List.getElem?_eq_some_iff.1 hk;have hp : own.flatten.Perm (o :: own.set k []).flatten := by
  have e : own = own.take k ++ o :: own.drop (k + 1) := by
   conv => lhs; rw [← List.take_append_drop k own, List.drop_eq_getElem_cons h1, h2]
  rw [List.set_eq_take_append_cons_drop, if_pos h1]
  conv => lhs; rw [e]
  simp only [List.flatten_append, List.flatten_cons, List.nil_append];rw [← List.append_assoc, ← List.append_assoc];exact List.perm_append_comm.append_right _
 exact ⟨st.le, st.new, st.sub, st.below, fun p hq => st.mine p (hp.mem_iff.2 hq), (hp.map _).nodup_iff.1 st.nodup⟩
theorem St.backAt {h0 h : Heap} {w0 w : World} {rest : Own} {k : Nat} {o : List (Nat × Obj)} (st : St h0 w0 h w (o :: rest)) (hk : rest[k]? = some []) : St h0 w0 h w (rest.set k o) := by
 obtain ⟨h1, h2⟩ := List.getElem?_eq_some_iff.1 hk;have hp : (o :: rest).flatten.Perm (rest.set k o).flatten := by
  have e : rest = rest.take k ++ [] :: rest.drop (k + 1) := by
   conv => lhs; rw [← List.take_append_drop k rest, List.drop_eq_getElem_cons h1, h2]
  rw [List.set_eq_take_append_cons_drop, if_pos h1]
  conv => lhs; rw [e]
  simp only [List.flatten_append, List.flatten_cons, List.nil_append];rw [← List.append_assoc, ← List.append_assoc];exact List.perm_append_comm.append_right _
 exact ⟨st.le, st.new, st.sub, st.below, fun p hq => st.mine p (hp.mem_iff.2 hq), (hp.map _).nodup_iff.1 st.nodup⟩
section
variable {t : Text} {c : Copy} {k n w : Nat} {l : List Str}
theorem before_iff {a b : Place} : zdb a b = true ↔ a.chapter < b.chapter ∨ (a.chapter = b.chapter ∧ (a.line < b.line ∨ (a.line = b.line ∧ a.word < b.word))) := by
 unfold zdb;split
 ·simp only [decide_eq_true_eq]; omega
 split
 ·simp only [decide_eq_true_eq]; omega
 simp only [decide_eq_true_eq]; omega
theorem before_total {a b : Place} (h1 : zdb a b = false) (h2 : zdb b a = false) : a = b := by
 have h1' : ¬ zdb a b = true := by rw [h1]; decide
 have h2' : ¬ zdb b a = true := by rw [h2]; decide
 rw [before_iff] at h1' h2'
 rcases a with ⟨a1, a2, a3⟩; rcases b with ⟨b1, b2, b3⟩
 simp only [Place.mk.injEq] at *;omega
theorem ord_le {a b : Place} (h : zeW a b ≤ 0) : zdb b a = false := by
 have := zhh a b;rw [decide_eq_true h] at this;simpa using this.symm
def putR (a b : Reading) : Prop := zdb b.at_ a.at_ = false ∧ (a.at_ = b.at_ → a.kind = 2)
theorem read_one (h : zhX t c (k + 1) = true) {a b : Reading} (ha : c.readings[k]? = some a) (hb : c.readings[k + 1]? = some b) : putR a b := by
 rw [zhX, hb] at h;simp only [Bool.and_eq_true] at h;have h2 := h.2;simp only [ha, Bool.or_eq_true, Bool.and_eq_true, decide_eq_true_eq] at h2;refine ⟨ord_le zD, fun e => ?_⟩
 rcases h2 with h2 | h2
 ·have : zeW a.at_ b.at_ = 0 := by
   rw [e];simp [zeW, cmpL, zex]
  omega
 exact h2.2
theorem read_all (h : ∀ i, i < c.readings.length → zhX t c i = true) : ∀ (d i : Nat) {a b : Reading}, c.readings[i]? = some a → c.readings[i + d + 1]? = some b → putR a b
 | 0, i, a, b, ha, hb => read_one (h _ (List.getElem?_eq_some_iff.1 hb).1) ha hb
 | d + 1, i, a, b, ha, hb => by
  have hlt : i + d + 1 < c.readings.length := by have := (List.getElem?_eq_some_iff.1 hb).1; omega
  have h1 := read_all h d i ha (List.getElem?_eq_getElem hlt);have h2 : putR c.readings[i + d + 1] b := read_one (h _ (List.getElem?_eq_some_iff.1 hb).1) (List.getElem?_eq_getElem hlt) hb;have h3 : zdb b.at_ a.at_ = false := by
   cases e : zdb b.at_ a.at_ with
   | false => rfl
   | true =>
    have q : zdb b.at_ (c.readings[i + d + 1]).at_ = true := by
     rcases Classical.em (a.at_ = (c.readings[i + d + 1]).at_) with q1 | q1
     ·rw [← q1]; exact e
     ·have q2 : zdb a.at_ (c.readings[i + d + 1]).at_ = true := by
       cases e2 : zdb a.at_ (c.readings[i + d + 1]).at_ with
       | true => rfl
       | false => exact absurd (before_total e2 h1.1) q1
      exact before_trans e q2
    rw [h2.1] at q; cases q
  refine ⟨h3, fun e => h1.2 (before_total ?_ h1.1)⟩;rw [e]; exact h2.1
theorem read_puts (h : ∀ i, i < c.readings.length → zhX t c i = true) (p : Place) {m : Nat} {a : Reading} (ha : (zbB c p)[m]? = some a) (hm : m + 1 < (zbB c p).length) : a.kind = 2 := by
 have hp : c.readings.Pairwise putR := List.pairwise_iff_getElem.2 fun i j hi hj hij => read_all h (j - i - 1) i (List.getElem?_eq_getElem hi) (by rw [show i + (j - i - 1) + 1 = j by omega]; exact List.getElem?_eq_getElem hj);have hq : (zbB c p).Pairwise putR := hp.filter _;obtain ⟨h1, h2⟩ := List.getElem?_eq_some_iff.1 ha;have h3 := (List.pairwise_iff_getElem.1 hq) m (m + 1) h1 hm zD;have at1 : ∀ (i : Nat) (hi : i < (zbB c p).length), ((zbB c p)[i]).at_ = p := fun i hi => by simpa using (List.mem_filter.1 (List.getElem_mem hi)).2
 rw [← h2];exact h3.2 (by rw [at1 _ h1, at1 _ hm])
theorem makes_le (k : Int) (a b : Str) : (zjr k a b).length ≤ 2 := by
 unfold zjr;split
 ·simp
 split <;> simp
theorem readS_le (s : List Str) (r : Reading) : (readS s r).length ≤ s.length + 2 := by
 have := makes_le r.kind (s.getLast?.getD []) r.word;rw [readS, List.length_append, List.length_dropLast]; omega
theorem readP_le (own : Str) : ∀ rs : List Reading, (zew rs own).length ≤ 2 * rs.length + 1 := by
 intro rs
 induction rs using zes with
 | nil => simp [zew]
 | snoc rs r ih =>
  have := readS_le (zew rs own) r;rw [zgW, List.length_append, List.length_singleton]; omega
theorem readsAt_le (c : Copy) (p : Place) : (zbB c p).length ≤ c.readings.length := List.length_filter_le _ _
theorem readAll_le (hl : c.readings.length ≤ 20) : ∀ m : Nat, (zhJ c k n l m).length ≤ 41 * m
 | 0 => by simp [zhJ]
 | m + 1 => by
  have h1 := readAll_le hl m;have h2 := readP_le (zeN l m) (zbB c (mkP k n m));have h3 := readsAt_le c (mkP k n m);rw [readAll_succ, List.length_append, readW]; omega
theorem readP_puts (h : ∀ i, i < c.readings.length → zhX t c i = true) (p : Place) (own : Str) : ∀ j : Nat, j < (zbB c p).length → (zew ((zbB c p).take j) own).length = j + 1
 | 0, _ => by simp [zew]
 | j + 1, hj => by
  have ih := readP_puts h p own j zD;have hk := read_puts h p (List.getElem?_eq_getElem (show j < (zbB c p).length by omega)) hj;rw [zbf (List.getElem?_eq_getElem (show j < (zbB c p).length by omega)), zgW, readS, List.length_append, List.length_dropLast, ih, zjr, if_neg zD, if_pos hk];simp
theorem read_kind (h : ∀ i, i < c.readings.length → zhX t c i = true) {r : Reading} (hr : r ∈ c.readings) : 1 ≤ r.kind ∧ r.kind ≤ 3 := by
 obtain ⟨i, hi⟩ := List.mem_iff_getElem?.1 hr;have h1 := h i (List.getElem?_eq_some_iff.1 hi).1;rw [zhX, hi] at h1;simp only [Bool.and_eq_true] at h1;have h2 := h1.1;cases e : zbg t r.at_ with
 | none => rw [e] at h2; cases h2
 | some l =>
  rw [e] at h2;simp only [Bool.and_eq_true, inB, decide_eq_true_eq] at h2;omega
theorem readsAt_mem {p : Place} {r : Reading} (h : r ∈ zbB c p) : r ∈ c.readings := (List.mem_filter.1 h).1
theorem readS_at {s : List Str} {r : Reading} {b : Str} (hb : s[s.length - 1]? = some b) : readS s r = s.take (s.length - 1) ++ zjr r.kind b r.word := by
 rw [readS, List.dropLast_eq_take, List.getLast?_eq_getElem?, hb]; rfl
end
end Go.Pk

namespace Go.Pk
open Go Go.RowKit
section
variable {t : Text} {c : Copy} {k n m : Nat} {l : List Str} {x : Chapter}
theorem chap_bounds (ht : zaM t = true) (hx : t.chapters[k]? = some x) : x.lines.length ≤ 10 := by
 have h := (zjk ht).2.2.1 x (List.mem_of_getElem? hx);simp only [zbl, inB, Bool.and_eq_true, decide_eq_true_eq, List.all_eq_true] at h;omega
theorem zhn (ht : zaM t = true) (hx : t.chapters[k]? = some x) (hl : x.lines[n]? = some l) : l.length ≤ 10 ∧ ∀ a ∈ l, zbS a = true := by
 have h := (zjk ht).2.2.1 x (List.mem_of_getElem? hx);simp only [zbl, inB, Bool.and_eq_true, decide_eq_true_eq, List.all_eq_true, zfn] at h;have h2 := h.2 l (List.mem_of_getElem? hl);exact ⟨by omega, h2.2⟩
theorem own_len (ht : zaM t = true) (hx : t.chapters[k]? = some x) (hl : x.lines[n]? = some l) (m : Nat) : (zeN l m).length ≤ 12 := by
 unfold zeN;cases e : l[m]? with
 | none => simp
 | some a => exact word_len ((zhn ht hx hl).2 a (List.mem_of_getElem? e))
theorem readsAll_len (hl : c.readings.length ≤ 20) (h1 : l.length ≤ 10) (h2 : m ≤ l.length + 1) : (zhJ c k n l m).length ≤ 500 := by
 have := readAll_le (c := c) (k := k) (n := n) (l := l) hl m; omega
theorem readP_len (hl : c.readings.length ≤ 20) (p : Place) (own : Str) (j : Nat) : (zew ((zbB c p).take j) own).length ≤ 100 := by
 have h1 := readP_le own ((zbB c p).take j);have h2 := readsAt_le c p;rw [List.length_take] at h1; omega
theorem zcR {ls : List (List Str)} : (zhw c k ls n).length = n := by simp [zhw]
theorem zdp : (zhx t c n).length = n := by simp [zhx]
end
end Go.Pk

namespace Go.Pk
open Go Go.RowKit
section
variable {t : Text} {c : Copy} {i k : Nat} {r q : Reading}
def putB (c : Copy) (i : Nat) (r : Reading) : Bool := match i with
 | 0 => true
 | i + 1 => match c.readings[i]? with | some q => decide (zeW q.at_ r.at_ < 0) || (decide (zeW q.at_ r.at_ = 0) && decide (q.kind = 2)) | none => true
def zef (t : Text) (r : Reading) : Bool := decide ((zbg t r.at_).getD [] ≠ []) && inB r.kind 1 3 && inB r.at_.word 0 ((((zbg t r.at_).getD []).length : Int) - 1 + if r.kind = 2 then 1 else 0) && zfk r.kind (zeN ((zbg t r.at_).getD []) r.at_.word.toNat) r.word
theorem zhg (hr : c.readings[i]? = some r) : zhX t c i = (zef t r && putB c i r) := by
 rw [zhX, hr];simp only [];congr 1;unfold zef;cases e : zbg t r.at_ with
 | none => simp
 | some l =>
  simp only [Option.getD_some];cases decide (l ≠ []) <;> simp
theorem zbu (hr : c.readings[i]? = some r) (h : (zef t r && putB c i r) = false) : zeh t c = false := by
 cases e : zeh t c with
 | false => rfl
 | true =>
  simp only [zeh, Bool.and_eq_true] at e;have h1 := List.all_eq_true.1 e.1.2 i (List.mem_range.2 (List.getElem?_eq_some_iff.1 hr).1);rw [zhg hr, h] at h1; cases h1
theorem zcC (hi : 0 < i) (hq : c.readings[i - 1]? = some q) : putB c i r = (decide (zeW q.at_ r.at_ < 0) || (decide (zeW q.at_ r.at_ = 0) && decide (q.kind = 2))) := by
 obtain ⟨j, rfl⟩ : ∃ j, i = j + 1 := ⟨i - 1, by omega⟩;rw [Nat.add_sub_cancel] at hq;simp [putB, hq]
theorem own_at (ht : zaM t = true) (p : Place) (w : Nat) : (zeN ((zbg t p).getD []) w).length ≤ 12 := by
 unfold zeN;cases e : ((zbg t p).getD [])[w]? with
 | none => simp
 | some a =>
  cases e2 : zbg t p with
  | none => rw [e2] at e; simp at e
  | some l =>
   rw [e2] at e;have e3 := e2;unfold zbg at e3;split at e3
   ·cases e4 : t.chapters[p.chapter.toNat]? with
    | none => rw [e4] at e3; simp at e3
    | some x =>
     rw [e4] at e3;have h := (zhn ht e4 (by simpa using e3)).2 a (List.mem_of_getElem? e);simpa using word_len h
   ·cases e3
theorem zjx (h : ¬ (inB c.id 0 9999 = true ∧ c.readings.length ≤ 20)) : zeh t c = false := by
 cases e : zeh t c with
 | false => rfl
 | true =>
  simp only [zeh, Bool.and_eq_true, decide_eq_true_eq] at e;exact absurd ⟨e.1.1.1, e.1.1.2⟩ h
def linesB (x : Chapter) : Bool := x.lines.all fun l => inB l.length 1 10
theorem copy_lines {x : Chapter} (hx : (zdF t c).chapters[k]? = some x) (h : linesB x = false) : zeh t c = false := by
 cases e : zeh t c with
 | false => rfl
 | true =>
  simp only [zeh, Bool.and_eq_true] at e;have h1 := List.all_eq_true.1 e.2 x (List.mem_of_getElem? hx);rw [linesB] at h; rw [h] at h1; cases h1
theorem copy_true (h1 : inB c.id 0 9999 = true) (h2 : c.readings.length ≤ 20) (h3 : ∀ j, j < c.readings.length → zhX t c j = true) (h4 : ∀ (j : Nat) x, (zdF t c).chapters[j]? = some x → linesB x = true) : zeh t c = true := by
 simp only [zeh, Bool.and_eq_true, decide_eq_true_eq, List.all_eq_true, List.mem_range];refine ⟨⟨⟨h1, h2⟩, h3⟩, fun x hx l hl => ?_⟩;obtain ⟨j, hj⟩ := List.mem_iff_getElem?.1 hx;exact List.all_eq_true.1 (h4 j x hj) l hl
theorem copy_parts (h : zeh t c = true) : c.readings.length ≤ 20 ∧ ∀ i, i < c.readings.length → zhX t c i = true := by
 simp only [zeh, Bool.and_eq_true, decide_eq_true_eq, List.all_eq_true, List.mem_range] at h;exact ⟨h.1.1.2, h.1.2⟩
end
end Go.Pk

namespace Go.Pk
open Go Go.RowKit
def greatC (c : Copy) : Bool := decide (30 < (c.readings.length : Int)) || c.readings.any fun r => decide (40 < (r.word.length : Int))
theorem great_len {c : Copy} (h : 30 < (c.readings.length : Int)) : greatC c = true := by rw [greatC, decide_eq_true h]; rfl
theorem great_word {c : Copy} {i : Nat} {r : Reading} (hr : c.readings[i]? = some r) (h : 40 < (r.word.length : Int)) : greatC c = true := by
 rw [greatC, Bool.or_eq_true]; right;exact List.any_eq_true.2 ⟨r, List.mem_of_getElem? hr, by simpa using h⟩
theorem great_not {c : Copy} (h1 : ¬ 30 < (c.readings.length : Int)) (h2 : (c.readings.any fun r => decide (40 < (r.word.length : Int))) = false) : greatC c = false := by rw [greatC, decide_eq_false h1, h2]; rfl
theorem forms_head {t u : Text} {x : Lexicon} {k : Nat} {p q : Place} (hx : zan t x = 0) (hw : zax t q = zax u p) : zbO t ⟨x.rules, (zdX x k).decisions⟩ q = zbO u ⟨x.rules, (zdX x k).decisions⟩ p := by
 rw [zbO, zbO, hw];exact congrArg (·.to) (forms_win (k := k) hx q p _)
end Go.Pk

namespace Go.Pk
open Go Go.RowKit
end Go.Pk
