/- FROM A READING OF THE ARGUMENTS TO THE LAYOUTS, AND BACK: what a law's row asks. -/
import Derived.Test.YtngmpkoobdkeiaaGreatDoorData2
import Derived.Carry
import Derived.LaidMore
import Derived.SizedLaws
import Derived.Deep.DeepHandedRow
import Derived.ProofKit
import Derived.OpenShut
import Derived.ChangeMaps5
namespace Go.Pk
open Go Go.RowKit Go.ChangeShapes Go.WideShapes Go.ChangeAt
def heapOf (W : World) : Heap := fun b => W.heap[b]?
theorem heapOf_sub (W : World) : Sub (heapOf W) W := fun _ _ h => h
/-- whatever reads as a datum of type t, within the form's reach, lies as L says -/
def Reads {α : Type} (P : Program) (W : World) (t : TypeId) (L : Lay α) : Prop :=
  ∀ {H : Type} (enc : TypeId × Value → H) (sp : Nat → Bool) (held : Bool) (fuel : Nat) (cs : List Value) (d : DataW H) (ps : List MemPlace),
    DataW.trod enc P W 0 sp held fuel t cs = some (d, ps) → (∀ n ∈ d.weights P t, n ≤ reachBytes) → ∃ x : α, L.R (heapOf W) cs x
section
variable {P : Program} {W : World} {t : TypeId}
theorem reads_int (hu : P.underlying t = some (.int .i64)) : Reads P W t LInt := by
  intro H enc sp held fuel cs d ps h _
  obtain ⟨n, rfl, _, _⟩ := DataW.trod_int hu h
  exact ⟨n, rfl⟩
theorem reads_u8 (hu : P.underlying t = some (.int .u8)) : Reads P W t LU8 := by
  intro H enc sp held fuel cs d ps h _
  obtain ⟨n, rfl, _, hw⟩ := DataW.trod_int hu h
  simp [Lit.wf, IntKind.min, IntKind.max, IntKind.bits, IntKind.signed] at hw
  exact ⟨n, rfl, by omega⟩
theorem reads_str (hu : P.underlying t = some .string) : Reads P W t LStr := by
  intro H enc sp held fuel cs d ps h hw
  obtain ⟨s, rfl, hx, _⟩ := DataW.trod_string hu h
  simp only [Prod.mk.injEq] at hx
  obtain ⟨rfl, _⟩ := hx
  refine ⟨s.data.toList, ?_, ?_⟩
  · simp [strV]
  · have := hw _ (by simp [DataW.weights] : s.data.toList.length ∈ _)
    unfold reachBytes at this; unfold big; omega
theorem weightsAll_mem {H : Type} {e : TypeId} : ∀ {ds : List (DataW H)} {d : DataW H}, d ∈ ds → ∀ n ∈ d.weights P e, n ∈ DataW.weightsAll P e ds
  | _ :: _, _, h, n, hn => by
    rw [DataW.weightsAll, List.mem_append]
    rcases List.mem_cons.1 h with rfl | h
    · exact .inl hn
    · exact .inr (weightsAll_mem h n hn)
theorem choose_list {α : Type} {R : Nat → α → Prop} : ∀ n, (∀ i, i < n → ∃ x, R i x) → ∃ xs : List α, xs.length = n ∧ ∀ i x, xs[i]? = some x → R i x
  | 0, _ => ⟨[], rfl, by simp⟩
  | n + 1, h => by
    obtain ⟨xs, hl, hx⟩ := choose_list n fun i hi => h i (by omega)
    obtain ⟨y, hy⟩ := h n (by omega)
    refine ⟨xs ++ [y], by simp [hl], fun i x hi => ?_⟩
    by_cases hlt : i < xs.length
    · rw [List.getElem?_append_left hlt] at hi; exact hx i x hi
    · rw [List.getElem?_append_right (by omega)] at hi
      have hi0 : i - xs.length = 0 := by
        rcases Nat.eq_zero_or_pos (i - xs.length) with h0 | h0
        · exact h0
        · rw [List.getElem?_eq_none (by simp; omega)] at hi; cases hi
      rw [hi0] at hi
      simp only [List.getElem?_cons_zero, Option.some.injEq] at hi
      subst hi
      have : i = n := by omega
      subst this; exact hy
theorem cell_block {b off : Nat} {sp : Option _} {v : Value} (h : W.cell? ⟨b, off, sp⟩ = some v) : sp = none ∧ ∃ c T fr, W.heap[b]? = some (.cells c T fr) ∧ c[off]? = some v := by
  have hs := World.cell?_spot h
  simp only at hs
  subst hs
  refine ⟨rfl, ?_⟩
  simp only [World.cell?] at h
  cases hb : W.heap[b]? with
  | none => rw [hb] at h; cases h
  | some o =>
    rw [hb] at h
    cases o with
    | cells c T fr => exact ⟨c, T, fr, rfl, by simpa using h⟩
    | _ => cases h
theorem cells_of {a : Addr} {n : Nat} {cs : List Value} (h : W.cells? 0 a n = some cs) (hn : 0 < n) : ∃ b off, a = ⟨b, off, none⟩ ∧ Cells (heapOf W) b off cs := by
  unfold World.cells? at h
  rw [if_pos (Nat.zero_le _)] at h
  have hl := mapM_some_length h
  have hg : ∀ j, j < n → W.cell? (a.add j) = cs[j]? := fun j hj => mapM_some_get h j j (by simp [hj])
  obtain ⟨b, off, sp⟩ := a
  have hlen : cs.length = n := by simpa using hl
  have h0 := hg 0 hn
  rw [List.getElem?_eq_getElem (by omega)] at h0
  have e0 : (⟨b, off, sp⟩ : Addr).add 0 = ⟨b, off, sp⟩ := by simp [Addr.add]
  rw [e0] at h0
  obtain ⟨rfl, c, T, fr, hb, _⟩ := cell_block h0
  refine ⟨b, off, rfl, c, T, fr, hb, fun j v hj => ?_⟩
  have hjl : j < n := by rw [← hlen]; exact (List.getElem?_eq_some_iff.1 hj).1
  have := hg j hjl
  rw [addr_add, hj] at this
  obtain ⟨_, c', T', fr', hb', hc'⟩ := cell_block this
  rw [hb] at hb'; cases hb'; exact hc'
theorem reads_sl {α : Type} {L : Lay α} {e : TypeId} (hu : P.underlying t = some (.slice e)) (hc : P.cellsOf e = L.size) (hp : Nat.blt 0 L.size = true) (hb : Nat.blt 0 (P.bytesOf e) = true) (hr : Reads P W e L) : Reads P W t (LSl L) := by
  intro H enc sp held fuel cs d ps h hw
  have hp : 0 < L.size := by simpa using hp
  have hb : 0 < P.bytesOf e := by simpa using hb
  rcases DataW.trod_slice hu h with ⟨rfl, _⟩ | ⟨a, len, cap, elems, rest, n, _, rfl, hx, _, _, _, hlen, hel, _, _⟩
  · exact ⟨[], _, rfl, Sl.nil L _⟩
  · simp only [Prod.mk.injEq] at hx
    obtain ⟨rfl, _⟩ := hx
    simp only [DataW.weights, hu, List.length_map] at hw
    have h1 := hw _ (List.mem_cons_self ..)
    have hle : len ≤ big := by
      have h2 : len ≤ (elems.length + rest.length) * P.bytesOf e := by
        rw [hlen]; exact Nat.le_trans (Nat.le_add_right _ _) (Nat.le_mul_of_pos_right _ hb)
      unfold reachBytes at h1; unfold big; omega
    have hE : ∀ i, i < len → ∃ x : α, ∃ vs, W.cells? 0 (a.add (i * L.size)) L.size = some vs ∧ L.R (heapOf W) vs x := by
      intro i hi
      have hi' : i < elems.length := by omega
      have := hel i hi
      rw [List.getElem?_eq_getElem hi', hc] at this
      obtain ⟨vs, h3, h4⟩ := Option.bind_eq_some_iff.1 this
      obtain ⟨x, hx⟩ := hr enc sp held n vs elems[i].1 elems[i].2 h4 (fun q hq => hw q (List.mem_cons_of_mem _ (List.mem_append_left _ (weightsAll_mem (List.mem_map_of_mem (List.getElem_mem hi')) q hq))))
      exact ⟨x, vs, h3, hx⟩
    obtain ⟨xs, hxl, hxs⟩ := choose_list len hE
    refine ⟨xs, _, rfl, some a, cap, by rw [hxl], by omega, ?_⟩
    cases xs with
    | nil => exact .inl rfl
    | cons x0 xs' =>
      right
      obtain ⟨vs0, h5, _⟩ := hxs 0 x0 rfl
      have e0 : a.add (0 * L.size) = a := by simp [Addr.add]
      rw [e0] at h5
      obtain ⟨b, off, rfl, _⟩ := cells_of h5 hp
      refine ⟨b, off, rfl, fun i x hi => ?_⟩
      obtain ⟨vs, h6, h7⟩ := hxs i x hi
      rw [addr_add] at h6
      obtain ⟨b', off', he, hcl⟩ := cells_of h6 hp
      cases he
      exact ⟨vs, hcl, h7⟩
theorem reads_fields {H : Type} {enc : TypeId × Value → H} {sp : Nat → Bool} {held : Bool} {fuel : Nat} {cs : List Value} {d : DataW H} {ps : List MemPlace} {fs : Array Field} {N : Nat} (hu : P.underlying t = some (.struct fs)) (hc : P.cellsOf t = N)
    (h : DataW.trod enc P W 0 sp held fuel t cs = some (d, ps)) (hw : ∀ n ∈ d.weights P t, n ≤ reachBytes) :
    cs.length = N ∧ ∀ (i : Nat) (f : Field) {α : Type} {L : Lay α}, fs[i]? = some f → Reads P W f.type L → ∃ x, L.R (heapOf W) ((cs.drop f.offset).take (P.cellsOf f.type)) x := by
  obtain ⟨xs, n, _, hx, hl, hlen, hf⟩ := DataW.trod_struct hu h
  simp only [Prod.mk.injEq] at hx
  obtain ⟨rfl, _⟩ := hx
  refine ⟨by rw [hl, hc], fun i f α L hi hr => ?_⟩
  have hil : i < xs.length := by rw [hlen]; exact (Array.getElem?_eq_some_iff.1 hi).1
  have := hf i f hi
  rw [List.getElem?_eq_getElem hil] at this
  refine hr enc sp held n _ xs[i].1 xs[i].2 this (fun q hq => hw q ?_)
  simp only [DataW.weights, hu]
  exact DataW.weights_mem_each (j := i) (t := f.type) (d := xs[i].1) (by rw [List.getElem?_map, Array.getElem?_toList, hi]; rfl) (by rw [List.getElem?_map, List.getElem?_eq_getElem hil]; rfl) q hq
theorem okWide_agg {r : Reach} {base : Nat} {v : Value} {fs : Array Field} (hu : P.underlying t = some (.struct fs)) (h : Value.okWide P W r base t v) : ∃ cs, v = .agg cs := by
  simp only [Value.okWide, hu] at h
  obtain ⟨cs, e, _⟩ := h
  exact ⟨cs, e⟩
/-- an argument, opened -/
theorem reads_agg {α : Type} {L : Lay α} {H : Type} {enc : TypeId × Value → H} {sp : Nat → Bool} {held : Bool} {r : Reach} {base : Nat} {v : Value} {d : DataW H} {ps : List MemPlace} {fs : Array Field} (hu : P.underlying t = some (.struct fs)) (hr : Reads P W t L) (hok : Value.okWide P W r base t v) (h : DataW.Trod enc P W 0 sp held t v d ps) (hw : ∀ n ∈ d.weights P t, n ≤ reachBytes) :
    ∃ cs x, v = .agg (List.toArray cs) ∧ L.R (heapOf W) cs x := by
  obtain ⟨cs, rfl⟩ := okWide_agg hu hok
  obtain ⟨fuel, h⟩ := h
  obtain ⟨x, hx⟩ := hr enc sp held fuel _ d ps h hw
  exact ⟨cs.toList, x, by simp, by simpa [Value.cells] using hx⟩
theorem reads_strarg {H : Type} {enc : TypeId × Value → H} {sp : Nat → Bool} {held : Bool} {r : Reach} {base : Nat} {v : Value} {d : DataW H} {ps : List MemPlace} (hu : P.underlying t = some .string) (hok : Value.okWide P W r base t v) (h : DataW.Trod enc P W 0 sp held t v d ps) (hw : ∀ n ∈ d.weights P t, n ≤ reachBytes) :
    ∃ s : Str, v = strV s ∧ s.length ≤ 281474976710656 := by
  obtain ⟨s, rfl, rfl, rfl, _⟩ := Go.ChangeMaps.open_string hu hok h
  refine ⟨s.data.toList, by simp [strV], ?_⟩
  have := hw _ (by simp [DataW.weights] : s.data.toList.length ∈ _)
  unfold reachBytes at this; omega
theorem reads_intarg {H : Type} {enc : TypeId × Value → H} {sp : Nat → Bool} {held : Bool} {r : Reach} {base : Nat} {v : Value} {d : DataW H} {ps : List MemPlace} (hu : P.underlying t = some (.int .i64)) (hok : Value.okWide P W r base t v) (h : DataW.Trod enc P W 0 sp held t v d ps) :
    ∃ n : Int, v = .int .i64 n := by
  obtain ⟨n, rfl, _⟩ := open_int hu hok h
  exact ⟨n, rfl⟩
theorem weights_at {H : Type} {ts : List TypeId} {ds : List (DataW H)} (h : (DataW.weightsEach P ts ds).all (· ≤ reachBytes) = true) {j : Nat} {t : TypeId} {d : DataW H} (ht : ts[j]? = some t) (hd : ds[j]? = some d) : ∀ n ∈ d.weights P t, n ≤ reachBytes := by
  intro n hn
  have := List.all_eq_true.1 h n (DataW.weights_mem_each ht hd n hn)
  simpa using this
end
theorem Bel.old {B : Nat} {w w' : World} (b : Bel B w w') : Below B w w' := ⟨b.os, b.tape, b.output, b.size, b.block⟩
theorem trodAll_stays {H : Type} {enc : TypeId × Value → H} {P : Program} {W W' : World} {sp : Nat → Bool} (hl : laidOutB P = true) (hb : Below W.heap.size W W') : ∀ {ts : List TypeId} {vs : List Value} {ds : List (DataW H)} {ps : List MemPlace},
    (∀ t ∈ ts, P.readableRec t = true ∧ t < P.types.size) → DataW.TrodAll enc P W 0 (fun _ => true) true ts vs ds ps → (∀ x ∈ ps, x.block < W.heap.size) → (∀ x ∈ ps, sp x.block = true) → DataW.TrodAll enc P W' 0 sp true ts vs ds ps
  | [], _, _, _, _, h, _, _ => by
    obtain ⟨rfl, rfl, rfl⟩ := trodAll_nil h
    exact trodAll_mk0
  | t :: ts, _, _, _, ht, h, hlt, hs => by
    obtain ⟨v, vs, d, ds, p, q, rfl, rfl, rfl, h1, h2⟩ := trodAll_cons h
    obtain ⟨hr, hrow⟩ := ht t (List.mem_cons_self ..)
    refine ⟨p, q, WideElems.Trod_stays hl hr hrow h1 (fun x hx => hb.same (hlt x (List.mem_append_left _ hx))) (fun x hx => hs x (List.mem_append_left _ hx)), ?_, rfl⟩
    exact trodAll_stays hl hb (fun t' h' => ht t' (List.mem_cons_of_mem _ h')) h2 (fun x hx => hlt x (List.mem_append_right _ hx)) (fun x hx => hs x (List.mem_append_right _ hx))
/-- what a law's row asks of the end: true; all that was there reads as it did -/
theorem law_post {H : Type} {enc : TypeId × Value → H} {P : Program} {f : Func} {s : ChangeSpec} {apart fresh handsOn again : Bool} {W W' : World} {args : Array Value} {ds gs : List (DataW H)} {before : List MemPlace} {tb : TypeId}
    (hl : laidOutB P = true) (hts : ∀ t ∈ f.params.toList, P.readableRec t = true ∧ t < P.types.size) (hW : DataW.Whole enc P f.params.toList s.vars apart W args.toList ds gs before) (hv : s.vars = [])
    (hs : (s.fn H ds).results = [.lit (.bool true)] ∧ (s.fn H ds).args = ds ∧ (s.fn H ds).vars = []) (hr : f.resultTypes = #[tb]) (hu : P.underlying tb = some .bool) (hb : Bel W.heap.size W W') :
    s.post enc P f apart fresh handsOn again W args (.bool true) W' := by
  have hW0 := hW
  have hbo := hb.old
  obtain ⟨p, q, hA, hV, rfl, hz, hn⟩ := hW
  rw [hv] at hV
  obtain ⟨rfl, rfl⟩ := trodVars_none hV
  simp only [List.append_nil] at hW0 hz hn
  have hlt : ∀ x ∈ p, x.block < W.heap.size := fun x hx => by simpa using hW0.lt x hx
  have hargs : ∀ sp : Nat → Bool, (∀ x ∈ p, sp x.block = true) → DataW.TrodAll enc P W' 0 sp true f.params.toList args.toList ds p := fun sp h => trodAll_stays hl hbo hts hA hlt h
  have hres : ∀ (b : Nat) (sp : Nat → Bool) (hd : Bool), DataW.TrodAll enc P W' b sp hd f.resultTypes.toList ((Value.bool true).resultList f.resultTypes.size) [.lit (.bool true)] [] := by
    intro b sp hd
    rw [hr]
    exact trodAll_mk1 (shut_bool hu true)
  have hold : ∀ x ∈ p, (fun b => decide (b < W.heap.size)) x.block = true := fun x hx => by simpa using hlt x hx
  have hargs' : ∀ sp : Nat → Bool, (∀ x ∈ p, sp x.block = true) → DataW.TrodAll enc P W' 0 sp true f.params.toList args.toList (s.fn H (ds ++ [])).args p := by
    intro sp h; rw [List.append_nil, hs.2.1]; exact hargs sp h
  have hres' : ∀ (b : Nat) (sp : Nat → Bool) (hd : Bool), DataW.TrodAll enc P W' b sp hd f.resultTypes.toList ((Value.bool true).resultList f.resultTypes.size) (s.fn H (ds ++ [])).results [] := by
    intro b sp hd; rw [List.append_nil, hs.1]; exact hres b sp hd
  have hvars' : ∀ sp : Nat → Bool, DataW.TrodVars enc P W' sp s.vars (s.fn H (ds ++ [])).vars [] := by
    intro sp; rw [List.append_nil, hs.2.2, hv]; rfl
  refine ⟨ds, [], p, [], p, [], hW0, hres' _ _ _, hargs' _ hold, hvars' _, hbo.frame _, fun _ => ?_⟩
  refine ⟨ok_one hr rfl (okWide_bool_mk hu _), _, _, ([] ++ p) ++ [], ⟨[] ++ p, [], trodAll_append (hargs' _ (fun _ _ => rfl)) (hres' _ _ _), hvars' _, rfl, ?_, ?_⟩, ?_⟩
  · intro b off hp
    have hp' : MemPlace.cell b off ∈ p := by simpa using hp
    have := hbo.frozen (p := ⟨b, off, none⟩) (hlt _ hp')
    rw [this]; exact hz b off hp'
  · intro ha; simpa using hn ha
  · intro x hx _; simpa using hx
section
variable {H : Type} {enc : TypeId × Value → H} {P : Program} {W : World} {base : Nat} {sp : Nat → Bool} {held : Bool} {t : TypeId}
theorem trod_agg_array {fuel : Nat} {cs : List Value} {ds : List (DataW H)} {p : List MemPlace} {n : Nat} {e : TypeId} (hu : P.underlying t = some (.array n e)) (h : DataW.trod enc P W base sp held fuel t cs = some (.agg ds, p)) :
    cs.length = P.cellsOf t ∧ ∀ i d, ds[i]? = some d → ∃ m q, DataW.trod enc P W base sp held m e ((cs.drop (i * P.cellsOf e)).take (P.cellsOf e)) = some (d, q) := by
  obtain ⟨xs, m, _, hx, hl, hn, hel⟩ := DataW.trod_array hu h
  simp only [Prod.mk.injEq, DataW.agg.injEq] at hx
  obtain ⟨rfl, _⟩ := hx
  refine ⟨hl, fun i d hd => ?_⟩
  rw [List.getElem?_map] at hd
  obtain ⟨y, hy, rfl⟩ := Option.map_eq_some_iff.1 hd
  have hi : i < n := by rw [← hn]; exact (List.getElem?_eq_some_iff.1 hy).1
  exact ⟨m, y.2, by rw [hel i hi, hy]⟩
theorem trod_agg_struct {fuel : Nat} {cs : List Value} {ds : List (DataW H)} {p : List MemPlace} {fs : Array Field} (hu : P.underlying t = some (.struct fs)) (h : DataW.trod enc P W base sp held fuel t cs = some (.agg ds, p)) :
    cs.length = P.cellsOf t ∧ ∀ (i : Nat) (f : Field) (d : DataW H), fs[i]? = some f → ds[i]? = some d → ∃ m q, DataW.trod enc P W base sp held m f.type ((cs.drop f.offset).take (P.cellsOf f.type)) = some (d, q) := by
  obtain ⟨xs, m, _, hx, hl, _, hf⟩ := DataW.trod_struct hu h
  simp only [Prod.mk.injEq, DataW.agg.injEq] at hx
  obtain ⟨rfl, _⟩ := hx
  refine ⟨hl, fun i f d hi hd => ?_⟩
  rw [List.getElem?_map] at hd
  obtain ⟨y, hy, rfl⟩ := Option.map_eq_some_iff.1 hd
  exact ⟨m, y.2, by rw [hf i f hi, hy]⟩
theorem trod_bool_is {fuel : Nat} {v : Value} {b : Bool} {q : List MemPlace} (hu : P.underlying t = some .bool) (h : DataW.trod enc P W base sp held fuel t [v] = some (.lit (.bool b), q)) : v = .bool b := by
  cases fuel with
  | zero => simp [DataW.trod] at h
  | succ n => cases v <;> simp [DataW.trod, hu] at h; rw [h.1]
theorem trod_nofunc {fuel : Nat} {v : Value} {q : List MemPlace} {ps rs : Array TypeId} {va : Bool} (hu : P.underlying t = some (.func ps rs va)) (h : DataW.trod enc P W base sp held fuel t [v] = some (.nil, q)) : v = .nilFunc := by
  cases fuel with
  | zero => simp [DataW.trod] at h
  | succ n => cases v <;> simp [DataW.trod, hu] at h <;> rfl
end
theorem var_cells {P : Program} {W : World} {n : String} {g : Nat} {cs : Array Value} (hg : P.globalNamed n = some g) (hv : W.var? P n = some cs) (hp : 0 < cs.toList.length) : Cells (heapOf W) g 0 cs.toList := by
  have hc : ∀ j, W.cell? ⟨g, j, none⟩ = cs[j]? := fun j => World.var?_cell hg hv j
  have h0 := hc 0
  rw [Array.getElem?_eq_getElem (by simpa using hp)] at h0
  obtain ⟨_, c, T, fr, hb, _⟩ := cell_block h0
  refine ⟨c, T, fr, hb, fun j v hj => ?_⟩
  have := hc j
  rw [← Array.getElem?_toList, hj] at this
  obtain ⟨_, c', T', fr', hb', hc'⟩ := cell_block this
  rw [hb] at hb'; cases hb'; rw [Nat.zero_add]; exact hc'
end Go.Pk
