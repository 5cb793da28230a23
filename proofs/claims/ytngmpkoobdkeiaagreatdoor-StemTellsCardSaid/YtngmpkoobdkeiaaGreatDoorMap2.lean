/- MAPS, ON: frozen ones, deleting, ranging over one that is frozen. -/
import Derived.Test.YtngmpkoobdkeiaaGreatDoorMap
import Derived.Laws.Cover3
namespace Go.Pk
open Go Go.RowKit
section
variable {κ υ : Type} {ek : κ → Value} {eu : υ → Value}
theorem OM.one {m : List (κ × υ)} {o : List (Nat × Obj)} {v : Value} (h : OM ek eu m o v) : v.oneCell' = true := by
  obtain ⟨b, es, clock, _, rfl, _⟩ := h; rfl
theorem OM.form {m : List (κ × υ)} {o : List (Nat × Obj)} {v : Value} (h : OM ek eu m o v) : ∃ b, v = .map (some b) := by
  obtain ⟨b, es, clock, _, rfl, _⟩ := h; exact ⟨b, rfl⟩
/-- a map that is frozen -/
def FM (ek : κ → Value) (eu : υ → Value) (h : Heap) (m : List (κ × υ)) (v : Value) : Prop :=
  ∃ b es clock, h b = some (.map es clock) ∧ v = .map (some b) ∧ Ent ek eu es.toList m ∧ (∀ e ∈ es.toList, e.born < clock) ∧ (es.toList.map (·.born)).Nodup
theorem FM.up {h h' : Heap} {m : List (κ × υ)} {v : Value} (f : FM ek eu h m v) (l : Le h h') : FM ek eu h' m v := by
  obtain ⟨b, es, clock, hb, q⟩ := f
  exact ⟨b, es, clock, l _ _ hb, q⟩
theorem FM.one {h : Heap} {m : List (κ × υ)} {v : Value} (f : FM ek eu h m v) : v.oneCell' = true := by
  obtain ⟨b, es, clock, _, rfl, _⟩ := f; rfl
theorem FM.to {h : Heap} {m m' : List (κ × υ)} {v : Value} (f : FM ek eu h m v) (e : m = m') : FM ek eu h m' v := e ▸ f
theorem OM.to {m m' : List (κ × υ)} {o : List (Nat × Obj)} {v : Value} (f : OM ek eu m o v) (e : m = m') : OM ek eu m' o v := e ▸ f
theorem OM.freeze {h0 h : Heap} {w0 w : World} {own : Own} {k : Nat} {m : List (κ × υ)} {o : List (Nat × Obj)} {v : Value} (st : St h0 w0 h w own) (hM : OM ek eu m o v) (hk : own[k]? = some o) :
    ∃ h', Le h h' ∧ FM ek eu h' m v ∧ St h0 w0 h' w (own.set k []) := by
  obtain ⟨b, es, clock, rfl, rfl, hE, hB, hD⟩ := hM
  obtain ⟨h', hl, hg, st'⟩ := st.freeze hk
  exact ⟨h', hl, ⟨b, es, clock, hg, rfl, hE, hB, hD⟩, st'⟩
theorem FM.om {h : Heap} {w : World} {m : List (κ × υ)} {v : Value} (f : FM ek eu h m v) (hs : Sub h w) : ∃ o, OM ek eu m o v ∧ ∀ b ob, o = [(b, ob)] → w.heap[b]? = some ob := by
  obtain ⟨b, es, clock, hb, rfl, hE, hB, hD⟩ := f
  exact ⟨[(b, .map es clock)], ⟨b, es, clock, rfl, rfl, hE, hB, hD⟩, fun b' ob e => by cases e; exact hs _ _ hb⟩
theorem Ent.get : ∀ {es : List MapEntry} {m : List (κ × υ)} {j : Nat} {e : MapEntry}, Ent ek eu es m → es[j]? = some e → ∃ p, m[j]? = some p ∧ e.key = ek p.1 ∧ e.val = eu p.2
  | [], [], _, _, _, h => by simp at h
  | e' :: es, p :: m, 0, e, h, hj => by simp at hj; subst hj; exact ⟨p, rfl, h.1, h.2.1⟩
  | e' :: es, p :: m, j + 1, e, h, hj => by
    obtain ⟨q, h1, h2⟩ := h.2.2.get (j := j) (e := e) (by simpa using hj)
    exact ⟨q, by simpa using h1, h2⟩
  | [], _ :: _, _, _, h, _ => h.elim
  | _ :: _, [], _, _, h, _ => h.elim
theorem Ent.erase : ∀ {es : List MapEntry} {m : List (κ × υ)} (j : Nat), Ent ek eu es m → Ent ek eu (es.eraseIdx j) (m.eraseIdx j)
  | [], [], _, _ => trivial
  | _ :: _, _ :: _, 0, h => h.2.2
  | _ :: _, _ :: _, j + 1, h => ⟨h.1, h.2.1, h.2.2.erase j⟩
  | [], _ :: _, _, h => h.elim
  | _ :: _, [], _, h => h.elim
/-- a map without a key -/
def delM [DecidableEq κ] (m : List (κ × υ)) (k : κ) : List (κ × υ) := m.filter fun p => !decide (p.1 = k)
theorem look_none [DecidableEq κ] {m : List (κ × υ)} {k : κ} (h : look m k = none) : ∀ p ∈ m, p.1 ≠ k := by
  intro p hp e
  have : (m.find? fun q => decide (q.1 = k)).isSome = true := by
    rw [List.find?_isSome]; exact ⟨p, hp, by simp [e]⟩
  simp only [look, Option.map_eq_none_iff] at h
  rw [h] at this; cases this
theorem delM_none [DecidableEq κ] {m : List (κ × υ)} {k : κ} (h : look m k = none) : delM m k = m := by
  unfold delM
  rw [List.filter_eq_self]
  intro p hp
  simp [look_none h p hp]
theorem delM_erase [DecidableEq κ] : ∀ {m : List (κ × υ)} {k : κ} {j : Nat} {u : υ}, (m.map (·.1)).Nodup → m[j]? = some (k, u) → delM m k = m.eraseIdx j
  | [], _, _, _, _, h => by simp at h
  | p :: m, k, 0, u, hn, h => by
    simp only [List.getElem?_cons_zero, Option.some.injEq] at h
    subst h
    simp only [List.map_cons, List.nodup_cons] at hn
    simp only [delM, List.filter_cons, decide_true, Bool.not_true, Bool.false_eq_true, if_false, List.eraseIdx_cons_zero]
    rw [List.filter_eq_self]
    intro q hq
    have : q.1 ≠ k := by rintro rfl; exact hn.1 (List.mem_map_of_mem hq)
    simp [this]
  | p :: m, k, j + 1, u, hn, h => by
    simp only [List.map_cons, List.nodup_cons] at hn
    have h' : m[j]? = some (k, u) := by simpa using h
    have hne : ¬ p.1 = k := by
      intro e; exact hn.1 (e ▸ List.mem_map.2 ⟨(k, u), List.mem_of_getElem? h', rfl⟩)
    have := delM_erase hn.2 h'
    simp only [delM] at this
    simp only [delM, List.filter_cons, hne, decide_false, Bool.not_false, if_true, List.eraseIdx_cons_succ, this]
theorem look_delM [DecidableEq κ] (m : List (κ × υ)) (k k' : κ) : look (delM m k) k' = if k' = k then none else look m k' := by
  induction m with
  | nil => simp [look, delM]
  | cons p m ih =>
    simp only [look, delM, List.filter_cons, List.find?_cons] at ih ⊢
    by_cases h1 : p.1 = k
    · simp only [h1, decide_true, Bool.not_true, Bool.false_eq_true, if_false]
      rw [ih]
      by_cases h2 : k' = k
      · simp [h2]
      · have h3 : ¬ k = k' := fun e => h2 e.symm
        simp [h2, h3]
    · simp only [h1, decide_false, Bool.not_false, if_true, List.find?_cons]
      by_cases h4 : p.1 = k'
      · have : ¬ k' = k := fun e => h1 (h4.trans e)
        simp [h4, this]
      · simp only [h4, decide_false]; exact ih
variable {P : Program} {n : Nat} {ops : Array Oper} {rest : List Oper} {K : Env → World → Prop} {σ : Env} {w w0 : World} {h0 h : Heap} {own : Own} {ty : TypeId} {pos : String} {aft : Array Edge} {d : Nat} {dst : Option Tmp} {g : Option (Nat × Bool)}
/-- delete -/
theorem OpsL.mapDelete [DecidableEq κ] {t kt et kty : TypeId} {kind : TypeDesc} {x y : Operand} {m : List (κ × υ)} {o : List (Nat × Obj)} {v : Value} {k : κ} {i : Nat} (st : St h0 w0 h w own) (hM : OM ek eu m o v) (hi : own[i]? = some o) (hn : (m.map (·.1)).Nodup) (hK : Key P kt kind ek) (ht : P.underlying t = some (.map kt et))
    (hx : ev σ x = v) (hy : ev σ y = ek k)
    (hk : ∀ o' w' own', own' = own.set i o' → OM ek eu (delM m k) o' v → ((delM m k).map (·.1)).Nodup → St h0 w0 h w' own' → OpsL P n ops rest K σ w') :
    OpsL P n ops (⟨none, .call ⟨.builtin .delete, #[x, y], #[t, kty]⟩, ty, pos, aft, none⟩ :: rest) K σ w := by
  obtain ⟨b, es, clock, rfl, rfl, hE, hB, hD⟩ := hM
  have hb := st.get hi
  have hg : (getObj b).run P w = .ok (.map es clock) w := by simp [getObj, Sem.run, hb]
  have hset : ∀ es' c', (setObj b (.map es' c')).run P w = .ok () { w with heap := w.heap.setIfInBounds b (.map es' c') } := by
    intro es' c'
    simp [setObj, Sem.run, hb]
  have hc := hK.check es.isEmpty k w
  have hnd : ((delM m k).map (·.1)).Nodup := (List.filter_sublist.map _).nodup hn
  cases hl : look m k with
  | none =>
    have hf := run_findKey hK k es.toList none (find_none hK.tells 0 hE hl) w
    refine OpsL.val rfl rfl (v := .tuple #[]) (w' := { w with heap := w.heap.setIfInBounds b (.map es clock) }) ?_ (hk _ _ _ rfl ⟨b, es, clock, rfl, rfl, by rw [delM_none hl]; exact hE, hB, hD⟩ hnd (st.set _ hi))
    refine run_bi rfl (vs := [.map (some b), ek k]) (by simp [hx, hy]) fun cs => ?_
    simp only [builtin, Builtin.delete_, Sem.run_bind, run_underlying ht, Result.andThen_ok, List.getElem?_toArray, List.getElem?_cons_zero, List.getElem?_cons_succ, hg, hc, hf, hset, Sem.run_pure]
  | some q =>
    obtain ⟨j, h1, h2, _, h4⟩ := find_some hK.tells 0 hE hl
    have hf := run_findKey hK k es.toList _ h4 w
    simp only [Nat.zero_add] at hf
    have hlen := hE.len
    have hes : (es.eraseIdxIfInBounds j).toList = es.toList.eraseIdx j := by
      unfold Array.eraseIdxIfInBounds
      split
      · simp
      · rename_i hq; rw [List.eraseIdx_of_length_le (by simpa using hq)]
    have hsub : (es.toList.eraseIdx j).Sublist es.toList := List.eraseIdx_sublist _ _
    refine OpsL.val rfl rfl (v := .tuple #[]) (w' := { w with heap := w.heap.setIfInBounds b (.map (es.eraseIdxIfInBounds j) clock) }) ?_ (hk _ _ _ rfl ⟨b, es.eraseIdxIfInBounds j, clock, rfl, rfl, ?_, ?_, ?_⟩ hnd (st.set _ hi))
    · refine run_bi rfl (vs := [.map (some b), ek k]) (by simp [hx, hy]) fun cs => ?_
      simp only [builtin, Builtin.delete_, Sem.run_bind, run_underlying ht, Result.andThen_ok, List.getElem?_toArray, List.getElem?_cons_zero, List.getElem?_cons_succ, hg, hc, hf, hset, Sem.run_pure]
    · rw [hes, delM_erase hn h2]; exact hE.erase j
    · intro e he
      rw [hes] at he
      exact hB e (hsub.subset he)
    · rw [hes]; exact (hsub.map _).nodup hD
/-- an iterator over a frozen map: what is left -/
def MI (ek : κ → Value) (eu : υ → Value) (h : Heap) (v : Value) (o : List (Nat × Obj)) (vi : Value) (rm : List (κ × υ)) : Prop :=
  ∃ b mb es clock seen, h mb = some (.map es clock) ∧ v = .map (some mb) ∧ (∀ e ∈ es.toList, e.born < clock) ∧ (es.toList.map (·.born)).Nodup ∧ o = [(b, .mapIter (some mb) clock seen clock)] ∧ vi = .pointer (some ⟨b, 0, none⟩) ∧ Ent ek eu (es.toList.filter fun e => !seen.contains e.born) rm
/-- .. and what it stands at -/
def MC (ek : κ → Value) (eu : υ → Value) (h : Heap) (o : List (Nat × Obj)) (vi : Value) (p : κ × υ) : Prop :=
  ∃ b mb es clock seen e, h mb = some (.map es clock) ∧ o = [(b, .mapIter (some mb) clock seen clock)] ∧ vi = .pointer (some ⟨b, 0, none⟩) ∧ e ∈ es.toList ∧ seen.back? = some e.born ∧ (es.toList.map (·.born)).Nodup ∧ e.key = ek p.1 ∧ e.val = eu p.2
theorem MI.up {h h' : Heap} {v vi : Value} {o : List (Nat × Obj)} {rm : List (κ × υ)} (f : MI ek eu h v o vi rm) (l : Le h h') : MI ek eu h' v o vi rm := by
  obtain ⟨b, mb, es, clock, seen, hb, q⟩ := f
  exact ⟨b, mb, es, clock, seen, l _ _ hb, q⟩
theorem MC.up {h h' : Heap} {vi : Value} {o : List (Nat × Obj)} {p : κ × υ} (f : MC ek eu h o vi p) (l : Le h h') : MC ek eu h' o vi p := by
  obtain ⟨b, mb, es, clock, seen, e, hb, q⟩ := f
  exact ⟨b, mb, es, clock, seen, e, l _ _ hb, q⟩
theorem OpsL.rangeM {t kt et : TypeId} {x : Operand} {m : List (κ × υ)} {v : Value} (st : St h0 w0 h w own) (hF : FM ek eu h m v) (hx : ev σ x = v) (ht : P.underlying t = some (.map kt et)) (hd : Nat.blt d n = true)
    (hk : ∀ o vi w', MI ek eu h v o vi m → St h0 w0 h w' (own ++ [o]) → OpsL P n ops rest K (upd σ d vi) w') :
    OpsL P n ops (⟨some d, .range t x, ty, pos, aft, none⟩ :: rest) K σ w := by
  obtain ⟨mb, es, clock, hb, rfl, hE, hB, hD⟩ := hF
  have hg : (getObj mb).run P w = .ok (.map es clock) w := by simp [getObj, Sem.run, st.sub _ _ hb]
  refine OpsL.val rfl hd (v := .pointer (some ⟨w.heap.size, 0, none⟩)) (w' := w.alloc (.mapIter (some mb) clock #[] clock)) ?_ (hk [(w.heap.size, .mapIter (some mb) clock #[] clock)] _ _ ⟨_, mb, es, clock, #[], hb, rfl, hB, hD, rfl, rfl, ?_⟩ (st.alloc _))
  · simp [Run, execOp, hx, Instr.range, run_underlying ht, hg]
  · have : (es.toList.filter fun e => !(#[] : Array Nat).contains e.born) = es.toList := by
      rw [List.filter_eq_self]; intro e _; simp
    rw [this]; exact hE
theorem Ent.split : ∀ {l1 l2 : List MapEntry} {e : MapEntry} {rm : List (κ × υ)}, Ent ek eu (l1 ++ e :: l2) rm → ∃ p rm', rm.Perm (p :: rm') ∧ e.key = ek p.1 ∧ e.val = eu p.2 ∧ Ent ek eu (l1 ++ l2) rm'
  | [], l2, e, [], h => h.elim
  | [], l2, e, p :: rm, h => ⟨p, rm, List.Perm.refl _, h.1, h.2.1, h.2.2⟩
  | _ :: _, _, _, [], h => h.elim
  | e1 :: l1, l2, e, q :: rm, h => by
    obtain ⟨p, rm', h1, h2, h3, h4⟩ := Ent.split (l1 := l1) (l2 := l2) (e := e) h.2.2
    exact ⟨p, q :: rm', (h1.cons q).trans (List.Perm.swap p q rm'), h2, h3, ⟨h.1, h.2.1, h4⟩⟩
theorem run_chooseN {N : Nat} (hN : 0 < N) (w : World) : ∃ c w', (choose (.mapNext N)).run P w = .ok c w' ∧ c < N ∧ (w' = w ∨ w' = w.drew) := by
  cases hf : (Question.mapNext N).forced with
  | true => exact ⟨0, w, by simp [choose, Sem.run, hf], hN, .inl rfl⟩
  | false => exact ⟨_, w.drew, by simp only [choose, Sem.run, hf, Bool.false_eq_true, if_false]; rfl, Nat.mod_lt _ hN, .inr rfl⟩
theorem OpsL.nextM [DecidableEq κ] {x : Operand} {v vi : Value} {o : List (Nat × Obj)} {rm : List (κ × υ)} {i : Nat} (st : St h0 w0 h w own) (hI : MI ek eu h v o vi rm) (hi : own[i]? = some o) (hx : ev σ x = vi) (hd : Nat.blt d n = true)
    (hE : rm = [] → ∀ w', St h0 w0 h w' own → OpsL P n ops rest K (upd σ d (.tuple #[.bool false])) w')
    (hN : ∀ p rm' o' w' own', own' = own.set i o' → rm.Perm (p :: rm') → MI ek eu h v o' vi rm' → MC ek eu h o' vi p → St h0 w0 h w' own' → OpsL P n ops rest K (upd σ d (.tuple #[.bool true, ek p.1, eu p.2])) w') :
    OpsL P n ops (⟨some d, .next x false, ty, pos, aft, none⟩ :: rest) K σ w := by
  obtain ⟨b, mb, es, clock, seen, hb, rfl, hB, hD, rfl, rfl, hent⟩ := hI
  have hmb := st.sub _ _ hb
  have hib := st.get hi
  have hg1 : (getObj b).run P w = .ok (.mapIter (some mb) clock seen clock) w := by simp [getObj, Sem.run, hib]
  have hg2 : (getObj mb).run P w = .ok (.map es clock) w := by simp [getObj, Sem.run, hmb]
  have hnot : (!seen.isEmpty && !es.isEmpty && es.all (fun e => decide (e.born ≥ clock))) = false := by
    cases hes : es.isEmpty with
    | true => simp
    | false =>
      have : es.all (fun e => decide (e.born ≥ clock)) = false := by
        rw [Bool.eq_false_iff]
        intro hall
        rw [Array.all_eq_true'] at hall
        have hne : es.toList ≠ [] := by
          intro e; rw [Array.isEmpty] at hes; simp at hes; exact hes (by simpa using e)
        obtain ⟨e, he⟩ := List.exists_mem_of_ne_nil _ hne
        have h1 := hall e (by simpa using he)
        have h2 := hB e he
        simp at h1; omega
      rw [this]; simp
  -- what is left, and what of it is old: all
  have hleft : (es.filter fun e => !seen.contains e.born).toList = es.toList.filter fun e => !seen.contains e.born := by simp
  have hold : ((es.filter fun e => !seen.contains e.born).filter fun e => decide (e.born < clock)) = es.filter fun e => !seen.contains e.born := by
    rw [Array.filter_eq_self]
    intro e he
    have : e ∈ es.toList := by
      have := (Array.mem_filter.1 he).1; simpa using this
    simpa using hB e this
  have hnew : ((es.filter fun e => !seen.contains e.born).filter fun e => decide (e.born ≥ clock)) = #[] := by
    rw [Array.filter_eq_empty_iff]
    intro e he
    have : e ∈ es.toList := by
      have := (Array.mem_filter.1 he).1; simpa using this
    have := hB e this
    simp; omega
  cases hlf : es.toList.filter (fun e => !seen.contains e.born) with
  | nil =>
    rw [hlf] at hent
    have hrm : rm = [] := by
      cases rm with
      | nil => rfl
      | cons p r => exact hent.elim
    have hl0 : (es.filter fun e => !seen.contains e.born) = #[] := by
      apply Array.ext'; rw [hleft, hlf]
    obtain ⟨c, w', hr, hc, hw'⟩ := run_chooseN (P := P) (N := 1) (by omega) w
    have hc0 : c = 0 := by omega
    subst hc0
    have st' : St h0 w0 h w' own := by
      rcases hw' with rfl | rfl
      · exact st
      · exact st.drew
    refine OpsL.val rfl hd (v := .tuple #[.bool false]) (w' := w') ?_ (hE hrm _ st')
    rw [hl0] at hold hnew
    simp only [Run, execOp, hx, Instr.next, Sem.run_bind, hg1, Result.andThen_ok, hg2, hnot, Bool.false_eq_true, if_false, hl0, hold, hnew, Sem.run_pure]
    have e1 : ((if (#[] : Array MapEntry).isEmpty = true then #[none] else #[]) ++ ((#[] : Array MapEntry) ++ #[]).map some).size = 1 := by simp
    rw [e1, hr]
    simp
  | cons e0 l0 =>
    have hsz : 0 < (es.filter fun e => !seen.contains e.born).size := by
      rw [← Array.length_toList, hleft, hlf]; simp
    have hne : (es.filter fun e => !seen.contains e.born).isEmpty = false := by
      cases hq : (es.filter fun e => !seen.contains e.born).isEmpty with
      | false => rfl
      | true => rw [Array.isEmpty_iff] at hq; rw [hq] at hsz; simp at hsz
    obtain ⟨c, w1, hr1, hclt, hw1⟩ := run_chooseN (P := P) hsz w
    have st1 : St h0 w0 h w1 own := by
      rcases hw1 with rfl | rfl
      · exact st
      · exact st.drew
    have hib1 := st1.get hi
    obtain ⟨e, he⟩ : ∃ e, e = (es.filter fun e => !seen.contains e.born)[c] := ⟨_, rfl⟩
    have hget : (es.toList.filter fun e => !seen.contains e.born)[c]? = some e := by
      rw [← hleft, Array.getElem?_toList, Array.getElem?_eq_getElem hclt, he]
    have hcl : c < (es.toList.filter fun e => !seen.contains e.born).length := (List.getElem?_eq_some_iff.1 hget).1
    have hsplit : (es.toList.filter fun e => !seen.contains e.born) = (es.toList.filter fun e => !seen.contains e.born).take c ++ e :: (es.toList.filter fun e => !seen.contains e.born).drop (c + 1) := by
      have h1 : (es.toList.filter fun e => !seen.contains e.born)[c] = e := (List.getElem?_eq_some_iff.1 hget).2
      rw [← h1, List.getElem_cons_drop hcl, List.take_append_drop]
    rw [hsplit] at hent
    obtain ⟨p, rm', hp, hk1, hk2, hent'⟩ := hent.split
    have hmem : e ∈ es.toList := (List.mem_filter.1 (List.mem_of_getElem? hget)).1
    have hrest : (es.toList.filter fun e' => !(seen.push e.born).contains e'.born) = (es.toList.filter fun e => !seen.contains e.born).take c ++ (es.toList.filter fun e => !seen.contains e.born).drop (c + 1) := by
      have h1 : (es.toList.filter fun e' => !(seen.push e.born).contains e'.born) = (es.toList.filter fun e => !seen.contains e.born).filter fun e' => !decide (e'.born = e.born) := by
        rw [List.filter_filter]
        apply List.filter_congr
        intro e' _
        simp [Array.contains_eq_mem, Array.mem_push]
        rw [Bool.and_comm]
      have hnd : ((es.toList.filter fun e => !seen.contains e.born).map (·.born)).Nodup := (List.filter_sublist.map _).nodup hD
      rw [h1]
      have hnd2 := hnd
      rw [hsplit, List.map_append, List.map_cons, List.nodup_append, List.nodup_cons] at hnd2
      conv => lhs; rw [hsplit]
      rw [List.filter_append, List.filter_cons]
      simp only [decide_true, Bool.not_true, Bool.false_eq_true, if_false]
      congr 1
      · rw [List.filter_eq_self]
        intro q hq
        have := hnd2.2.2 q.born (List.mem_map_of_mem hq) e.born (List.mem_cons_self ..)
        simp [this]
      · rw [List.filter_eq_self]
        intro q hq
        have : q.born ≠ e.born := fun h => hnd2.2.1.1 (h ▸ List.mem_map_of_mem hq)
        simp [this]
    have hset : (setObj b (.mapIter (some mb) clock (seen.push e.born) clock)).run P w1 = .ok () { w1 with heap := w1.heap.setIfInBounds b (.mapIter (some mb) clock (seen.push e.born) clock) } := by
      simp [setObj, Sem.run, hib1]
    refine OpsL.val rfl hd (v := .tuple #[.bool true, ek p.1, eu p.2]) (w' := { w1 with heap := w1.heap.setIfInBounds b (.mapIter (some mb) clock (seen.push e.born) clock) }) ?_ (hN p rm' [(b, .mapIter (some mb) clock (seen.push e.born) clock)] _ _ rfl hp ⟨b, mb, es, clock, _, hb, rfl, hB, hD, rfl, rfl, ?_⟩ ⟨b, mb, es, clock, _, e, hb, rfl, rfl, hmem, by simp, hD, hk1, hk2⟩ (st1.set _ hi))
    · simp only [Run, execOp, hx, Instr.next, Sem.run_bind, hg1, Result.andThen_ok, hg2, hnot, Bool.false_eq_true, if_false, hold, hnew, hne, Sem.run_pure]
      have hcand : ((#[] ++ ((es.filter fun e : MapEntry => !seen.contains e.born) ++ #[]).map some : Array (Option MapEntry)))[c]? = some (some e) := by
        rw [he]; simp only [Array.append_empty, Array.empty_append, Array.getElem?_map, Array.getElem?_eq_getElem hclt, Option.map_some]
      have hcs : (#[] ++ ((es.filter fun e : MapEntry => !seen.contains e.born) ++ #[]).map some : Array (Option MapEntry)).size = (es.filter fun e : MapEntry => !seen.contains e.born).size := by simp only [Array.append_empty, Array.empty_append, Array.size_map]
      rw [hcs, hr1]
      simp only [Result.andThen_ok, hcand, Sem.run_bind, hset, Sem.run_pure, hk1, hk2]
    · rw [hrest]; exact hent'
theorem r_entry {x : Operand} {vi : Value} {o : List (Nat × Obj)} {p : κ × υ} (hs : Sub h w) (hC : MC ek eu h o vi p) (hw : ∀ b ob, o = [(b, ob)] → w.heap[b]? = some ob) (hx : ev σ x = vi) :
    Run P σ w ⟨dst, .entry x, ty, pos, aft, g⟩ (.tuple [ek p.1, eu p.2].toArray) w := by
  obtain ⟨b, mb, es, clock, seen, e, hb, rfl, rfl, hm, hs', hD, h1, h2⟩ := hC
  have hg1 : (getObj b).run P w = .ok (.mapIter (some mb) clock seen clock) w := by simp [getObj, Sem.run, hw _ _ rfl]
  have hg2 : (getObj mb).run P w = .ok (.map es clock) w := by simp [getObj, Sem.run, hs _ _ hb]
  have hf : es.find? (fun q => q.born == e.born) = some e := by
    rw [← Array.find?_toList]
    obtain ⟨j, hj⟩ := List.mem_iff_getElem?.1 hm
    obtain ⟨hl, hj'⟩ := List.getElem?_eq_some_iff.1 hj
    rw [List.find?_eq_some_iff_getElem]
    refine ⟨by simp, j, hl, hj', fun q hq => ?_⟩
    have := List.pairwise_iff_getElem.1 hD q j (by rw [List.length_map]; omega) (by simpa using hl) hq
    simp only [List.getElem_map, hj'] at this
    simpa using this
  simp [Run, execOp, hx, Instr.entry, hg1, hg2, hs', hf, h1, h2]
theorem r_look_fm [DecidableEq κ] {t kt et : TypeId} {kind : TypeDesc} {x y : Operand} {m : List (κ × υ)} {v zv : Value} {k : κ} {zu : υ} (hK : Key P kt kind ek) (ht : P.underlying t = some (.map kt et)) (hM : FM ek eu h m v) (hs : Sub h w)
    (hz : ∀ w, (zeroValue et).run P w = .ok zv w) (hzu : zv = eu zu) (hx : ev σ x = v) (hy : ev σ y = ek k) :
    Run P σ w ⟨dst, .lookup t x y false, ty, pos, aft, g⟩ (eu ((look m k).getD zu)) w := by
  obtain ⟨o, h1, h2⟩ := hM.om hs
  exact r_look hK ht h1 h2 hz hzu hx hy
theorem r_look_ok_fm [DecidableEq κ] {t kt et : TypeId} {kind : TypeDesc} {x y : Operand} {m : List (κ × υ)} {v zv : Value} {k : κ} {zu : υ} (hK : Key P kt kind ek) (ht : P.underlying t = some (.map kt et)) (hM : FM ek eu h m v) (hs : Sub h w)
    (hz : ∀ w, (zeroValue et).run P w = .ok zv w) (hzu : zv = eu zu) (hx : ev σ x = v) (hy : ev σ y = ek k) :
    Run P σ w ⟨dst, .lookup t x y true, ty, pos, aft, g⟩ (.tuple [eu ((look m k).getD zu), .bool (look m k).isSome].toArray) w := by
  obtain ⟨o, h1, h2⟩ := hM.om hs
  exact r_look_ok hK ht h1 h2 hz hzu hx hy
end
/-- a slice, compared with nil -/
theorem Sl.nilb {P : Program} {α : Type} {L : Lay α} {h : Heap} {v : Value} {xs : List α} (hs : Sl L h v xs) : ∃ b, (b = true → xs = []) ∧ ∀ {σ : Env} {w : World} {ty : TypeId} {pos : String} {aft : Array Edge} {g : Option (Nat × Bool)} {dst : Option Tmp} {t t' : TypeId} {e : TypeId} {x y : Operand}, P.underlying t = some (.slice e) → ev σ x = v → ev σ y = .slice none 0 0 →
    Run P σ w ⟨dst, .binOp .eql t x y t', ty, pos, aft, g⟩ (.bool b) w := by
  obtain ⟨p, c, rfl, _, hh⟩ := hs
  refine ⟨p.isNone, ?_, ?_⟩
  · intro hp
    rcases hh with rfl | ⟨b, off, rfl, _⟩
    · rfl
    · cases hp
  · intro σ w ty pos aft g dst t t' e x y ht hx hy
    have hr := run_equal_slice_nil (P := P) w t e p xs.length c ht
    simp [Run, execOp, hx, hy, eqGuard, binOp, hr]
section
variable {P : Program} {n : Nat} {ops : Array Oper} {rest : List Oper} {K : Env → World → Prop} {σ : Env} {w w0 : World} {h0 h : Heap} {own : Own} {ty ty' : TypeId} {pos pos' : String} {aft aft' : Array Edge} {d : Nat}
theorem spliced_all : ∀ (us pre cs : List Value), us.length = cs.length → spliced (pre ++ cs) pre.length us = pre ++ us
  | [], pre, [], _ => by simp [spliced]
  | u :: us, pre, c :: cs, h => by
    have := spliced_all us (pre ++ [u]) cs (by simpa using h)
    simp only [spliced, List.set_append_right _ _ (Nat.le_refl _), Nat.sub_self, List.set_cons_zero]
    simpa using this
  | [], _, _ :: _, h => by simp at h
  | _ :: _, _, [], h => by simp at h
/-- a new variable, laid and filled at once: frozen -/
theorem OpsL.allocSt (st : St h0 w0 h w own) {e t : TypeId} {z : Value} {cs us : List Value} {x y : Operand} (hz : ∀ w, (zeroValue e).run P w = .ok z w) (hc : z.cells = cs.toArray) (hd : Nat.blt d n = true)
    (hx : x = .tmp d) (hy : ∀ b, ev (upd σ d (.pointer (some ⟨b, 0, none⟩))) y = .agg us.toArray) (h1 : us.all (·.oneCell') = true) (hs : ∀ w, (sizeOf t).run P w = .ok us.length w) (hl : us.length = cs.length)
    (hk : ∀ b w' h', Le h h' → Cells h' b 0 us → St h0 w0 h' w' own → OpsL P n ops rest K (upd σ d (.pointer (some ⟨b, 0, none⟩))) w') :
    OpsL P n ops (⟨some d, .alloc e, ty, pos, aft, none⟩ :: ⟨none, .store t x y, ty', pos', aft', none⟩ :: rest) K σ w := by
  refine OpsL.allocO st hz hc hd fun b w1 st1 => ?_
  subst hx
  refine OpsL.storeN st1 (k := own.length) (b := b) (off := 0) (cs := cs) (T := e) (us := us) (by simp) (by simp [ev, upd]) (hy b) h1 hs (by simp [hl]) (cs' := us) ?_ rfl fun w2 st2 => ?_
  · have := spliced_all us [] cs hl
    simpa using this
  · have e1 : (own ++ [[(b, Obj.cells cs.toArray e)]]).set own.length [(b, .cells us.toArray e)] = own ++ [[(b, .cells us.toArray e)]] := by simp
    rw [e1] at st2
    obtain ⟨h', hle, hb, st3⟩ := st2.freeze (k := own.length) (b := b) (o := .cells us.toArray e) (by simp)
    have e2 : (own ++ [[(b, Obj.cells us.toArray e)]]).set own.length [] = own ++ [[]] := by simp
    rw [e2] at st3
    exact hk b w2 h' hle (Cells.of hb) ⟨st3.le, st3.new, st3.sub, st3.below, fun p hp => st3.mine p (by simpa using hp), by simpa using st3.nodup⟩
end
theorem St.perm {h0 h : Heap} {w0 w : World} {own own' : Own} (st : St h0 w0 h w own) (hp : own.Perm own') : St h0 w0 h w own' := by
  have e : own.flatten.Perm own'.flatten := hp.flatten
  exact ⟨st.le, st.new, st.sub, st.below, fun p hq => st.mine p (e.mem_iff.2 hq), (e.map _).nodup_iff.1 st.nodup⟩
/-- an empty slice written out: no room in it -/
theorem OpsL.sliceZ {P : Program} {n : Nat} {ops : Array Oper} {rest : List Oper} {K : Env → World → Prop} {σ : Env} {w w0 : World} {h0 h : Heap} {own : Own} {ty : TypeId} {pos : String} {aft : Array Edge} {d : Nat} {t e : TypeId} (st : St h0 w0 h w own) (hd : Nat.blt d n = true) (hs : ∃ m, ∀ w, (sizeOf e).run P w = .ok m w) (ht : P.underlying t = some (.slice e))
    (hK : ∀ v w', (∃ p, v = .slice p 0 0) → St h0 w0 h w' own → OpsL P n ops rest K (upd σ d v) w') :
    OpsL P n ops (⟨some d, .buildSlice t 0 #[], ty, pos, aft, none⟩ :: rest) K σ w := by
  obtain ⟨m, hs⟩ := hs
  have st1 := (st.alloc (.cells #[] e)).take own.length
  rw [List.take_left'] at st1
  · refine OpsL.val rfl hd (v := .slice (some ⟨w.heap.size, 0, none⟩) 0 0) (w' := w.alloc (.cells #[] e)) ?_ (hK _ _ ⟨_, rfl⟩ st1)
    have e0 : Array.range 0 = #[] := rfl
    simp [Run, execOp, Instr.buildSlice, run_underlying ht, hs, Instr.fill, newRow, e0]
  · rfl
/-- a result that stands in a variable of its own -/
theorem Post.retcell {fn : Func} {P : Program} {R : Ending → World → Prop} {a b n : Nat} {t : TypeId} {σ : Env} {w : World} {cs : List Value} {T : TypeId} (hr : fn.results = #[.cell a t]) (hp : σ a = .pointer (some ⟨b, 0, none⟩)) (ha : ∀ w, (isAgg t).run P w = .ok true w) (hz : ∀ w, (sizeOf t).run P w = .ok n w) (hn : cs.length = n)
    (hb : w.heap[b]? = some (.cells cs.toArray T)) (h : R (.returned (.agg cs.toArray)) w) : Post fn P R .ret σ w := by
  intro tmps ht
  refine ⟨_, ?_, h⟩
  subst hn
  have hl := run_loadCells_list (P := P) (w := w) ⟨b, 0, none⟩ cs (fun j v hj => by rw [addr_add]; simp [World.cell?, hb, hj])
  have hp' : tmps.getD a undef = .pointer (some ⟨b, 0, none⟩) := by rw [ht, hp]
  simp only [Array.getD_eq_getD_getElem?] at hp'
  simp [results, hr, hp', asAddr, loadVar, ha, hz, hl]
theorem Post.endcell {fn : Func} {P : Program} {R : Ending → World → Prop} {a b n : Nat} {t : TypeId} {σ : Env} {w : World} {cs : List Value} {T : TypeId} (hr : fn.results = #[.cell a t]) (hp : σ a = .pointer (some ⟨b, 0, none⟩)) (ha : ∀ w, (isAgg t).run P w = .ok true w) (hz : ∀ w, (sizeOf t).run P w = .ok n w) (hn : cs.length = n)
    (hb : w.heap[b]? = some (.cells cs.toArray T)) (h : R (.returned (.agg cs.toArray)) w) : Post fn P R .normal σ w := Post.retcell (P := P) hr hp ha hz hn hb h
theorem Post.retcellF {fn : Func} {P : Program} {R : Ending → World → Prop} {a b n : Nat} {t : TypeId} {σ : Env} {w : World} {cs : List Value} {h : Heap} (hr : fn.results = #[.cell a t]) (hp : σ a = .pointer (some ⟨b, 0, none⟩)) (ha : ∀ w, (isAgg t).run P w = .ok true w) (hz : ∀ w, (sizeOf t).run P w = .ok n w) (hn : cs.length = n)
    (hs : Sub h w) (hb : Cells h b 0 cs) (hR : R (.returned (.agg cs.toArray)) w) : Post fn P R .ret σ w := by
  intro tmps ht
  refine ⟨_, ?_, hR⟩
  subst hn
  have hl := run_loadCells_list (P := P) (w := w) ⟨b, 0, none⟩ cs (fun j v hj => by rw [addr_add]; exact hb.cell hs hj)
  have hp' : tmps.getD a undef = .pointer (some ⟨b, 0, none⟩) := by rw [ht, hp]
  simp only [Array.getD_eq_getD_getElem?] at hp'
  simp [results, hr, hp', asAddr, loadVar, ha, hz, hl]
theorem Post.endcellF {fn : Func} {P : Program} {R : Ending → World → Prop} {a b n : Nat} {t : TypeId} {σ : Env} {w : World} {cs : List Value} {h : Heap} (hr : fn.results = #[.cell a t]) (hp : σ a = .pointer (some ⟨b, 0, none⟩)) (ha : ∀ w, (isAgg t).run P w = .ok true w) (hz : ∀ w, (sizeOf t).run P w = .ok n w) (hn : cs.length = n)
    (hs : Sub h w) (hb : Cells h b 0 cs) (hR : R (.returned (.agg cs.toArray)) w) : Post fn P R .normal σ w := Post.retcellF (P := P) hr hp ha hz hn hs hb hR
theorem Sl.form {α : Type} {L : Lay α} {h : Heap} {v : Value} {xs : List α} (hs : Sl L h v xs) : ∃ p c, v = .slice p xs.length c := by
  obtain ⟨p, c, rfl, _⟩ := hs; exact ⟨p, c, rfl⟩
end Go.Pk
