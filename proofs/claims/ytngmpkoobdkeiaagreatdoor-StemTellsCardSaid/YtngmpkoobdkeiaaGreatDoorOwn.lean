/- SLICES THAT THE WALK ITSELF GROWS. -/
import Derived.Test.YtngmpkoobdkeiaaGreatDoorCps
namespace Go.Pk
open Go Go.RowKit
section
variable {α : Type} {L : Lay α} {T : TypeId}
def Enc (L : Lay α) (h : Heap) (cs : List Value) (xs : List α) : Prop := cs.length = xs.length * L.size ∧ ∀ i x, xs[i]? = some x → L.R h ((cs.drop (i * L.size)).take L.size) x
def OSl (L : Lay α) (T : TypeId) (h : Heap) (v : Value) (xs : List α) (o : List (Nat × Obj)) : Prop :=
  ∃ cs, Enc L h cs xs ∧ (((∃ p, v = .slice p 0 0) ∧ xs = [] ∧ o = []) ∨ ∃ g cap cur, v = .slice (some ⟨g, 0, none⟩) xs.length cap ∧ o = [(g, .cells cur T)] ∧ xs.length ≤ cap ∧ cap ≤ maxLen ∧ cur.size = cap * L.size ∧ cur.toList.take (xs.length * L.size) = cs)
theorem Enc.up {h h' : Heap} {cs : List Value} {xs : List α} (e : Enc L h cs xs) (hl : Le h h') : Enc L h' cs xs := ⟨e.1, fun i x hi => L.up (e.2 i x hi) hl⟩
theorem OSl.up {h h' : Heap} {v : Value} {xs : List α} {o : List (Nat × Obj)} (e : OSl L T h v xs o) (hl : Le h h') : OSl L T h' v xs o := by
  obtain ⟨cs, e1, e2⟩ := e
  exact ⟨cs, e1.up hl, e2⟩
theorem OSl.nil (L : Lay α) (T : TypeId) (h : Heap) : OSl L T h (.slice none 0 0) [] [] := ⟨[], ⟨by simp, by simp⟩, .inl ⟨⟨_, rfl⟩, rfl, rfl⟩⟩
/-- a slice that has no room -/
theorem OSl.nil0 (L : Lay α) (T : TypeId) (h : Heap) {v : Value} (hv : ∃ p, v = .slice p 0 0) : OSl L T h v [] [] := ⟨[], ⟨by simp, by simp⟩, .inl ⟨hv, rfl, rfl⟩⟩
theorem OSl.to {h : Heap} {v : Value} {xs ys : List α} {o : List (Nat × Obj)} (e : OSl L T h v xs o) (eq : xs = ys) : OSl L T h v ys o := eq ▸ e
theorem OSl.form {h : Heap} {v : Value} {xs : List α} {o : List (Nat × Obj)} (e : OSl L T h v xs o) : ∃ p c, v = .slice p xs.length c := by
  obtain ⟨cs, _, ⟨⟨p, rfl⟩, rfl, _⟩ | ⟨g, cap, cur, rfl, _⟩⟩ := e
  · exact ⟨_, _, rfl⟩
  · exact ⟨_, _, rfl⟩
theorem OSl.one {h : Heap} {v : Value} {xs : List α} {o : List (Nat × Obj)} (e : OSl L T h v xs o) : v.oneCell' = true := by
  obtain ⟨p, c, rfl⟩ := e.form; rfl
theorem Enc.one {h : Heap} {cs : List Value} {xs : List α} (e : Enc L h cs xs) (hp : 0 < L.size) : ∀ u ∈ cs, u.oneCell' = true := by
  intro u hu
  obtain ⟨j, hj⟩ := List.mem_iff_getElem?.1 hu
  obtain ⟨h1, h2⟩ := List.getElem?_eq_some_iff.1 hj
  have hi : j / L.size < xs.length := by rw [e.1] at h1; exact Nat.div_lt_of_lt_mul (by rwa [Nat.mul_comm])
  have hr := e.2 (j / L.size) _ (List.getElem?_eq_getElem hi)
  refine L.one hr u ?_
  refine List.mem_iff_getElem?.2 ⟨j % L.size, ?_⟩
  rw [List.getElem?_take, if_pos (Nat.mod_lt _ hp), List.getElem?_drop]
  rw [Nat.mul_comm, Nat.div_add_mod]
  exact hj
theorem Enc.append {h : Heap} {cs ds : List Value} {xs ys : List α} (e : Enc L h cs xs) (f : Enc L h ds ys) : Enc L h (cs ++ ds) (xs ++ ys) := by
  refine ⟨by rw [List.length_append, List.length_append, e.1, f.1, Nat.add_mul], fun i x hi => ?_⟩
  by_cases hlt : i < xs.length
  · rw [List.getElem?_append_left hlt] at hi
    have hr := e.2 i x hi
    have hle : i * L.size + L.size ≤ cs.length := by
      rw [e.1, ← Nat.succ_mul]; exact Nat.mul_le_mul_right _ hlt
    rw [List.drop_append_of_le_length (by omega), List.take_append_of_le_length (by rw [List.length_drop]; omega)]
    exact hr
  · rw [List.getElem?_append_right (by omega)] at hi
    have hr := f.2 _ x hi
    have e1 : i * L.size = cs.length + (i - xs.length) * L.size := by
      rw [e.1, ← Nat.add_mul]; congr 1; omega
    rw [e1, List.drop_append, List.drop_eq_nil_of_le (by omega), List.nil_append, Nat.add_sub_cancel_left]
    exact hr
/-- the cells of something frozen, in one list -/
theorem Sl.enc {h : Heap} {v : Value} {xs : List α} (hs : Sl L h v xs) : ∃ p c cs, v = .slice p xs.length c ∧ Enc L h cs xs ∧ (xs = [] ∨ ∃ b off, p = some ⟨b, off, none⟩ ∧ ∀ w, Sub h w → ∀ j u, cs[j]? = some u → w.cell? ⟨b, off + j, none⟩ = some u) := by
  obtain ⟨p, c, rfl, _, hh⟩ := hs
  rcases hh with rfl | ⟨b, off, rfl, hh⟩
  · exact ⟨p, c, [], rfl, ⟨by simp, by simp⟩, .inl rfl⟩
  · have hx : ∀ i (hi : i < xs.length), ∃ vs, Cells h b (off + i * L.size) vs ∧ L.R h vs xs[i] := fun i hi => hh i _ (List.getElem?_eq_getElem hi)
    -- the cells, read in the heap
    have key : ∀ n, n ≤ xs.length → ∃ cs, Enc L h cs (xs.take n) ∧ ∀ w, Sub h w → ∀ j u, cs[j]? = some u → w.cell? ⟨b, off + j, none⟩ = some u := by
      intro n
      induction n with
      | zero => intro _; exact ⟨[], ⟨by simp, by simp⟩, by simp⟩
      | succ n ih =>
        intro hn
        obtain ⟨cs, e, hc⟩ := ih (by omega)
        obtain ⟨vs, hv, hr⟩ := hx n (by omega)
        have hvl := L.len hr
        have hcl : cs.length = n * L.size := by rw [e.1, List.length_take, Nat.min_eq_left (by omega)]
        refine ⟨cs ++ vs, ?_, fun w hs j u hj => ?_⟩
        · have f : Enc L h vs [xs[n]] := ⟨by simp [hvl], fun i x hi => by
            cases i with
            | zero => simp at hi; subst hi; simpa [← hvl] using hr
            | succ i => simp at hi⟩
          have := e.append f
          rwa [← List.take_succ_eq_append_getElem (by omega)] at this
        · by_cases hlt : j < cs.length
          · rw [List.getElem?_append_left hlt] at hj; exact hc w hs j u hj
          · rw [List.getElem?_append_right (by omega)] at hj
            have := hv.cell hs hj
            rw [hcl] at this hlt
            have e2 : off + n * L.size + (j - n * L.size) = off + j := by omega
            rwa [e2] at this
    obtain ⟨cs, e, hc⟩ := key xs.length (Nat.le_refl _)
    rw [List.take_length] at e
    exact ⟨_, c, cs, rfl, e, .inr ⟨b, off, rfl, hc⟩⟩
/-- what was grown may be frozen -/
theorem OSl.freeze {h0 h : Heap} {w0 w : World} {own : Own} {k : Nat} {v : Value} {xs : List α} {o : List (Nat × Obj)} (st : St h0 w0 h w own) (e : OSl L T h v xs o) (hk : own[k]? = some o) (hb : xs.length ≤ 281474976710656) :
    ∃ h', Le h h' ∧ Sl L h' v xs ∧ St h0 w0 h' w (own.set k []) := by
  obtain ⟨cs, e1, ⟨⟨p, rfl⟩, rfl, rfl⟩ | ⟨g, cap, cur, rfl, rfl, _, _, hsz, htk⟩⟩ := e
  · exact ⟨h, Le.refl h, ⟨p, 0, rfl, Nat.zero_le _, .inl rfl⟩, st.drop k⟩
  · obtain ⟨h', hl, hg, st'⟩ := st.freeze hk
    refine ⟨h', hl, ⟨_, cap, rfl, hb, .inr ⟨g, 0, rfl, fun i x hi => ⟨_, ⟨cur, T, _, hg, fun j u hj => ?_⟩, L.up (e1.2 i x hi) hl⟩⟩⟩, st'⟩
    have hjl : j < L.size := by
      rw [List.getElem?_take] at hj
      split at hj
      · assumption
      · cases hj
    rw [List.getElem?_take, if_pos hjl, List.getElem?_drop, ← htk, List.getElem?_take] at hj
    split at hj
    · rw [Nat.zero_add]; simpa using hj
    · cases hj
theorem St.put {h0 h : Heap} {w0 w : World} {own : Own} {k : Nat} {o : List (Nat × Obj)} (st : St h0 w0 h w own) (hk : own[k]? = some o) (ob : Obj) (w' : World) (hw : w'.heap = w.heap.push ob) (e1 : w'.os = w.os) (e2 : w'.tape = w.tape) (e3 : w'.output = w.output) (e4 : w.drawn ≤ w'.drawn) :
    St h0 w0 h w' (own.set k [(w.heap.size, ob)]) := by
  have st1 := (st.alloc ob).drop k
  have hlt : k < own.length := by
    rcases Nat.lt_or_ge k own.length with h1 | h1
    · exact h1
    · rw [List.getElem?_eq_none h1] at hk; cases hk
  have st2 : St h0 w0 h w' ((own ++ [[(w.heap.size, ob)]]).set k []) := st1.same (w' := w') (by rw [hw]; rfl) e1 e2 e3 e4
  rw [List.set_append_left _ _ hlt] at st2
  -- the new entry stands at k
  have hp : (own.set k [(w.heap.size, ob)]).flatten.Perm ((own.set k [] ++ [[(w.heap.size, ob)]]).flatten) := by
    rw [List.set_eq_take_append_cons_drop, if_pos hlt, List.set_eq_take_append_cons_drop, if_pos hlt]
    simp only [List.flatten_append, List.flatten_cons, List.nil_append, List.flatten_nil, List.append_nil, List.append_assoc]
    exact List.Perm.append_left _ (List.perm_append_comm (l₁ := [(w.heap.size, ob)]))
  exact ⟨st2.le, st2.new, st2.sub, st2.below, fun p hq => st2.mine p (hp.mem_iff.1 hq), (hp.map _).nodup_iff.2 st2.nodup⟩
theorem run_append {P : Program} {h0 h : Heap} {w0 w : World} {own : Own} {k : Nat} {v v2 : Value} {xs ys : List α} {o : List (Nat × Obj)} {t e : TypeId} {i : TypeInfo} {z : Value} (ty : TypeId) (st : St h0 w0 h w own) (hO : OSl L e h v xs o) (hk : own[k]? = some o) (hS : Sl L h v2 ys)
    (ht : P.underlying t = some (.slice e)) (hi : P.info? e = some i) (hz : i.zero = some z) (hsize : i.size = L.size) (hzs : z.cells.size = L.size) (hpos : 0 < L.size) (hb : (xs.length + ys.length) * i.bytes ≤ 140737488355328) (h63 : xs.length + ys.length ≤ 281474976710656) :
    ∃ v' o' w', (Builtin.append_ #[t, t] ty #[v, v2]).run P w = .ok v' w' ∧ OSl L e h v' (xs ++ ys) o' ∧ St h0 w0 h w' (own.set k o') := by
  obtain ⟨p, c, ds, rfl, f1, f2⟩ := hS.enc
  obtain ⟨cs, e1, ee⟩ := hO
  have hm : maxLen = 9223372036854775807 := rfl
  have one := f1.one hpos
  have hlen : (cs ++ ds).length = (xs.length + ys.length) * i.size := by rw [List.length_append, e1.1, f1.1, Nat.add_mul, hsize]
  -- the row that is made anew
  have grown : ∀ old, old < xs.length + ys.length → OSl L e h (.slice (some ⟨w.heap.size, 0, none⟩) (xs.length + ys.length) (grownCap w (xs.length + ys.length) old e)) (xs ++ ys)
      [(w.heap.size, .cells (cs.toArray ++ ds.toArray ++ Builtin.zeroCells z.cells (grownCap w (xs.length + ys.length) old e - (xs.length + ys.length))) e)] := by
    intro old ho
    have hge := grownCap_ge w (xs.length + ys.length) old e
    have hcm : grownCap w (xs.length + ys.length) old e ≤ maxLen := grownCap_le_maxLen w _ old e (by omega)
    refine ⟨cs ++ ds, e1.append f1, .inr ⟨w.heap.size, grownCap w (xs.length + ys.length) old e, _, by rw [List.length_append], rfl, by rw [List.length_append]; exact hge, hcm, ?_, ?_⟩⟩
    · simp only [Array.size_append, List.size_toArray, size_zeroCells, hzs, e1.1, f1.1, ← Nat.add_mul]
      congr 1
      omega
    · rw [List.length_append, ← hsize, ← hlen]
      simp only [Array.toList_append, List.append_assoc]
      rw [← List.append_assoc]
      exact List.take_left
  rcases ee with ⟨⟨p0, rfl⟩, rfl, rfl⟩ | ⟨g, cap, cur, rfl, rfl, hnc, hcm, hcs, htk⟩
  · have hcs0 : cs = [] := List.eq_nil_of_length_eq_zero (by simpa using e1.1)
    subst hcs0
    by_cases hy : ys = []
    · subst hy
      refine ⟨.slice p0 0 0, [], w, ?_, by simpa using OSl.nil0 L e h ⟨p0, rfl⟩, st.drop k⟩
      cases p0 <;> cases p <;> simp [Builtin.append_, run_underlying ht, sizeOf, typeInfo, hi, Builtin.lenOf, Builtin.firstCells, loadCells, loadCellsFrom, storeCells]
    · rcases f2 with f2 | ⟨b, off, rfl, f2⟩
      · exact absurd f2 hy
      · have hy0 : 0 < ys.length := List.length_pos_iff.2 hy
        have hg := grown 0 (by simpa using hy0)
        cases p0 with
        | none =>
          have hr := run_append_nil (P := P) w t ty e i z ht hi hz ⟨b, off, none⟩ ys.length c ds (by rw [f1.1, hsize]) (fun j u hj => by rw [addr_add]; exact f2 w st.sub j u hj) hy0 (by omega) (by have := hb; simp only [List.length_nil, Nat.zero_add] at this; omega)
          simp only [List.length_nil, Nat.zero_add, List.nil_append, Array.empty_append] at hg
          have hr' : (Builtin.append_ #[t, t] ty #[.slice none ([] : List α).length 0, .slice (some ⟨b, off, none⟩) ys.length c]).run P w = _ := hr
          exact ⟨_, _, _, hr', by simpa using hg, st.put hk _ _ rfl rfl rfl rfl (Nat.le_succ _)⟩
        | some b0 =>
          have hr := run_append_grow (P := P) w t ty e i z ht hi hz b0 0 0 [] (by simp) (by simp) ⟨b, off, none⟩ ys.length c ds (by rw [f1.1, hsize]) (fun j u hj => by rw [addr_add]; exact f2 w st.sub j u hj) (by omega) (by omega) (growslice_fits (by omega) (by simpa using hb))
          exact ⟨_, _, _, hr, by simpa using hg, st.put hk _ _ rfl rfl rfl rfl (Nat.le_succ _)⟩
  · have hgw := st.get hk
    have hlt := lt_of_some hgw
    by_cases hroom : xs.length + ys.length ≤ cap
    · have hfit : xs.length * i.size + ds.length ≤ cur.size := by rw [f1.1, hcs, hsize, ← Nat.add_mul]; exact Nat.mul_le_mul_right _ hroom
      rcases f2 with f2 | ⟨b, off, rfl, f2⟩
      · subst f2
        have hds : ds = [] := List.eq_nil_of_length_eq_zero (by simpa using f1.1)
        subst hds
        refine ⟨.slice (some ⟨g, 0, none⟩) xs.length cap, [(g, .cells cur e)], w, ?_, ?_, ?_⟩
        · have hn : xs.length ≤ cap := hnc
          cases p <;> simp [Builtin.append_, run_underlying ht, sizeOf, typeInfo, hi, Builtin.lenOf, Builtin.firstCells, loadCells, loadCellsFrom, hn, storeCells]
        · rw [List.append_nil]; exact ⟨cs, e1, .inr ⟨g, cap, cur, rfl, rfl, hnc, hcm, hcs, htk⟩⟩
        · have e3 : own.set k [(g, .cells cur e)] = own := by
            apply List.ext_getElem?
            intro j
            rw [List.getElem?_set]
            split
            · rename_i e4; subst e4
              split
              · exact hk.symm
              · rename_i h5; rw [List.getElem?_eq_none (by omega)]
            · rfl
          rw [e3]; exact st
      · have hr := run_append_room (P := P) w t ty e i ht hi g xs.length cap cur hgw ⟨b, off, none⟩ ys.length c ds (by rw [f1.1, hsize]) (fun j u hj => by rw [addr_add]; exact f2 w st.sub j u hj) one hroom hfit
        refine ⟨_, [(g, .cells (cur.toList.take (xs.length * i.size) ++ ds ++ cur.toList.drop (xs.length * i.size + ds.length)).toArray e)], _, hr, ?_, ?_⟩
        · refine ⟨cs ++ ds, e1.append f1, .inr ⟨g, cap, _, by rw [List.length_append], rfl, by rw [List.length_append]; exact hroom, hcm, ?_, ?_⟩⟩
          · simp only [List.size_toArray, List.length_append, List.length_take, List.length_drop, Array.length_toList]
            rw [← hcs]; omega
          · rw [List.length_append, ← hsize, ← hlen, hsize, htk]
            exact List.take_left
        · have := st.set (.cells (cur.toList.take (xs.length * i.size) ++ ds ++ cur.toList.drop (xs.length * i.size + ds.length)).toArray e) hk
          refine this.same ?_ rfl rfl rfl (Nat.le_refl _)
          apply Array.ext_getElem?
          intro j
          by_cases ej : j = g
          · subst ej
            rw [setRow_heap w _ cur _ e _ hgw]; simp [hlt]
          · rw [setRow_other w g j _ ej]; simp [Ne.symm ej]
    · rcases f2 with f2 | ⟨b, off, rfl, f2⟩
      · subst f2; simp at hroom; omega
      · have holds : ∀ j u, cs[j]? = some u → w.cell? ((⟨g, 0, none⟩ : Addr).add j) = some u := by
          intro j u hj
          rw [addr_add]
          rw [← htk, List.getElem?_take] at hj
          split at hj
          · simp only [World.cell?, hgw, Option.isSome_none, Bool.false_eq_true, if_false, Nat.zero_add]
            simpa using hj
          · cases hj
        have hr := run_append_grow (P := P) w t ty e i z ht hi hz ⟨g, 0, none⟩ xs.length cap cs (by rw [e1.1, hsize]) holds ⟨b, off, none⟩ ys.length c ds (by rw [f1.1, hsize]) (fun j u hj => by rw [addr_add]; exact f2 w st.sub j u hj) (by omega) (by omega) (growslice_fits (by omega) hb)
        exact ⟨_, _, _, hr, grown cap (by omega), st.put hk _ _ rfl rfl rfl rfl (Nat.le_succ _)⟩
end
section
variable {P : Program} {n : Nat} {ops : Array Oper} {rest : List Oper} {K : Env → World → Prop} {σ : Env} {w w0 : World} {h0 h : Heap} {own : Own} {ty : TypeId} {pos : String} {aft : Array Edge} {d : Nat}
theorem OpsL.append {α : Type} {L : Lay α} {k : Nat} {v v2 : Value} {xs ys : List α} {o : List (Nat × Obj)} {t e : TypeId} {i : TypeInfo} {z : Value} {x y : Operand} (st : St h0 w0 h w own) (hO : OSl L e h v xs o) (hk : own[k]? = some o) (hS : Sl L h v2 ys)
    (hx : ev σ x = v) (hy : ev σ y = v2) (hd : Nat.blt d n = true)
    (ht : P.underlying t = some (.slice e)) (hi : P.info? e = some i) (hz : i.zero = some z) (hsize : i.size = L.size) (hzs : z.cells.size = L.size) (hpos : 0 < L.size) {nb : Nat} (hnb : i.bytes = nb) (hb : (xs.length + ys.length) * nb ≤ 140737488355328) (h63 : xs.length + ys.length ≤ 281474976710656)
    (hK : ∀ v' o' w' own', own' = own.set k o' → OSl L e h v' (xs ++ ys) o' → St h0 w0 h w' own' → OpsL P n ops rest K (upd σ d v') w') :
    OpsL P n ops (⟨some d, .call ⟨.builtin .append, #[x, y], #[t, t]⟩, ty, pos, aft, none⟩ :: rest) K σ w := by
  subst hnb
  obtain ⟨v', o', w', hr, h1, h2⟩ := run_append (P := P) ty st hO hk hS ht hi hz hsize hzs hpos hb h63
  refine OpsL.val rfl hd (run_bi rfl (vs := [v, v2]) (by simp [hx, hy]) fun cs => ?_) (hK v' o' w' _ rfl h1 h2)
  simp only [builtin, Sem.run_bind, hr, Result.andThen_ok, Sem.run_pure]
theorem r_len_own {α : Type} {L : Lay α} {T : TypeId} {xs : List α} {v : Value} {o : List (Nat × Obj)} {t e : TypeId} {x : Operand} {dst : Option Tmp} {g : Option (Nat × Bool)} (hs : OSl L T h v xs o) (hx : ev σ x = v) (hu : P.underlying t = some (.slice e)) :
    Run P σ w ⟨dst, .call ⟨.builtin .len, #[x], #[t]⟩, ty, pos, aft, g⟩ (.int .i64 xs.length) w := by
  obtain ⟨p, c, rfl⟩ := hs.form
  exact r_len_sl hx hu
/-- a slice written out: frozen -/
theorem OpsL.sliceF {α : Type} {L : Lay α} {t e : TypeId} {i : TypeInfo} {z : Value} {len : Nat} {parts : Array (Nat × Operand)} {xs : List α} {cs : List Value} (st : St h0 w0 h w own) (hE : Enc L h cs xs) (hlen : len = xs.length) (hbig : Nat.ble len 1000000 = true) (hd : Nat.blt d n = true)
    (ht : P.underlying t = some (.slice e)) (hi : P.info? e = some i) (hz : i.zero = some z) (hsm : Nat.ble (len * i.size) 16777216 = true) (hpos : Nat.beq (len * i.size) 0 = false)
    (hf : Instr.fill (fun j => some (j * i.size, i.size)) ((Array.range (len * i.size)).map (z.cells[· % z.cells.size]!)) (parts.toList.map fun p => (p.1, ev σ p.2)) = some cs.toArray)
    (hK : ∀ v w' h', Le h h' → Sl L h' v xs → St h0 w0 h' w' own → OpsL P n ops rest K (upd σ d v) w') :
    OpsL P n ops (⟨some d, .buildSlice t len parts, ty, pos, aft, none⟩ :: rest) K σ w := by
  have h1 : ¬ len * i.size > 2 ^ 24 := by have := Nat.le_of_ble_eq_true hsm; omega
  have h2 : ¬ len * i.size = 0 := fun e => by rw [e] at hpos; cases hpos
  have hr := run_buildSlice (P := P) w t e len (parts.map fun p => (p.1, ev σ p.2)) cs.toArray i z ht hi hz h1 h2 (by rw [Array.toList_map]; exact hf)
  have st' := st.alloc (.cells cs.toArray e)
  obtain ⟨h', hl, hb, st''⟩ := st'.freeze (k := own.length) (b := w.heap.size) (o := .cells cs.toArray e) (by simp)
  have e1 : (own ++ [[(w.heap.size, Obj.cells cs.toArray e)]]).set own.length [] = own ++ [[]] := by simp
  rw [e1] at st''
  have st3 : St h0 w0 h' (w.alloc (.cells cs.toArray e)) own := ⟨st''.le, st''.new, st''.sub, st''.below, fun p hp => st''.mine p (by simpa using hp), by simpa using st''.nodup⟩
  have hle : len ≤ 1000000 := Nat.le_of_ble_eq_true hbig
  refine OpsL.val rfl hd (v := .slice (some ⟨w.heap.size, 0, none⟩) len len) (by simp [Run, execOp, hr]) (hK _ _ h' hl ?_ st3)
  subst hlen
  refine ⟨_, xs.length, rfl, by unfold big; omega, .inr ⟨w.heap.size, 0, rfl, fun j x hj => ⟨_, ⟨cs.toArray, e, _, hb, fun q u hq => ?_⟩, L.up (hE.2 j x hj) hl⟩⟩⟩
  rw [List.getElem?_take] at hq
  split at hq
  · rw [List.getElem?_drop] at hq; simpa using hq
  · cases hq
theorem OpsL.sliceO {α : Type} {L : Lay α} {t e : TypeId} {i : TypeInfo} {z : Value} {len : Nat} {parts : Array (Nat × Operand)} {xs : List α} {cs : List Value} (st : St h0 w0 h w own) (hE : Enc L h cs xs) (hlen : len = xs.length) (hbig : Nat.ble len 1000000 = true) (hd : Nat.blt d n = true)
    (ht : P.underlying t = some (.slice e)) (hi : P.info? e = some i) (hz : i.zero = some z) (hsz : i.size = L.size) (hsm : Nat.ble (len * i.size) 16777216 = true) (hpos : Nat.beq (len * i.size) 0 = false)
    (hf : Instr.fill (fun j => some (j * i.size, i.size)) ((Array.range (len * i.size)).map (z.cells[· % z.cells.size]!)) (parts.toList.map fun p => (p.1, ev σ p.2)) = some cs.toArray)
    (hK : ∀ v o w', OSl L e h v xs o → St h0 w0 h w' (own ++ [o]) → OpsL P n ops rest K (upd σ d v) w') :
    OpsL P n ops (⟨some d, .buildSlice t len parts, ty, pos, aft, none⟩ :: rest) K σ w := by
  have h1 : ¬ len * i.size > 2 ^ 24 := by have := Nat.le_of_ble_eq_true hsm; omega
  have h2 : ¬ len * i.size = 0 := fun e => by rw [e] at hpos; cases hpos
  have hr := run_buildSlice (P := P) w t e len (parts.map fun p => (p.1, ev σ p.2)) cs.toArray i z ht hi hz h1 h2 (by rw [Array.toList_map]; exact hf)
  have hle : len ≤ 1000000 := Nat.le_of_ble_eq_true hbig
  have hm : maxLen = 9223372036854775807 := rfl
  refine OpsL.val rfl hd (v := .slice (some ⟨w.heap.size, 0, none⟩) len len) (by simp [Run, execOp, hr]) (hK _ [(w.heap.size, .cells cs.toArray e)] _ ?_ (st.alloc _))
  subst hlen
  refine ⟨cs, hE, .inr ⟨_, xs.length, _, rfl, rfl, Nat.le_refl _, by omega, by simpa using hE.1, ?_⟩⟩
  simp only []
  rw [← hE.1]; simp
/-- an empty slice written out -/
theorem OpsL.sliceE {α : Type} {L : Lay α} {t e : TypeId} (st : St h0 w0 h w own) (hd : Nat.blt d n = true) (hs : ∃ m, ∀ w, (sizeOf e).run P w = .ok m w) (ht : P.underlying t = some (.slice e))
    (hK : ∀ v o w', OSl L e h v ([] : List α) o → St h0 w0 h w' (own ++ [o]) → OpsL P n ops rest K (upd σ d v) w') :
    OpsL P n ops (⟨some d, .buildSlice t 0 #[], ty, pos, aft, none⟩ :: rest) K σ w := by
  obtain ⟨m, hs⟩ := hs
  refine OpsL.val rfl hd (v := .slice (some ⟨w.heap.size, 0, none⟩) 0 0) (w' := w.alloc (.cells #[] e)) ?_ (hK _ [(w.heap.size, .cells #[] e)] _ ?_ (st.alloc _))
  · have e0 : Array.range 0 = #[] := rfl
    simp [Run, execOp, Instr.buildSlice, run_underlying ht, hs, Instr.fill, newRow, e0]
  · exact ⟨[], ⟨by simp, by simp⟩, .inr ⟨_, 0, _, rfl, rfl, Nat.le_refl _, by simp [maxLen], by simp, by simp⟩⟩
theorem St.snoc (st : St h0 w0 h w own) : St h0 w0 h w (own ++ [[]]) := by
  have e : (own ++ [[]]).flatten = own.flatten := by simp
  exact ⟨st.le, st.new, st.sub, st.below, fun p hp => st.mine p (by rwa [e] at hp), by rw [e]; exact st.nodup⟩
/-- an element of what is being grown -/
theorem OSl.elem {α : Type} {L : Lay α} {T : TypeId} {v : Value} {xs : List α} {o : List (Nat × Obj)} {k : Nat} {y : α} (hO : OSl L T h v xs o) (hy : xs[k]? = some y) :
    ∃ b off cur vs, o = [(b, .cells cur T)] ∧ Elem v k L.size b off ∧ L.R h vs y ∧ (∀ j u, vs[j]? = some u → cur[off + j]? = some u) := by
  obtain ⟨cs, e1, ⟨⟨p, rfl⟩, rfl, rfl⟩ | ⟨g, cap, cur, rfl, rfl, _, _, _, htk⟩⟩ := hO
  · simp at hy
  · obtain ⟨h1, _⟩ := List.getElem?_eq_some_iff.1 hy
    refine ⟨g, 0 + k * L.size, cur, _, rfl, ⟨0, _, cap, rfl, h1, rfl⟩, e1.2 k y hy, fun j u hj => ?_⟩
    rw [List.getElem?_take] at hj
    split at hj
    · rw [List.getElem?_drop, ← htk, List.getElem?_take] at hj
      split at hj
      · rw [Nat.zero_add]; simpa using hj
      · cases hj
    · cases hj
theorem r_load_cur1 {b off j : Nat} {cur : Array Value} {T : TypeId} {fr : Nat × Nat} {vs : List Value} {u : Value} {t : TypeId} {x : Operand} {dst : Option Tmp} {g : Option (Nat × Bool)} (hb : w.heap[b]? = some (.cells cur T fr)) (hc : ∀ j u, vs[j]? = some u → cur[off + j]? = some u) {off' : Nat} (hx : ev σ x = .pointer (some ⟨b, off', none⟩)) (ho : off' = off + j) (hv : vs[j]? = some u) (ha : ∀ w, (isAgg t).run P w = .ok false w) :
    Run P σ w ⟨dst, .load t x, ty, pos, aft, g⟩ u w := by
  subst ho
  refine r_load1 hx ha ?_
  simp only [World.cell?, hb, Option.isSome_none, Bool.false_eq_true, if_false]
  exact hc j u hv
theorem r_load_curN {b off m : Nat} {cur : Array Value} {T : TypeId} {fr : Nat × Nat} {vs : List Value} {t : TypeId} {x : Operand} {dst : Option Tmp} {g : Option (Nat × Bool)} (hb : w.heap[b]? = some (.cells cur T fr)) (hc : ∀ j u, vs[j]? = some u → cur[off + j]? = some u) (hx : ev σ x = .pointer (some ⟨b, off, none⟩)) (ha : ∀ w, (isAgg t).run P w = .ok true w) (hz : ∀ w, (sizeOf t).run P w = .ok m w) (hn : vs.length = m) :
    Run P σ w ⟨dst, .load t x, ty, pos, aft, g⟩ (.agg vs.toArray) w := by
  refine r_loadN hx ha hz hn fun j u hj => ?_
  simp only [World.cell?, hb, Option.isSome_none, Bool.false_eq_true, if_false]
  exact hc j u hj
theorem Enc.one1 {α : Type} {L : Lay α} {vs : List Value} {x : α} (hr : L.R h vs x) : Enc L h vs [x] := by
  have := L.len hr
  exact ⟨by simp [this], fun i y hi => by
    cases i with
    | zero => simp at hi; subst hi; simpa [← this] using hr
    | succ i => simp at hi⟩
theorem Enc.cons {α : Type} {L : Lay α} {vs cs : List Value} {x : α} {xs : List α} (hr : L.R h vs x) (hE : Enc L h cs xs) : Enc L h (vs ++ cs) (x :: xs) := (Enc.one1 hr).append hE
theorem Enc.nil {α : Type} {L : Lay α} : Enc L h [] ([] : List α) := ⟨by simp, by simp⟩
end
end Go.Pk
