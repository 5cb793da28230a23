/- A PART OF THE PROOF: contracts of functions, each walked once (much of it printed by a program of the author's own). -/
import Derived.Test.YtfgkfdglomngiaaGreatDoorT10
import Derived.Test.YtfgkfdglomngiaaGreatDoorT3
import Derived.Test.YtfgkfdglomngiaaGreatDoorT1
set_option linter.unusedSimpArgs false
set_option linter.unusedVariables false
namespace Go.Pk
open Go Go.RowKit Go.Proofs
set_option maxRecDepth 4000 in
theorem c_leaf_book_all_1 {h0 h : Heap} {w0 w : World} {rest : Own} {l : Nat} {b_b : Nat} {b : Text} {b_v0 : Value} (b_f0 : Sl LChapter h b_v0 b.chapters) (b_c : Cells h b_b 0 [b_v0]) {b_bb : Nat} (b_cc : Cells h b_bb 0 [.pointer (some ⟨b_b, 0, none⟩)]) {J Jx : List Place → Heap → Own → Prop} (hJm : ∀ xs h1 h2 o, J xs h1 o → Le h1 h2 → J xs h2 o) (hJxm : ∀ xs h1 h2 o, Jx xs h1 o → Le h1 h2 → Jx xs h2 o) (hJ0 : J [] h rest) (hY : ∀ (pre : List Place) (x : Place) h1 w1 B rest us, Le h h1 → J pre h1 rest → St h0 w0 h1 w1 (B ++ rest) → (∃ u_ v_, us = [u_, v_] ∧ (u_ = .agg #[.int .i64 x.chapter, .int .i64 x.line, .int .i64 x.word] ∧ v_ = strV (wordD b x)) ∧ (placesT b)[pre.length]? = some x) → Yields Tryz.prog l us.toArray w1 fun v w2 => ∃ h2 rest2, Le h1 h2 ∧ St h0 w0 h2 w2 (B ++ rest2) ∧ ((v = .bool true ∧ J (pre ++ [x]) h2 rest2) ∨ (v = .bool false ∧ Jx (pre ++ [x]) h2 rest2))) (st0 : St h0 w0 h w rest) : Calls Tryz.prog 127 #[.func (.yield l) #[] #[], .pointer (some ⟨b_bb, 0, none⟩)] w (fun e_ w' => ∃ h' rest' v_, e_ = .returned v_ ∧ Le h h' ∧ St h0 w0 h' w' rest' ∧ ((∃ xs, xs = placesT b ∧ J xs h' rest') ∨ (∃ pre, Jx pre h' rest'))) := by
 refine zx (n := 46) (args := [.func (.yield l) #[] #[], .pointer (some ⟨b_bb, 0, none⟩)]) Tryz.func127 X X X ?_
 have b_f0_b := b_f0.le
 refine W.sr<|v_load_cells1 (j := 0) st0.sub b_cc X X X Tryz.isAgg134 X<|ze X X (r_nil_check X)<|v_field_addr X Tryz.underlying183 X Tryz.sizeOf24 X X<|v_field_addr X Tryz.underlying24 X Tryz.sizeOf22 X X<|v_load_cells1 (j := 0) st0.sub b_c X X X Tryz.isAgg22 X<|v_len b_f0 X Tryz.underlying22 X<|v_mvI X X<|Y<|zr ?_
 refine zN [3, 4, 5, 6, 7, 8, 15, 16, 17, 18, 19, 20, 21, 22, 23, 24, 25, 26, 27, 28, 29, 30, 31, 32, 33, 34, 35, 36, 37, 38, 39, 40, 41, 42, 43, 44, 45] (G := Nat × Own × Heap) (fun ⟨i, rest, h1⟩ => [(15, .int .i64 (i : Int))]) (fun ⟨i, rest, h1⟩ w' => Le h h1 ∧ St h0 w0 h1 w' (rest) ∧ (i ≤ b.chapters.length) ∧ (J ((List.range i).flatMap (chapP b)) h1 rest)) (fun ⟨i, rest, h1⟩ => b.chapters.length - i) ⟨0, rest, h⟩ ⟨rfl, trivial⟩ ⟨Le.refl _, st0, zV, (by exact hJm _ _ _ _ hJ0 (Le.refl _))⟩ ?_
 rintro ⟨i, rest, h1⟩ _ w4 ⟨le2, st3, hi, hJ⟩
 refine W.sr<|v_lss X X X<|Y<|zg ?_
 refine zh rfl (fun c5 => ?_) (fun c5 => ?_)
 ·
  replace c5 := of_decide_eq_true c5
  refine zo<|U<|zg<|zr<|W.sr<|v_mvI X X ?_
  have hc : ∃ y_, (b.chapters)[i]? = some y_ := ⟨_, List.getElem?_eq_getElem (by omega)⟩
  obtain ⟨c, hc⟩ := hc
  obtain ⟨b6, o7, _, he9, hc8, hr_c⟩ := Sl.elem (b_f0.up le2) hc
  obtain ⟨v10, rfl, f11⟩ := hr_c
  have f11_b := f11.le
  refine v_index_el he9 X X (hk := X) (hu := Tryz.underlying22) (hz := Tryz.sizeOf133) X<|v_load_call st3.sub hc8 X Tryz.isAgg133 Tryz.sizeOf133 X X<|OpsL.allocAsSt st3 Tryz.zeroValue133 X X (fun _ => X) X X X (us := [.int .i64 (c.id), v10]) (fun _ => X) (E X (E f11.one zI)) Tryz.sizeOf133 X ?_
  intro b12 w13 h14 le15 hc16 st17
  refine Y<|W.sr<|v_field_addr X Tryz.underlying133 X Tryz.sizeOf131 X X<|v_load_cells1 (j := 1) st17.sub hc16 X X X Tryz.isAgg131 X<|v_len (f11.up le15) X Tryz.underlying131 X<|v_mvI X X<|Y<|zr ?_
  refine zN [5, 6, 7, 8, 23, 24, 25, 26, 27, 28, 29, 30, 31, 32, 33, 34, 35, 36, 37, 38, 39, 40, 41, 42, 43, 44] (G := Nat × Own × Heap) (fun ⟨n, rest, h18⟩ => [(23, .int .i64 (n : Int))]) (fun ⟨n, rest, h18⟩ w' => Le h14 h18 ∧ St h0 w0 h18 w' (rest) ∧ (n ≤ c.lines.length) ∧ (J ((List.range i).flatMap (chapP b) ++ (List.range n).flatMap (lineP b i)) h18 rest)) (fun ⟨n, rest, h18⟩ => c.lines.length - n) ⟨0, rest, h14⟩ ⟨rfl, trivial⟩ ⟨Le.refl _, st17, zV, (by simpa using hJm _ _ _ _ hJ le15)⟩ ?_
  rintro ⟨n, rest, h18⟩ _ w21 ⟨le19, st20, hn, hJ⟩
  refine W.sr<|v_lss X X X<|Y<|zg ?_
  refine zh rfl (fun c22 => ?_) (fun c22 => ?_)
  ·
   replace c22 := of_decide_eq_true c22
   refine zo<|U<|zg<|zr<|W.sr<|v_mvI X X ?_
   have hln : ∃ y_, (c.lines)[n]? = some y_ := ⟨_, List.getElem?_eq_getElem (by omega)⟩
   obtain ⟨ln, hln⟩ := hln
   obtain ⟨b23, o24, _, he26, hc25, hr_ln⟩ := Sl.elem (f11.up (le15.trans le19)) hln
   obtain ⟨v27, rfl, f28⟩ := hr_ln
   have f28_b := f28.le
   refine v_index_el he26 X X (hk := X) (hu := Tryz.underlying131) (hz := Tryz.sizeOf62) X<|v_load_cells1 (j := 0) st20.sub hc25 X X X Tryz.isAgg62 X<|v_asI X X<|v_assign (v := v27) X X<|Y<|W.sr<|v_move (v := v27) X X<|v_len f28 X Tryz.underlying62 X<|v_mvI X X<|Y<|zr ?_
   refine zN [7, 8, 30, 31, 32, 33, 34, 35, 36, 37, 38, 39, 40, 41, 42, 43] (G := Nat × Own × Heap) (fun ⟨m, rest, h29⟩ => [(30, .int .i64 (m : Int))]) (fun ⟨m, rest, h29⟩ w' => Le h18 h29 ∧ St h0 w0 h29 w' (rest) ∧ (m ≤ ln.length) ∧ (J ((List.range i).flatMap (chapP b) ++ (List.range n).flatMap (lineP b i) ++ (List.range m).map (mkP i n)) h29 rest)) (fun ⟨m, rest, h29⟩ => ln.length - m) ⟨0, rest, h18⟩ ⟨rfl, trivial⟩ ⟨Le.refl _, st20, zV, (by simpa using hJm _ _ _ _ hJ (Le.refl _))⟩ ?_
   rintro ⟨m, rest, h29⟩ _ w32 ⟨le30, st31, hm, hJ⟩
   refine W.sr<|v_lss X X X<|Y<|zg ?_
   refine zh rfl (fun c33 => ?_) (fun c33 => ?_)
   ·
    replace c33 := of_decide_eq_true c33
    refine zo<|U<|zg<|zr<|W.sr<|v_mvI X X ?_
    have hs : ∃ y_, (ln)[m]? = some y_ := ⟨_, List.getElem?_eq_getElem (by omega)⟩
    obtain ⟨s, hs⟩ := hs
    obtain ⟨b34, o35, _, he37, hc36, hr_s⟩ := Sl.elem (f28.up le30) hs
    obtain ⟨rfl, ls38⟩ := hr_s
    simp only [big] at ls38
    refine v_index_el he37 X X (hk := X) (hu := Tryz.underlying62) (hz := Tryz.sizeOf9) X<|v_load_cells1 (j := 0) st31.sub hc36 X X X Tryz.isAgg9 X<|v_asI X X<|v_asS X X<|Y<|W.sr<|v_move X X<|v_mvI X X<|v_mvI X X<|v_mvI X X<|ze X X (zY (cs := [.int .i64 (i : Int), .int .i64 (n : Int), .int .i64 (m : Int)]) t_kr)<|v_mvS X X ?_
    have hJc := hJm _ _ _ _ hJ (Le.refl _)
    have hAc : ∃ u_ v_, [.agg #[.int .i64 (mkP i n m).chapter, .int .i64 (mkP i n m).line, .int .i64 (mkP i n m).word], strV s] = [u_, v_] ∧ (u_ = .agg #[.int .i64 (mkP i n m).chapter, .int .i64 (mkP i n m).line, .int .i64 (mkP i n m).word] ∧ v_ = strV (wordD b (mkP i n m))) ∧ (placesT b)[((List.range i).flatMap (chapP b) ++ (List.range n).flatMap (lineP b i) ++ (List.range m).map (mkP i n)).length]? = some (mkP i n m) := ⟨_, _, rfl, ⟨rfl, by rw [word_mk hc hln hs]⟩, place_pos hc hln (List.getElem?_eq_some_iff.1 hs).1⟩
    refine OpsL.yieldsJ rfl rfl rfl rfl rfl (hY _ _ _ _ [] rest _ (((le2.trans le15).trans le19).trans le30) hJc st31 hAc) ?_
    intro yb39 w40 h41 rest42 le43 st44 hj45 hx46
    refine v_not X X<|Y ?_
    refine zh rfl (fun c47 => ?_) (fun c47 => ?_)
    ·
     refine zk<|zw<|zd<|zd<|zw<|zw<|zd<|zd<|zw<|zw<|zd<|zd<|zw<|Post.ret0 Tryz.results127 ?_
     exact ⟨_, _, _, rfl, ((((le2.trans le15).trans le19).trans le30).trans le43), st44, .inr ⟨_, hJxm _ _ _ _ (hx46 (by simpa using c47)) (Le.refl _)⟩⟩
    ·
     refine zo<|zz<|U<|zm<|v_add X X t_om X<|v_mvI X X<|Y ?_
     refine ⟨⟨m + 1, rest42, h41⟩, ⟨rfl, trivial⟩, ?_, ⟨(le30.trans le43), st44, ?_, ?_⟩, ?_⟩
     ·exact zR
     ·first | omega | (simp; omega)
     ·rw [List.range_succ, List.map_append, ← List.append_assoc]; exact hJm _ _ _ _ (hj45 (by simpa using c47)) (Le.refl _)
     ·show ln.length - ((m + 1)) < ln.length - m
      omega
   ·
    replace c33 := of_decide_eq_false c33
    refine zP<|zi<|zi<|zJ<|zz<|U<|zm<|v_add X X t_om X<|v_mvI X X<|Y ?_
    refine ⟨⟨n + 1, rest, h29⟩, ⟨rfl, trivial⟩, ?_, ⟨(le19.trans le30), st31, ?_, ?_⟩, ?_⟩
    ·exact zR
    ·first | omega | (simp; omega)
    ·rw [range_flat_succ, ← lineP_snoc hc hln (w := m) (by omega), ← List.append_assoc]; exact hJm _ _ _ _ hJ (Le.refl _)
    ·show c.lines.length - ((n + 1)) < c.lines.length - n
     omega
  ·
   replace c22 := of_decide_eq_false c22
   refine zP<|zi<|zi<|zJ<|zz<|U<|zm<|v_add X X t_om X<|v_mvI X X<|Y ?_
   refine ⟨⟨i + 1, rest, h18⟩, ⟨rfl, trivial⟩, ?_, ⟨((le2.trans le15).trans le19), st20, ?_, ?_⟩, ?_⟩
   ·exact zR
   ·first | omega | (simp; omega)
   ·rw [range_flat_succ, ← chapP_snoc hc (n := n) (by omega)]; exact hJm _ _ _ _ hJ (Le.refl _)
   ·show b.chapters.length - ((i + 1)) < b.chapters.length - i
    omega
 ·
  replace c5 := of_decide_eq_false c5
  refine zP<|zi<|zi<|zJ<|Post.end0 Tryz.results127 ?_
  exact ⟨_, _, _, rfl, le2, st3, .inl ⟨_, rfl, by rw [placesT, show b.chapters.length = i by omega]; exact hJm _ _ _ _ hJ (Le.refl _)⟩⟩
set_option maxRecDepth 4000 in
theorem c_leaf_book_all {h : Heap} {w : World} (hs : Sub h w) {b_b : Nat} {b : Text} {b_v0 : Value} (b_f0 : Sl LChapter h b_v0 b.chapters) (b_c : Cells h b_b 0 [b_v0]) : Calls Tryz.prog 95 #[.pointer (some ⟨b_b, 0, none⟩)] w (fun e_ w' => ∃ h' bo, e_ = .returned (.func (.func 127) #[] #[.pointer (some ⟨bo, 0, none⟩)]) ∧ Le h h' ∧ St h w h' w' [] ∧ Cells h' bo 0 [.pointer (some ⟨b_b, 0, none⟩)]) := by
 refine zx (n := 4) (args := [.pointer (some ⟨b_b, 0, none⟩)]) Tryz.func95 X X X ?_
 have st0 : St h w h w [] := St.start hs
 have b_f0_b := b_f0.le
 refine W.sr<|zl st0 (cs := [.pointer (some ⟨b_b, 0, none⟩)]) X X X ?_
 intro b1 w2 h3 le4 hc5 st6
 refine v_assign X X<|Y<|W.sr<|v_make_func X X X<|ze X X (r_asF X)<|Y<|zk<|O Tryz.results95 ?_
 exact ⟨h3, _, rfl, le4, st6, hc5⟩
set_option maxRecDepth 4000 in
theorem c_leaf_Words {h : Heap} {w : World} (hs : Sub h w) {t : Text} {t_v0 : Value} (t_f0 : Sl LChapter h t_v0 t.chapters) : Calls Tryz.prog 51 #[.agg #[t_v0]] w (Rets h w (fun _ _ res_ => res_ = .tuple #[.int .i64 ((if textB t then ((placesT t).length : Int) else 0)), .int .i64 ((if textB t then 0 else 10))])) := by
 refine V.calls (n := 22) (args := [.agg #[t_v0]]) Tryz.func51 X X X ?_
 have st0 : St h w h w [] := St.start hs
 have t_f0_b := t_f0.le
 refine V.seq<|zW X<|zl st0 (cs := [t_v0]) X X X ?_
 intro b1 w2 h3 le4 hc5 st6
 refine v_asI X X<|v_asI X X<|zj<|zK<|V.seq<|zW X<|v_load_call st6.sub hc5 X Tryz.isAgg24 Tryz.sizeOf24 X X<|za st6 X X X Tryz.call92 X (c_leaf_open st6.sub (t := t) (t_f0.up le4)) ?_
 intro r7 w8 h9 le10 st11 q12
 rcases Bool.eq_false_or_eq_true (textB (t)) with hb13 | hb13
 ·
  simp only [hb13, if_true, if_false, Bool.false_eq_true, reduceIte] at q12
  obtain ⟨v14, rfl, f15⟩ := q12
  obtain ⟨b16, vs17, rfl, hc18, hr19⟩ := f15
  obtain ⟨v20, rfl, f21⟩ := hr19
  have f21_b := f21.le
  refine v_mvT X X<|v_extract (v := (.pointer (some _))) X X X<|v_extract (v := (.int _ _)) X X X<|v_asP X X<|v_asI X X<|zj<|zK<|V.seq<|V.seq<|zW X<|v_mvI X X<|v_neq X X X<|zj<|zK ?_
  refine V.cond rfl (fun c22 => ?_) (fun c22 => ?_)
  ·
   exact absurd c22 (by decide)
  ·
   refine V.skip<|zK<|V.seq ?_
   have ht0 : textB t = true := hb13
   have hpl := places_len ht0
   refine zW X<|zy st11 Tryz.zeroValue3 X X ?_
   intro b23 w24 st25
   refine OpsL.store1 st25 (k := 0) X X X X Tryz.sizeOf3 X X X ?_
   intro w26 st27
   refine zj<|zK<|V.seq<|V.seq<|zW X<|v_mvP X X ?_
   refine zD rfl rfl (zS rfl Tryz.call95 rfl) ((c_leaf_book_all st27.sub (b := (t)) f21 hc18).mono ?_)
   rintro _ w28 ⟨h29, bo30, rfl, le31, s32, hc33⟩
   refine ⟨_, rfl, ?_⟩
   have st34 := st27.call s32
   have st35 : St h w h29 w28 [[(b23, .cells (List.toArray [.int .i64 0]) 3)]] := by rw [List.append_nil] at st34; exact st34
   refine zj<|zK<|V.block ?_
   have seq36 : GivesG Tryz.prog 127 [.pointer (some ⟨bo30, 0, none⟩)] (fun pre_ h_ us_ x_ => ∃ u_ v_, us_ = [u_, v_] ∧ (fun (pre_ : List Place) (h_ : Heap) u_ v_ (x_ : Place) => (u_ = .agg #[.int .i64 x_.chapter, .int .i64 x_.line, .int .i64 x_.word] ∧ v_ = strV (wordD t x_)) ∧ (placesT t)[pre_.length]? = some x_) pre_ h_ u_ v_ x_) (fun xs_ => xs_ = placesT t) h w h29 := by
    intro l_ J_ Jx_ hm_ hxm_ hY_ h1_ w1_ rest_ le_ hJ_ st_
    exact c_leaf_book_all_1 (b := (t)) ((f21.up le31).up le_) ((hc18.up le31).up le_) (hc33.up le_) hm_ hxm_ hJ_ (fun _ _ _ _ _ _ _ l2_ a_ b_ c_ => hY_ _ _ _ _ _ _ _ (le_.trans l2_) a_ b_ c_)  st_
   refine V.rangeFunc2 (I := fun xs _ own_ => own_ = [[(b23, .cells (List.toArray [.int .i64 (xs.length : Int)]) 3)]] ∧ xs = (placesT t).take xs.length) (Ix := fun _ _ _ _ => False) st35 rfl Tryz.call127 rfl rfl seq36 (by rintro _ _ _ _ h_ _; exact h_) (by intro _ _ _ _ _ h_ _; exact h_) ⟨rfl, by rfl⟩ ?_ ?_ ?_
   ·rintro l_ pre x h37 w38 _ tail u39 u44 le40 ⟨rfl, hi42⟩ st41 hA43
    obtain ⟨⟨rfl, rfl⟩, hxp⟩ := hA43
    have hlt := (List.getElem?_eq_some_iff.1 hxp).1
    refine V.skip ?_
    refine APost.mk (own2 := [[(b23, .cells (List.toArray [.int .i64 (pre.length : Int)]) 3)]]) (Le.refl _) st41 ?_
    intro tail47 w46 st45
    refine V.block<|zW X<|v_load_b1 (st45.get (k := 0) X) X X Tryz.isAgg3 X<|v_add X X t_om X<|OpsL.store1 st45 (k := 0) X X X X Tryz.sizeOf3 X X X ?_
    intro w48 st49
    refine zj<|BlkV.norm ?_
    refine RPost.norm (own3 := [[(b23, .cells (List.toArray [.int .i64 ((pre.length : Int) + 1)]) 3)]]) (Le.refl _) st49 ⟨?_, ?_⟩
    ·simp
    ·exact pre_snoc hi42 hxp
   ·rintro D50 xs h51 w52 _ le53 hS54 ⟨rfl, hi55⟩ st56
    have hxe := hS54
    refine BlkV.norm<|zK<|V.seq<|zW X<|v_load_b1 (st56.get (k := 0) X) X X Tryz.isAgg3 X<|v_asI X X<|v_asI X X<|zj<|zK<|V.ret<|PostV.one (own := [[(b23, .cells (List.toArray [.int .i64 (xs.length : Int)]) 3)]]) st56 ?_
    intro w58 st57
    refine zH Tryz.results51 ?_
    refine ⟨h51, _, rfl, st57.done, ?_⟩
    refine tup2 (zC ?_) (zC ?_)
    all_goals first | (rw [hxe, if_pos ht0]; done) | (rw [hxe]; simp [ht0]; done) | (simp [ht0]; done) | (simp_all; done)
   ·intro _ _ _ _ _ _ _ hf_; exact hf_.elim
 ·
  simp only [hb13, if_true, if_false, Bool.false_eq_true, reduceIte] at q12
  obtain ⟨v59, rfl, f60⟩ := q12
  obtain rfl := f60
  refine v_mvT X X<|v_extract (v := (.pointer none)) X X X<|v_extract (v := (.int _ _)) X X X<|v_assign X X<|v_asI X X<|zj<|zK<|V.seq<|V.seq<|zW X<|v_mvI X X<|v_neq X X X<|zj<|zK ?_
  refine V.cond rfl (fun c61 => ?_) (fun c61 => ?_)
  ·
   refine V.seq<|zW X<|v_mvI X X<|v_asI X X<|v_asI X X<|zj<|zK<|V.ret<|ThenV.ret<|PostV.zero<|zH Tryz.results51 ?_
   refine ⟨h9, _, rfl, st11.done, ?_⟩
   refine tup2 (zC ?_) (zC ?_)
   all_goals first | (rw [hxe, if_pos ht0]; done) | (rw [hxe]; simp [ht0]; done) | (simp [ht0]; done) | (simp_all; done)
  ·
   exact absurd c61 (by decide)
set_option maxRecDepth 4000 in
theorem c_leaf_Number {h : Heap} {w : World} (hs : Sub h w) {t : Text} {t_v0 : Value} (t_f0 : Sl LChapter h t_v0 t.chapters) {p : Place} : Calls Tryz.prog 53 #[.agg #[t_v0], .agg #[.int .i64 p.chapter, .int .i64 p.line, .int .i64 p.word]] w (Rets h w (fun _ _ res_ => res_ = .tuple #[.int .i64 ((if textB t && placeB t p then numI t p else 0)), .int .i64 ((if textB t && placeB t p then 0 else if textB t then 12 else 10))])) := by
 refine V.calls (n := 29) (args := [.agg #[t_v0], .agg #[.int .i64 p.chapter, .int .i64 p.line, .int .i64 p.word]]) Tryz.func53 X X X ?_
 have st0 : St h w h w [] := St.start hs
 have t_f0_b := t_f0.le
 refine V.seq<|zW X<|zl st0 (cs := [t_v0]) X X X ?_
 intro b1 w2 h3 le4 hc5 st6
 refine zl st6 (cs := [.int .i64 (p.chapter), .int .i64 (p.line), .int .i64 (p.word)]) X X X ?_
 intro b7 w8 h9 le10 hc11 st12
 refine v_asI X X<|v_asI X X<|zj<|zK<|V.seq<|zW X<|v_load_call st12.sub (hc5.up le10) X Tryz.isAgg24 Tryz.sizeOf24 X X<|v_load_call st12.sub hc11 X Tryz.isAgg30 Tryz.sizeOf30 X X<|za st12 X X X Tryz.call69 X (c_leaf_placed st12.sub (t := t) (t_f0.up (le4.trans le10)) (p := p)) ?_
 intro r13 w14 h15 le16 st17 q18
 rcases Bool.eq_false_or_eq_true (textB (t) && placeB (t) (p)) with hb19 | hb19
 ·
  simp only [hb19, if_true, if_false, Bool.false_eq_true, reduceIte] at q18
  obtain ⟨v20, rfl, f21⟩ := q18
  obtain ⟨b22, vs23, rfl, hc24, hr25⟩ := f21
  obtain ⟨v26, rfl, f27⟩ := hr25
  have f27_b := f27.le
  refine v_mvT X X<|v_extract (v := (.pointer (some _))) X X X<|v_extract (v := (.int _ _)) X X X<|v_asP X X<|v_asI X X<|zj<|zK<|V.seq<|V.seq<|zW X<|v_mvI X X<|v_neq X X X<|zj<|zK ?_
  refine V.cond rfl (fun c28 => ?_) (fun c28 => ?_)
  ·
   exact absurd c28 (by decide)
  ·
   refine V.skip<|zK<|V.seq ?_
   have htp : textB t = true ∧ placeB t p = true := by have q := hb19; simpa using q
   obtain ⟨ht0, hp0⟩ := htp
   have hpl := places_len ht0
   have hpi := place_in hp0
   refine zW X<|zy st17 Tryz.zeroValue3 X X ?_
   intro b29 w30 st31
   refine OpsL.store1 st31 (k := 0) X X X X Tryz.sizeOf3 X X X ?_
   intro w32 st33
   refine zj<|zK<|V.seq<|V.seq<|zW X<|v_mvP X X ?_
   refine zD rfl rfl (zS rfl Tryz.call95 rfl) ((c_leaf_book_all st33.sub (b := (t)) f27 hc24).mono ?_)
   rintro _ w34 ⟨h35, bo36, rfl, le37, s38, hc39⟩
   refine ⟨_, rfl, ?_⟩
   have st40 := st33.call s38
   have st41 : St h w h35 w34 [[(b29, .cells (List.toArray [.int .i64 0]) 3)]] := by rw [List.append_nil] at st40; exact st40
   refine zj<|zK<|V.block ?_
   have seq42 : GivesG Tryz.prog 127 [.pointer (some ⟨bo36, 0, none⟩)] (fun pre_ h_ us_ x_ => ∃ u_ v_, us_ = [u_, v_] ∧ (fun (pre_ : List Place) (h_ : Heap) u_ v_ (x_ : Place) => (u_ = .agg #[.int .i64 x_.chapter, .int .i64 x_.line, .int .i64 x_.word] ∧ v_ = strV (wordD t x_)) ∧ (placesT t)[pre_.length]? = some x_) pre_ h_ u_ v_ x_) (fun xs_ => xs_ = placesT t) h w h35 := by
    intro l_ J_ Jx_ hm_ hxm_ hY_ h1_ w1_ rest_ le_ hJ_ st_
    exact c_leaf_book_all_1 (b := (t)) ((f27.up le37).up le_) ((hc24.up le37).up le_) (hc39.up le_) hm_ hxm_ hJ_ (fun _ _ _ _ _ _ _ l2_ a_ b_ c_ => hY_ _ _ _ _ _ _ _ (le_.trans l2_) a_ b_ c_)  st_
   refine V.rangeFunc2 (I := fun xs _ own_ => own_ = [[(b29, .cells (List.toArray [.int .i64 (xs.length : Int)]) 3)]] ∧ xs = (placesT t).take xs.length ∧ ∀ q ∈ xs, q ≠ p) (Ix := fun c_ _ _ own_ => c_ = .exit 0 ∧ ∃ k_ : Nat, own_ = [[(b29, .cells (List.toArray [.int .i64 (k_ : Int)]) 3)]] ∧ (placesT t)[k_]? = some p) st41 rfl Tryz.call127 rfl rfl seq42 (by rintro _ _ _ _ h_ _; exact h_) (by intro _ _ _ _ _ h_ _; exact h_) ⟨rfl, by exact ⟨rfl, fun _ h_ => by cases h_⟩⟩ ?_ ?_ ?_
   ·rintro l_ pre x h43 w44 _ tail u45 u50 le46 ⟨rfl, hi48⟩ st47 hA49
    obtain ⟨⟨rfl, rfl⟩, hxp⟩ := hA49
    have hlt := (List.getElem?_eq_some_iff.1 hxp).1
    refine zW X<|OpsL.allocSt st47 Tryz.zeroValue30 X X X (us := [.int .i64 x.chapter, .int .i64 x.line, .int .i64 x.word]) (fun _ => X) (E X (E X (E X zI))) Tryz.sizeOf30 X ?_
    intro b51 w52 h53 le54 hc55 st56
    refine zj ?_
    refine APost.mk (own2 := [[(b29, .cells (List.toArray [.int .i64 (pre.length : Int)]) 3)]]) le54 st56 ?_
    intro tail59 w58 st57
    refine V.block<|V.seq<|V.seq<|zW X<|v_load_call st57.sub hc55 X Tryz.isAgg30 Tryz.sizeOf30 X X<|v_load_call st57.sub (hc11.up (((le16.trans le37).trans le46).trans le54)) X Tryz.isAgg30 Tryz.sizeOf30 X X<|ze X X (r_steql X X Tryz.eqGuardType30 (Tryz.eq_Place x p))<|zj<|zK ?_
    refine V.cond rfl (fun c60 => ?_) (fun c60 => ?_)
    ·
     replace c60 := of_decide_eq_true c60
     refine V.exit<|ThenV.exit<|BlkV.miss X ?_
     refine RPost.exit (own3 := [[(b29, .cells (List.toArray [.int .i64 (pre.length : Int)]) 3)]]) (Le.refl _) st57 ?_
     exact ⟨rfl, pre.length, rfl, by rw [hxp, c60]⟩
    ·
     replace c60 := of_decide_eq_false c60
     refine V.skip<|zK<|zW X<|v_load_b1 (st57.get (k := 0) X) X X Tryz.isAgg3 X<|v_add X X t_om X<|OpsL.store1 st57 (k := 0) X X X X Tryz.sizeOf3 X X X ?_
     intro w61 st62
     refine zj<|BlkV.norm ?_
     refine RPost.norm (own3 := [[(b29, .cells (List.toArray [.int .i64 ((pre.length : Int) + 1)]) 3)]]) (Le.refl _) st62 ⟨?_, ?_⟩
     ·simp
     ·exact ⟨pre_snoc hi48.1 hxp, fun q hq => (List.mem_append.1 hq).elim (hi48.2 q) (fun z => by simp at z; rw [z]; exact c60)⟩
   ·rintro D63 xs h64 w65 _ le66 hS67 ⟨rfl, hi68⟩ st69
    have hF : False := hi68.2 p (by rw [hS67]; exact hpi) rfl
    refine BlkV.norm<|zK<|V.seq<|zW X<|v_load_b1 (st69.get (k := 0) X) X X Tryz.isAgg3 X<|v_asI X X<|v_asI X X<|zj<|zK<|V.ret<|PostV.one (own := [[(b29, .cells (List.toArray [.int .i64 (xs.length : Int)]) 3)]]) st69 ?_
    intro w71 st70
    refine zH Tryz.results53 ?_
    refine ⟨h64, _, rfl, st70.done, ?_⟩
    refine tup2 (zC ?_) (zC ?_)
    all_goals first | exact hF.elim | (simp_all; done)
   ·rintro D72 c73 _ h74 w75 _ le76 ⟨rfl, k_, rfl, hi77⟩ st78
    have hnk := num_at hi77
    refine V.exit<|BlkV.hit<|zK<|V.seq<|zW X<|v_load_b1 (st78.get (k := 0) X) X X Tryz.isAgg3 X<|v_asI X X<|v_asI X X<|zj<|zK<|V.ret<|PostV.one (own := [[(b29, .cells (List.toArray [.int .i64 (k_ : Int)]) 3)]]) st78 ?_
    intro w80 st79
    refine zH Tryz.results53 ?_
    refine ⟨h74, _, rfl, st79.done, ?_⟩
    refine tup2 (zC ?_) (zC ?_)
    all_goals first | exact hF.elim | (simp_all; done)
 ·
  simp only [hb19, if_true, if_false, Bool.false_eq_true, reduceIte] at q18
  obtain ⟨v81, rfl, f82⟩ := q18
  obtain rfl := f82
  refine v_mvT X X<|v_extract (v := (.pointer none)) X X X<|v_extract (v := (.int _ _)) X X X<|v_assign X X<|v_asI X X<|zj<|zK<|V.seq<|V.seq<|zW X<|v_mvI X X<|v_neq X X X<|zj<|zK ?_
  refine V.cond rfl (fun c83 => ?_) (fun c83 => ?_)
  ·
   replace c83 := of_decide_eq_true c83
   refine V.seq<|zW X<|v_mvI X X<|v_asI X X<|v_asI X X<|zj<|zK<|V.ret<|ThenV.ret<|PostV.zero<|zH Tryz.results53 ?_
   refine ⟨h15, _, rfl, st17.done, ?_⟩
   refine tup2 (zC ?_) (zC ?_)
   all_goals first | exact hF.elim | (simp_all; done)
  ·
   replace c83 := of_decide_eq_false c83
   exfalso
   cases e1 : textB t <;> simp_all
set_option maxRecDepth 4000 in
set_option maxHeartbeats 4000000 in
theorem c_postillaw04_StemOnce {h : Heap} {w : World} (hs : Sub h w) {t : Text} {t_v0 : Value} (t_f0 : Sl LChapter h t_v0 t.chapters) {x : Lexicon} {x_v0 : Value} (x_f0 : Sl LRule h x_v0 x.rules) {x_v1 : Value} (x_f1 : Sl LDecision h x_v1 x.decisions) (K0 : Cells h 0 0 Tryz.glob0) : Calls Tryz.prog 11 #[.agg #[t_v0], .agg #[x_v0, x_v1]] w (Rets h w (fun _ _ res_ => res_ = .bool (true))) := by
 refine zx (n := 198) (args := [.agg #[t_v0], .agg #[x_v0, x_v1]]) Tryz.func11 X X X ?_
 have st0 : St h w h w [] := St.start hs
 have t_f0_b := t_f0.le
 have x_f0_b := x_f0.le
 have x_f1_b := x_f1.le
 refine W.sr<|zl st0 (cs := [t_v0]) X X X ?_
 intro b1 w2 h3 le4 hc5 st6
 refine zl st6 (cs := [x_v0, x_v1]) X X X ?_
 intro b7 w8 h9 le10 hc11 st12
 refine v_asB X X<|Y<|W.sr<|za st12 X X X Tryz.call13 X (c_postillaw04_alive st12.sub (K0.up (le4.trans le10))) ?_
 intro r13 w14 h15 le16 st17 q18
 obtain rfl := q18
 refine v_asB X X<|Y<|zg<|W.sr<|v_load_call st17.sub (hc5.up (le10.trans le16)) X Tryz.isAgg24 Tryz.sizeOf24 X X<|v_load_call st17.sub (hc11.up le16) X Tryz.isAgg28 Tryz.sizeOf28 X X<|za st17 X X X Tryz.call14 X (c_postillaw04_ready st17.sub (t := t) (t_f0.up ((le4.trans le10).trans le16)) (x := x) (x_f0.up ((le4.trans le10).trans le16)) (x_f1.up ((le4.trans le10).trans le16))) ?_
 intro r19 w20 h21 le22 st23 q24
 obtain rfl := q24
 refine v_not X X<|v_mvB X X ?_
 refine zp (d := 34) rfl (fun g25 => ?_) (fun g25 => ?_)
 ·
  refine M X X X X X<|M X X X X X<|v_pickT (v := (.bool _)) X X X<|Y ?_
  refine zh rfl (fun c26 => ?_) (fun c26 => ?_)
  ·
   refine W.sr<|v_mvB X X<|v_asB X X<|Y<|zk<|zd<|O Tryz.results11 ?_
   refine ⟨h21, _, rfl, st23.done, ?_⟩
   refine zn ?_
   first | rfl | (simp_all; done)
  ·
   cases c26
 ·
  refine Z X X (d := 34) X<|v_mvB X X<|Z X X (d := 34) X<|v_not X X<|v_pickF (v := (.bool _)) X X X<|Y ?_
  refine zh rfl (fun c27 => ?_) (fun c27 => ?_)
  ·
   cases c27
  ·
   refine zo<|U<|zg ?_
   obtain ⟨⟨hs1, hs2⟩, hx0⟩ : (smallT t = true ∧ smallX x = true) ∧ checkN t x = 0 := by simpa using g25
   have ht0 := check_text hx0
   have hok := okD_of hx0
   have hpl := places_len ht0
   have hpp := places_pos ht0
   have hdl := lexicon_20 hx0
   have hrl := lexicon_12 hx0
   have hhl : (headsL t x).length = (placesT t).length := heads_length t x
   have hsl := setL_len headLt_T (headsL t x)
   refine zm<|v_load_call st23.sub (hc5.up ((le10.trans le16).trans le22)) X Tryz.isAgg24 Tryz.sizeOf24 X X<|v_load_call st23.sub (hc11.up (le16.trans le22)) X Tryz.isAgg28 Tryz.sizeOf28 X X ?_
   have con := (c_stem_Heads st23.sub (t := t) (t_f0.up (((le4.trans le10).trans le16).trans le22)) (x := x) (x_f0.up (((le4.trans le10).trans le16).trans le22)) (x_f1.up (((le4.trans le10).trans le16).trans le22)) (K0.up (((le4.trans le10).trans le16).trans le22)))
   rw [show headsN t x = (setL headLt (headsL t x)) from if_pos hx0, hx0] at con
   refine za st23 X X X Tryz.call43 X con ?_
   intro r28 w29 h30 le31 st32 q33
   obtain ⟨v34, rfl, f35⟩ := q33
   have f35_b := f35.le
   clear con
   refine v_mvT X X<|v_extract (v := v34) X X X<|v_extract (v := (.int _ _)) X X X<|v_assign (v := v34) X X<|v_asI X X<|Y<|W.sr<|v_load_call st32.sub (hc5.up (((le10.trans le16).trans le22).trans le31)) X Tryz.isAgg24 Tryz.sizeOf24 X X ?_
   have con := (c_leaf_Words st32.sub (t := t) (t_f0.up ((((le4.trans le10).trans le16).trans le22).trans le31)))
   rw [if_pos ht0, if_pos ht0] at con
   refine za st32 X X X Tryz.call51 X con ?_
   intro r36 w37 h38 le39 st40 q41
   obtain rfl := q41
   clear con
   refine v_mvT X X<|v_extract (v := (.int _ _)) X X X<|v_extract (v := (.int _ _)) X X X<|v_asI X X<|v_asI X X<|Y<|zg<|W.sr<|v_mvI X X<|v_neq X X X<|v_mvB X X<|Z X X (d := 52) X<|v_mvI X X<|Z X X (d := 52) X<|v_neq X X X<|v_pickF (v := (.bool _)) X X X<|Y ?_
   refine zh rfl (fun c42 => ?_) (fun c42 => ?_)
   ·
    exact absurd c42 (by decide)
   ·
    refine zo<|U<|W.sr<|OpsL.makeMap (κ := Int) (υ := Bool) (ek := (fun n : Int => .int .i64 n)) (eu := (fun b : Bool => .bool b)) st40 X ?_
    intro v43 o44 w45 f46 st47
    obtain ⟨mb48, rfl⟩ := f46.form
    have nd49 : (([] : List (Int × Bool)).map (·.1)).Nodup := by simp
    refine v_assign (v := (.map (some mb48))) X X<|Y<|zg<|W.sr<|v_move (v := v34) X X<|v_len (f35.up le39) X Tryz.underlying43 X<|v_mvI X X<|Y<|zr ?_
    refine zN [4, 11, 12, 13, 14, 15, 16, 17, 18, 20, 21, 22, 23, 24, 25, 26, 27, 28, 59, 60, 61, 62, 63, 64, 65, 66, 67, 68, 69, 70, 71, 72, 73, 74, 75, 76, 77, 78, 79, 80, 81, 82, 83, 84, 85, 86, 87, 88, 89, 90, 91, 92, 93, 94, 95, 96, 97, 98, 99, 100, 101, 102, 103, 104, 105, 106, 107, 108, 109, 110, 111, 112, 113, 114, 115, 116, 117, 118, 119, 120, 121, 122, 123, 124, 125, 126, 127, 128, 129, 130, 131, 132, 133, 134, 135, 136, 137, 138, 139, 140, 141, 142, 143, 144, 145, 146, 147, 148, 149, 150, 151, 152, 153, 154, 155, 156, 157, 158, 159, 160, 161, 162, 163, 164, 165, 166, 167, 168, 169, 170, 171, 172, 173, 174, 175, 176, 177, 178, 179, 180, 181, 182, 183, 184, 185, 186, 187, 188, 189, 190] (G := Nat × List (Nat × Obj) × Heap) (fun ⟨i, o_10, h50⟩ => [(59, .int .i64 (i : Int))]) (fun ⟨i, o_10, h50⟩ w' => Le h38 h50 ∧ St h w h50 w' [o_10] ∧ (OM (fun n : Int => .int .i64 n) (fun b : Bool => .bool b) (trM (seenL t x ((setL headLt (headsL t x)).take i) [])) o_10 (.map (some mb48))) ∧ (((trM (seenL t x ((setL headLt (headsL t x)).take i) [])).map (·.1)).Nodup) ∧ (i ≤ (setL headLt (headsL t x)).length)) (fun ⟨i, o_10, h50⟩ => (setL headLt (headsL t x)).length - i) ⟨0, o44, h38⟩ ⟨rfl, trivial⟩ ⟨Le.refl _, st47, (by have q := f46; exact q), (by have q := nd49; exact q), zV⟩ ?_
    rintro ⟨i, o_10, h50⟩ _ w53 ⟨le51, st52, hM_10, hN_10, hi⟩
    refine W.sr<|v_lss X X X<|Y<|zg ?_
    refine zh rfl (fun c54 => ?_) (fun c54 => ?_)
    ·
     replace c54 := of_decide_eq_true c54
     refine zo<|U<|zg<|zr<|W.sr<|v_mvI X X ?_
     have hhd : ∃ y_, ((setL headLt (headsL t x)))[i]? = some y_ := ⟨_, List.getElem?_eq_getElem (by omega)⟩
     obtain ⟨hd, hhd⟩ := hhd
     obtain ⟨b55, o56, _, he58, hc57, hr_hd⟩ := Sl.elem (f35.up (le39.trans le51)) hhd
     obtain ⟨rfl, ls59, lu60⟩ := hr_hd
     simp only [big] at ls59
     refine v_index_el he58 X X (hk := X) (hu := Tryz.underlying43) (hz := Tryz.sizeOf32) X<|v_load_call st52.sub hc57 X Tryz.isAgg32 Tryz.sizeOf32 X X<|zy st52 Tryz.zeroValue32 X X ?_
     intro b61 w62 st63
     refine v_asI X X<|zq st63 (k := 1) X X X (E X (E X zI)) Tryz.sizeOf32 X X X ?_
     intro w64 st65
     obtain ⟨h66, le67, hb68, st70⟩ := st65.freeze (k := 1) rfl
     have hc69 := Cells.of hb68
     refine Y<|zg ?_
     have hhm : hd ∈ setL headLt (headsL t x) := List.mem_of_getElem? hhd
     obtain ⟨hue, hun⟩ := under_of hx0 hhm
     have hup := List.length_pos_iff.2 hun
     have hul : (underP t x hd).length ≤ (placesT t).length := List.length_filter_le _ _
     refine zm<|v_load_call st70.sub (hc5.up ((((((le10.trans le16).trans le22).trans le31).trans le39).trans le51).trans le67)) X Tryz.isAgg24 Tryz.sizeOf24 X X<|v_load_call st70.sub (hc11.up (((((le16.trans le22).trans le31).trans le39).trans le51).trans le67)) X Tryz.isAgg28 Tryz.sizeOf28 X X<|v_load_call st70.sub hc69 X Tryz.isAgg32 Tryz.sizeOf32 X X ?_
     have con := (c_stem_Under st70.sub (t := t) (t_f0.up (((((((le4.trans le10).trans le16).trans le22).trans le31).trans le39).trans le51).trans le67)) (x := x) (x_f0.up (((((((le4.trans le10).trans le16).trans le22).trans le31).trans le39).trans le51).trans le67)) (x_f1.up (((((((le4.trans le10).trans le16).trans le22).trans le31).trans le39).trans le51).trans le67)) (hd := hd) zO t_u8 (K0.up (((((((le4.trans le10).trans le16).trans le22).trans le31).trans le39).trans le51).trans le67)))
     rw [show underR t x hd = underP t x hd from if_pos hue, hue] at con
     refine za st70 X X X Tryz.call47 X con ?_
     intro r71 w72 h73 le74 st75 q76
     obtain ⟨v77, rfl, f78⟩ := q76
     have f78_b := f78.le
     clear con
     refine v_mvT X X<|v_extract (v := v77) X X X<|v_extract (v := (.int _ _)) X X X<|v_assign (v := v77) X X<|v_asI X X<|Y<|W.sr<|v_load_call st75.sub (hc5.up (((((((le10.trans le16).trans le22).trans le31).trans le39).trans le51).trans le67).trans le74)) X Tryz.isAgg24 Tryz.sizeOf24 X X<|v_load_call st75.sub (hc11.up ((((((le16.trans le22).trans le31).trans le39).trans le51).trans le67).trans le74)) X Tryz.isAgg28 Tryz.sizeOf28 X X<|v_load_call st75.sub (hc69.up le74) X Tryz.isAgg32 Tryz.sizeOf32 X X ?_
     have con := (c_stem_Forms st75.sub (t := t) (t_f0.up ((((((((le4.trans le10).trans le16).trans le22).trans le31).trans le39).trans le51).trans le67).trans le74)) (x := x) (x_f0.up ((((((((le4.trans le10).trans le16).trans le22).trans le31).trans le39).trans le51).trans le67).trans le74)) (x_f1.up ((((((((le4.trans le10).trans le16).trans le22).trans le31).trans le39).trans le51).trans le67).trans le74)) (hd := hd) zO t_u8 (K0.up ((((((((le4.trans le10).trans le16).trans le22).trans le31).trans le39).trans le51).trans le67).trans le74)))
     rw [show formsR t x hd = setL sLt ((underP t x hd).map (wordD t)) from if_pos hue, hue] at con
     refine za st75 X X X Tryz.call45 X con ?_
     intro r79 w80 h81 le82 st83 q84
     obtain ⟨v85, rfl, f86⟩ := q84
     have f86_b := f86.le
     clear con
     refine v_mvT X X<|v_extract (v := v85) X X X<|v_extract (v := (.int _ _)) X X X<|v_assign (v := v85) X X<|v_asI X X<|Y<|zg<|zg<|W.regionQ Tryz.mixed t_kr (Cls h81 _) (Cls.drew st83)<|u_mvI X X<|u_neq X X X<|u_mvB X X<|zL X X (d := 80) X<|u_mvI X X<|zL X X (d := 80) X<|u_neq X X X<|u_pickF (v := (.bool _)) X X X<|u_mvB X X<|zL X X (d := 84) X<|u_move (v := v77) X X<|zL X X (d := 84) X<|u_len (f78.up le82) X Tryz.underlying37 X<|zL X X (d := 84) X<|u_eql X X X<|u_pickF (v := (.bool _)) X X X<|u_mvB X X ?_
     refine OpsQ.split (d := 89) rfl (fun g87 => ?_) (fun g87 => ?_)
     ·
      replace g87 := of_decide_eq_true g87
      exfalso
      have sure_ : (decide (((underP t x hd).length : Int) = 0)) = false := by exact decide_eq_false (by omega)
      exact of_decide_eq_false sure_ g87
     ·
      replace g87 := of_decide_eq_false g87
      refine zL X X (d := 89) X<|u_mvI X X<|zL X X (d := 89) X<|u_gtr X X X<|zL X X (d := 89) X<|u_mvB X X ?_
      refine OpsQ.split (d := 92) rfl (fun g88 => ?_) (fun g88 => ?_)
      ·
       replace g88 := of_decide_eq_true g88
       refine zL X X (d := 92) X<|u_move (v := v34) X X<|zL X X (d := 92) X<|u_mvI X X<|zL X X (d := 92) X<|u_sub X X t_om X<|zL X X (d := 92) X ?_
       have hpv : ∃ y_, ((setL headLt (headsL t x)))[(i - 1)]? = some y_ := ⟨_, List.getElem?_eq_getElem (by omega)⟩
       obtain ⟨pv, hpv⟩ := hpv
       obtain ⟨b89, o90, _, he92, hc91, hr_pv⟩ := Sl.elem (f35.up ((((le39.trans le51).trans le67).trans le74).trans le82)) hpv
       obtain ⟨rfl, ls93, lu94⟩ := hr_pv
       simp only [big] at ls93
       refine zt rfl rfl (fun _ _ => (zQ he92 rfl rfl (hk := (show _ = (((i - 1) : Nat) : Int) by omega)) (hu := Tryz.underlying43) (hz := Tryz.sizeOf32))) ?_
       refine zL X X (d := 92) X<|zt X X (fun _ hC => (zB hC.sub hc91 X Tryz.isAgg32 Tryz.sizeOf32 X))<|zL X X (d := 92) X<|zt X X (fun _ hC => (zB hC.sub (hc69.up (le74.trans le82)) X Tryz.isAgg32 Tryz.sizeOf32 X))<|zL X X (d := 92) X<|OpsQ.calls X X (fun _ => zS X Tryz.call52 X) (fun _ hC => Rets.quiet hC (c_postilref04_Less hC.sub (a := pv) zO t_u8 (b := hd) zO t_u8))<|zL X X (d := 92) X<|u_not X X<|zL X X (d := 89) X<|u_pickT (v := (.bool _)) X X X<|u_pickF (v := (.bool _)) X X X<|OpsQ.nil ?_
       rintro w95 ⟨h96, s97⟩
       have st98 := st83.call0 s97
       refine U ?_
       refine zh rfl (fun c99 => ?_) (fun c99 => ?_)
       ·
        exfalso
        have sure_ : ((!(headLt (pv) (hd)))) = false := by rw [sorted_pred (setL_sorted headLt_T _) (by omega) hpv hhd]; rfl
        exact absurd (c99.symm.trans sure_) (by decide)
       ·
        refine zo<|U<|W.sr<|OpsL.makeMap (κ := Str) (υ := Bool) (ek := strV) (eu := (fun b : Bool => .bool b)) st98 X ?_
        intro v100 o101 w102 f103 st104
        obtain ⟨mb105, rfl⟩ := f103.form
        have nd106 : (([] : List (Str × Bool)).map (·.1)).Nodup := by simp
        refine v_assign (v := (.map (some mb105))) X X<|Y<|W.sr<|v_asI X X<|Y<|zg<|W.sr<|v_move (v := v77) X X<|v_len (f78.up (le82.trans s97.le)) X Tryz.underlying37 X<|v_mvI X X<|Y<|zr ?_
        refine zN [4, 18, 20, 21, 22, 23, 24, 25, 26, 106, 107, 108, 109, 110, 111, 112, 113, 114, 115, 116, 117, 118, 119, 120, 121, 122, 123, 124, 125, 126, 127, 128, 129, 130, 131, 132, 133, 134, 135, 136, 137, 138, 139, 140, 141, 142, 143, 144, 145, 146, 147, 148, 149, 150, 151, 152, 153, 154, 155, 156, 157, 158, 159] (G := Nat × Int × List (Nat × Obj) × List (Nat × Obj) × Heap) (fun ⟨k, la, o_10, o_17, h107⟩ => [(18, .int .i64 la), (106, .int .i64 (k : Int))]) (fun ⟨k, la, o_10, o_17, h107⟩ w' => Le h96 h107 ∧ St h w h107 w' [o_10, [], o_17] ∧ (OM (fun n : Int => .int .i64 n) (fun b : Bool => .bool b) (trM (seenL t x ((setL headLt (headsL t x)).take i) ((underP t x hd).take k))) o_10 (.map (some mb48))) ∧ (((trM (seenL t x ((setL headLt (headsL t x)).take i) ((underP t x hd).take k))).map (·.1)).Nodup) ∧ (OM strV (fun b : Bool => .bool b) (putAll (((underP t x hd).take k).map (wordD t))) o_17 (.map (some mb105))) ∧ (((putAll (((underP t x hd).take k).map (wordD t))).map (·.1)).Nodup) ∧ (k ≤ (underP t x hd).length) ∧ (la < 0 ∨ ∃ q ∈ (underP t x hd).take k, la = numI t q)) (fun ⟨k, la, o_10, o_17, h107⟩ => (underP t x hd).length - k) ⟨0, (-1), o_10, o101, h96⟩ ⟨rfl, rfl, trivial⟩ ⟨Le.refl _, st104, (by have q := hM_10; exact q), (by have q := hN_10; exact q), (by have q := f103; exact q), (by have q := nd106; exact q), zV, (by exact .inl (by decide))⟩ ?_
        rintro ⟨k, la, o_10, o_17, h107⟩ _ w110 ⟨le108, st109, hM_10, hN_10, hM_17, hN_17, hk, hla⟩
        refine W.sr<|v_lss X X X<|Y<|zg ?_
        refine zh rfl (fun c111 => ?_) (fun c111 => ?_)
        ·
         replace c111 := of_decide_eq_true c111
         refine zo<|U<|zg<|zr<|W.sr ?_
         have hp : ∃ y_, ((underP t x hd))[k]? = some y_ := ⟨_, List.getElem?_eq_getElem (by omega)⟩
         obtain ⟨p, hp⟩ := hp
         obtain ⟨b112, o113, _, he115, hc114, hr_p⟩ := Sl.elem (f78.up ((le82.trans s97.le).trans le108)) hp
         obtain rfl := hr_p
         refine v_index_el he115 X X (hk := X) (hu := Tryz.underlying37) (hz := Tryz.sizeOf30) X<|v_load_call st109.sub hc114 X Tryz.isAgg30 Tryz.sizeOf30 X X<|zy st109 Tryz.zeroValue30 X X ?_
         intro b116 w117 st118
         refine zq st118 (k := 3) X X X (E X (E X (E X zI))) Tryz.sizeOf30 X X X ?_
         intro w119 st120
         obtain ⟨h121, le122, hb123, st125⟩ := st120.freeze (k := 3) rfl
         have hc124 := Cells.of hb123
         refine Y<|zg ?_
         obtain ⟨hpm, hph⟩ := under_mem.1 (List.mem_of_getElem? hp)
         have hp0 : placeB t p = true := placesT_mem hpm
         have hw12 := wordD_len ht0 hp0
         have hwo := winD_ok hx0 hp0
         refine zm<|v_load_call st125.sub (hc5.up (((((((((((le10.trans le16).trans le22).trans le31).trans le39).trans le51).trans le67).trans le74).trans le82).trans s97.le).trans le108).trans le122)) X Tryz.isAgg24 Tryz.sizeOf24 X X<|v_load_call st125.sub hc124 X Tryz.isAgg30 Tryz.sizeOf30 X X ?_
         have con := (c_leaf_At st125.sub (t := t) (t_f0.up ((((((((((((le4.trans le10).trans le16).trans le22).trans le31).trans le39).trans le51).trans le67).trans le74).trans le82).trans s97.le).trans le108).trans le122)) (p := p))
         rw [at_word ht0, at_err ht0 hp0] at con
         refine za st125 X X X Tryz.call20 X con ?_
         intro r126 w127 h128 le129 st130 q131
         obtain rfl := q131
         clear con
         refine v_mvT X X<|v_extract (v := (strV _)) X X X<|v_extract (v := (.int _ _)) X X X<|v_asS X X<|v_asI X X<|Y<|W.sr<|v_load_call st130.sub (hc5.up ((((((((((((le10.trans le16).trans le22).trans le31).trans le39).trans le51).trans le67).trans le74).trans le82).trans s97.le).trans le108).trans le122).trans le129)) X Tryz.isAgg24 Tryz.sizeOf24 X X<|v_load_call st130.sub (hc124.up le129) X Tryz.isAgg30 Tryz.sizeOf30 X X ?_
         have con := (c_leaf_Number st130.sub (t := t) (t_f0.up (((((((((((((le4.trans le10).trans le16).trans le22).trans le31).trans le39).trans le51).trans le67).trans le74).trans le82).trans s97.le).trans le108).trans le122).trans le129)) (p := p))
         rw [num_ok ht0 hp0, at_err ht0 hp0] at con
         refine za st130 X X X Tryz.call53 X con ?_
         intro r132 w133 h134 le135 st136 q137
         obtain rfl := q137
         clear con
         refine v_mvT X X<|v_extract (v := (.int _ _)) X X X<|v_extract (v := (.int _ _)) X X X<|v_asI X X<|v_asI X X<|Y<|W.sr<|v_load_call st136.sub (hc5.up (((((((((((((le10.trans le16).trans le22).trans le31).trans le39).trans le51).trans le67).trans le74).trans le82).trans s97.le).trans le108).trans le122).trans le129).trans le135)) X Tryz.isAgg24 Tryz.sizeOf24 X X<|v_load_call st136.sub (hc11.up ((((((((((((le16.trans le22).trans le31).trans le39).trans le51).trans le67).trans le74).trans le82).trans s97.le).trans le108).trans le122).trans le129).trans le135)) X Tryz.isAgg28 Tryz.sizeOf28 X X<|v_load_call st136.sub (hc124.up (le129.trans le135)) X Tryz.isAgg30 Tryz.sizeOf30 X X ?_
         have con := (c_stem_HeadOf st136.sub (t := t) (t_f0.up ((((((((((((((le4.trans le10).trans le16).trans le22).trans le31).trans le39).trans le51).trans le67).trans le74).trans le82).trans s97.le).trans le108).trans le122).trans le129).trans le135)) (x := x) (x_f0.up ((((((((((((((le4.trans le10).trans le16).trans le22).trans le31).trans le39).trans le51).trans le67).trans le74).trans le82).trans s97.le).trans le108).trans le122).trans le129).trans le135)) (x_f1.up ((((((((((((((le4.trans le10).trans le16).trans le22).trans le31).trans le39).trans le51).trans le67).trans le74).trans le82).trans s97.le).trans le108).trans le122).trans le129).trans le135)) (p := p) (K0.up ((((((((((((((le4.trans le10).trans le16).trans le22).trans le31).trans le39).trans le51).trans le67).trans le74).trans le82).trans s97.le).trans le108).trans le122).trans le129).trans le135)))
         rw [askR_win hx0 hp0, askE_eq hx0 hp0] at con
         refine za st136 X X X Tryz.call33 X con ?_
         intro r138 w139 h140 le141 st142 q143
         obtain rfl := q143
         clear con
         refine v_mvT X X<|v_extract (v := (.agg (List.toArray _))) X X X<|v_extract (v := (.int _ _)) X X X<|zy st142 Tryz.zeroValue32 X X ?_
         intro b144 w145 st146
         refine zq st146 (k := 4) X X X (E X (E X zI)) Tryz.sizeOf32 X X X ?_
         intro w147 st148
         obtain ⟨h149, le150, hb151, st153⟩ := st148.freeze (k := 4) rfl
         have hc152 := Cells.of hb151
         refine v_asI X X<|Y<|zg<|W.sr<|v_mvI X X<|v_neq X X X<|v_mvB X X<|Z X X (d := 131) X<|v_mvI X X<|Z X X (d := 131) X<|v_neq X X X<|v_pickF (v := (.bool _)) X X X<|v_mvB X X<|Z X X (d := 135) X<|v_mvI X X<|Z X X (d := 135) X<|v_neq X X X<|v_pickF (v := (.bool _)) X X X<|v_mvB X X<|Z X X (d := 139) X<|v_load_call st153.sub hc152 X Tryz.isAgg32 Tryz.sizeOf32 X X<|Z X X (d := 139) X<|v_load_call st153.sub (hc69.up ((((((((le74.trans le82).trans s97.le).trans le108).trans le122).trans le129).trans le135).trans le141).trans le150)) X Tryz.isAgg32 Tryz.sizeOf32 X X<|Z X X (d := 139) X<|ze X X (r_stneq X X Tryz.eqGuardType32 (Tryz.eq_Head (winD x p (wordD t p)).to hd))<|v_pickF (v := (.bool _)) X X X<|v_mvB X X ?_
         refine zp (d := 144) rfl (fun g154 => ?_) (fun g154 => ?_)
         ·
          replace g154 := of_decide_eq_true g154
          exfalso
          have sure_ : (decide ((winD x p (wordD t p)).to ≠ hd)) = false := by exact decide_eq_false (fun q => q hph)
          exact of_decide_eq_false sure_ g154
         ·
          replace g154 := of_decide_eq_false g154
          refine Z X X (d := 144) X<|v_move (v := (.map (some mb48))) X X<|Z X X (d := 144) X<|v_mvI X X<|Z X X (d := 144) X<|ze X X (r_look (k := ((numI t p))) (zu := false) (key_int Tryz.underlying3) Tryz.underlying49 hM_10 (st153.ent (k := 0) X) Tryz.zeroValue4 X X X)<|v_pickF (v := (.bool _)) X X X<|v_mvB X X ?_
          refine zp (d := 149) rfl (fun g155 => ?_) (fun g155 => ?_)
          ·
           exfalso
           have sure_ : (((look (trM (seenL t x ((setL headLt (headsL t x)).take i) ((underP t x hd).take k))) ((numI t p))).getD false)) = false := by rw [tr_look]; exact decide_eq_false (seen_new heads_nodup hhd hp)
           exact absurd (g155.symm.trans sure_) (by decide)
          ·
           refine Z X X (d := 149) X<|v_mvI X X<|Z X X (d := 149) X<|v_mvI X X<|Z X X (d := 149) X<|ze X X (r_leq X X)<|v_pickF (v := (.bool _)) X X X<|Y ?_
           refine zh rfl (fun c156 => ?_) (fun c156 => ?_)
           ·
            replace c156 := of_decide_eq_true c156
            exfalso
            have sure_ : (decide (((numI t p)) ≤ la)) = false := by exact decide_eq_false (num_last hp hla)
            exact of_decide_eq_false sure_ c156
           ·
            replace c156 := of_decide_eq_false c156
            refine zo<|U<|zm<|v_move (v := (.map (some mb48))) X X<|v_mvI X X<|v_move (v := (.map (some mb105))) X X<|v_mvS X X<|v_mvI X X<|OpsL.mapUpdate (i := 0) st153 hM_10 X hN_10 (key_int Tryz.underlying3) Tryz.underlying49 X (k := ((numI t p))) X (u := true) X ?_
            intro o157 w158 _ e159 f160 nd161 st162
            subst e159
            refine OpsL.mapUpdate (i := 2) st162 hM_17 X hN_17 (key_str Tryz.underlying9) Tryz.underlying101 X (k := ((wordD t p))) X (u := true) X ?_
            intro o163 w164 _ e165 f166 nd167 st168
            subst e165
            refine v_asI X X<|zj<|zz<|U<|zm<|v_add X X t_om X<|v_mvI X X<|Y ?_
            refine ⟨⟨k + 1, (numI t p), o157, o163, h149⟩, ⟨rfl, rfl, trivial⟩, ?_, ⟨(((((le108.trans le122).trans le129).trans le135).trans le141).trans le150), st168.take 3, ?_, ?_, ?_, ?_, ?_, ?_⟩, ?_⟩
            ·exact zR
            ·have q := f160
             rw [tr_put (seen_new heads_nodup hhd hp), ← seen_snoc hp] at q; exact q
            ·have q := nd161
             rw [tr_put (seen_new heads_nodup hhd hp), ← seen_snoc hp] at q; exact q
            ·have q := f166
             rw [← putAll_snoc, show ((underP t x hd).take k).map (wordD t) ++ [wordD t p] = ((underP t x hd).take (k + 1)).map (wordD t) from by rw [take_snoc hp, List.map_append]; rfl] at q; exact q
            ·have q := nd167
             rw [← putAll_snoc, show ((underP t x hd).take k).map (wordD t) ++ [wordD t p] = ((underP t x hd).take (k + 1)).map (wordD t) from by rw [take_snoc hp, List.map_append]; rfl] at q; exact q
            ·first | omega | (simp; omega)
            ·exact .inr ⟨p, by rw [take_snoc hp]; simp, rfl⟩
            ·show (underP t x hd).length - ((k + 1)) < (underP t x hd).length - k
             omega
        ·
         replace c111 := of_decide_eq_false c111
         refine zP<|zi<|zi<|zJ<|U<|zg<|zg ?_
         have f169 : OM (fun n : Int => .int .i64 n) (fun b : Bool => .bool b) ((trM (seenL t x ((setL headLt (headsL t x)).take (i + 1)) []))) o_10 (.map (some mb48)) := by have q := hM_10; rw [show (underP t x hd).take k = underP t x hd from List.take_of_length_le (by omega), seen_next hhd] at q; exact q
         have nd170 : (((trM (seenL t x ((setL headLt (headsL t x)).take (i + 1)) []))).map (·.1)).Nodup := by have q := hN_10; rw [show (underP t x hd).take k = underP t x hd from List.take_of_length_le (by omega), seen_next hhd] at q; exact q
         have f171 : OM strV (fun b : Bool => .bool b) ((putAll ((underP t x hd).map (wordD t)))) o_17 (.map (some mb105)) := by have q := hM_17; rw [show (underP t x hd).take k = underP t x hd from List.take_of_length_le (by omega)] at q; exact q
         have nd172 : (((putAll ((underP t x hd).map (wordD t)))).map (·.1)).Nodup := by have q := hN_17; rw [show (underP t x hd).take k = underP t x hd from List.take_of_length_le (by omega)] at q; exact q
         refine zm<|v_move (v := v85) X X<|v_len (f86.up (s97.le.trans le108)) X Tryz.underlying62 X<|v_move (v := (.map (some mb105))) X X<|ze X X (r_len_map t_kr f171 (st109.ent (k := 2) X) X)<|v_neq X X X<|Y ?_
         refine zh rfl (fun c173 => ?_) (fun c173 => ?_)
         ·
          replace c173 := of_decide_eq_true c173
          exfalso
          have sure_ : (decide (((setL sLt ((underP t x hd).map (wordD t))).length : Int) ≠ ((putAll ((underP t x hd).map (wordD t))).length : Int))) = false := by rw [putAll_len (by assumption)]; simp
          exact of_decide_eq_false sure_ c173
         ·
          replace c173 := of_decide_eq_false c173
          refine zo<|U<|W.sr<|v_move (v := v85) X X<|v_len (f86.up (s97.le.trans le108)) X Tryz.underlying62 X<|v_mvI X X<|Y<|zr ?_
          refine zN [4, 27, 28, 167, 168, 169, 170, 171, 172, 173, 174, 175, 176, 177, 178, 179, 180, 181, 182, 183, 184, 185, 186, 187, 188, 189] (G := Nat × Heap) (fun ⟨k, h174⟩ => [(167, .int .i64 (k : Int))]) (fun ⟨k, h174⟩ w' => Le h107 h174 ∧ St h w h174 w' [o_10, [], o_17] ∧ (k ≤ (setL sLt ((underP t x hd).map (wordD t))).length)) (fun ⟨k, h174⟩ => (setL sLt ((underP t x hd).map (wordD t))).length - k) ⟨0, h107⟩ ⟨rfl, trivial⟩ ⟨Le.refl _, st109, zV⟩ ?_
          rintro ⟨k, h174⟩ _ w177 ⟨le175, st176, hk⟩
          refine W.sr<|v_lss X X X<|Y<|zg ?_
          refine zh rfl (fun c178 => ?_) (fun c178 => ?_)
          ·
           replace c178 := of_decide_eq_true c178
           refine zo<|U<|zg<|zr<|W.sr<|v_mvI X X ?_
           have hf : ∃ y_, ((setL sLt ((underP t x hd).map (wordD t))))[k]? = some y_ := ⟨_, List.getElem?_eq_getElem (by omega)⟩
           obtain ⟨f, hf⟩ := hf
           obtain ⟨b179, o180, _, he182, hc181, hr_f⟩ := Sl.elem (f86.up ((s97.le.trans le108).trans le175)) hf
           obtain ⟨rfl, ls183⟩ := hr_f
           simp only [big] at ls183
           refine v_index_el he182 X X (hk := X) (hu := Tryz.underlying62) (hz := Tryz.sizeOf9) X<|v_load_cells1 (j := 0) st176.sub hc181 X X X Tryz.isAgg9 X<|v_asI X X<|v_asS X X<|Y<|W.sr<|v_move (v := (.map (some mb105))) X X<|v_mvS X X<|ze X X (r_look (k := f) (zu := false) (key_str Tryz.underlying9) Tryz.underlying101 f171 (st176.ent (k := 2) X) Tryz.zeroValue4 X X X)<|v_not X X<|v_mvB X X ?_
           refine zp (d := 176) rfl (fun g184 => ?_) (fun g184 => ?_)
           ·
            exfalso
            have sure_ : ((!((look (putAll ((underP t x hd).map (wordD t))) f).getD false))) = false := by rw [look_putAll, if_pos (setL_mem.1 (List.mem_of_getElem? hf))]; rfl
            exact absurd (g184.symm.trans sure_) (by decide)
           ·
            refine Z X X (d := 176) X<|v_mvI X X<|Z X X (d := 176) X<|v_gtr X X X<|Z X X (d := 176) X<|v_mvB X X ?_
            refine zp (d := 179) rfl (fun g185 => ?_) (fun g185 => ?_)
            ·
             replace g185 := of_decide_eq_true g185
             refine Z X X (d := 179) X<|v_mvS X X<|Z X X (d := 179) X<|v_move (v := v85) X X<|Z X X (d := 179) X<|v_mvI X X<|Z X X (d := 179) X<|v_sub X X t_om X<|Z X X (d := 179) X ?_
             have hpf : ∃ y_, ((setL sLt ((underP t x hd).map (wordD t))))[(k - 1)]? = some y_ := ⟨_, List.getElem?_eq_getElem (by omega)⟩
             obtain ⟨pf, hpf⟩ := hpf
             obtain ⟨b186, o187, _, he189, hc188, hr_pf⟩ := Sl.elem (f86.up ((s97.le.trans le108).trans le175)) hpf
             obtain ⟨rfl, ls190⟩ := hr_pf
             simp only [big] at ls190
             refine ze rfl rfl (zQ he189 rfl rfl (hk := (show _ = (((k - 1) : Nat) : Int) by omega)) (hu := Tryz.underlying62) (hz := Tryz.sizeOf9)) ?_
             refine Z X X (d := 179) X<|v_load_cells1 (j := 0) st176.sub hc188 X X X Tryz.isAgg9 X<|Z X X (d := 179) X<|ze X X (r_sleq X X)<|Z X X (d := 176) X<|v_pickT (v := (.bool _)) X X X<|v_pickF (v := (.bool _)) X X X<|Y ?_
             refine zh rfl (fun c191 => ?_) (fun c191 => ?_)
             ·
              exfalso
              have sure_ : ((Op.bytesLess f pf || decide (f = pf))) = false := by have q := sorted_pred (setL_sorted sLt_T _) (by omega) hpf hf; have q2 : Op.bytesLess f pf = false := sLt_T.asymm q; rw [q2, Bool.false_or]; refine decide_eq_false ?_; rintro rfl; rw [sLt_T.irrefl] at q; cases q
              exact absurd (c191.symm.trans sure_) (by decide)
             ·
              refine zo<|zz<|U<|zm<|v_add X X t_om X<|v_mvI X X<|Y ?_
              refine ⟨⟨k + 1, h174⟩, ⟨rfl, trivial⟩, ?_, ⟨le175, st176, ?_⟩, ?_⟩
              ·exact zR
              ·first | omega | (simp; omega)
              ·show (setL sLt ((underP t x hd).map (wordD t))).length - ((k + 1)) < (setL sLt ((underP t x hd).map (wordD t))).length - k
               omega
            ·
             replace g185 := of_decide_eq_false g185
             refine M X X X X X<|M X X X X X<|M X X X X X<|M X X X X X<|M X X X X X<|M X X X X X<|M X X X X X<|Z X X (d := 176) X<|v_pickF (v := (.bool _)) X X X<|v_pickF (v := (.bool _)) X X X<|Y ?_
             refine zh rfl (fun c192 => ?_) (fun c192 => ?_)
             ·
              cases c192
             ·
              refine zo<|zz<|U<|zm<|v_add X X t_om X<|v_mvI X X<|Y ?_
              refine ⟨⟨k + 1, h174⟩, ⟨rfl, trivial⟩, ?_, ⟨le175, st176, ?_⟩, ?_⟩
              ·exact zR
              ·first | omega | (simp; omega)
              ·show (setL sLt ((underP t x hd).map (wordD t))).length - ((k + 1)) < (setL sLt ((underP t x hd).map (wordD t))).length - k
               omega
          ·
           replace c178 := of_decide_eq_false c178
           refine zP<|zi<|zi<|zJ<|zz<|U<|zm<|v_add X X t_om X<|v_mvI X X<|Y ?_
           refine ⟨⟨i + 1, o_10, h174⟩, ⟨rfl, trivial⟩, ?_, ⟨((((((le51.trans le67).trans le74).trans le82).trans s97.le).trans le108).trans le175), st176.take 1, ?_, ?_, ?_⟩, ?_⟩
           ·exact zR
           ·have q := f169
            exact q
           ·have q := nd170
            exact q
           ·first | omega | (simp; omega)
           ·show (setL headLt (headsL t x)).length - ((i + 1)) < (setL headLt (headsL t x)).length - i
            omega
      ·
       replace g88 := of_decide_eq_false g88
       refine zT X X (d := 92) X X X<|zT X X (d := 92) X X X<|zT X X (d := 92) X X X<|zT X X (d := 92) X X X<|zT X X (d := 92) X X X<|zT X X (d := 92) X X X<|zT X X (d := 92) X X X<|zT X X (d := 92) X X X<|zL X X (d := 89) X<|u_pickF (v := (.bool _)) X X X<|u_pickF (v := (.bool _)) X X X<|OpsQ.nil ?_
       rintro w193 ⟨h194, s195⟩
       have st196 := st83.call0 s195
       refine U ?_
       refine zh rfl (fun c197 => ?_) (fun c197 => ?_)
       ·
        cases c197
       ·
        refine zo<|U<|W.sr<|OpsL.makeMap (κ := Str) (υ := Bool) (ek := strV) (eu := (fun b : Bool => .bool b)) st196 X ?_
        intro v198 o199 w200 f201 st202
        obtain ⟨mb203, rfl⟩ := f201.form
        have nd204 : (([] : List (Str × Bool)).map (·.1)).Nodup := by simp
        refine v_assign (v := (.map (some mb203))) X X<|Y<|W.sr<|v_asI X X<|Y<|zg<|W.sr<|v_move (v := v77) X X<|v_len (f78.up (le82.trans s195.le)) X Tryz.underlying37 X<|v_mvI X X<|Y<|zr ?_
        refine zN [4, 18, 20, 21, 22, 23, 24, 25, 26, 106, 107, 108, 109, 110, 111, 112, 113, 114, 115, 116, 117, 118, 119, 120, 121, 122, 123, 124, 125, 126, 127, 128, 129, 130, 131, 132, 133, 134, 135, 136, 137, 138, 139, 140, 141, 142, 143, 144, 145, 146, 147, 148, 149, 150, 151, 152, 153, 154, 155, 156, 157, 158, 159] (G := Nat × Int × List (Nat × Obj) × List (Nat × Obj) × Heap) (fun ⟨k, la, o_10, o_17, h205⟩ => [(18, .int .i64 la), (106, .int .i64 (k : Int))]) (fun ⟨k, la, o_10, o_17, h205⟩ w' => Le h194 h205 ∧ St h w h205 w' [o_10, [], o_17] ∧ (OM (fun n : Int => .int .i64 n) (fun b : Bool => .bool b) (trM (seenL t x ((setL headLt (headsL t x)).take i) ((underP t x hd).take k))) o_10 (.map (some mb48))) ∧ (((trM (seenL t x ((setL headLt (headsL t x)).take i) ((underP t x hd).take k))).map (·.1)).Nodup) ∧ (OM strV (fun b : Bool => .bool b) (putAll (((underP t x hd).take k).map (wordD t))) o_17 (.map (some mb203))) ∧ (((putAll (((underP t x hd).take k).map (wordD t))).map (·.1)).Nodup) ∧ (k ≤ (underP t x hd).length) ∧ (la < 0 ∨ ∃ q ∈ (underP t x hd).take k, la = numI t q)) (fun ⟨k, la, o_10, o_17, h205⟩ => (underP t x hd).length - k) ⟨0, (-1), o_10, o199, h194⟩ ⟨rfl, rfl, trivial⟩ ⟨Le.refl _, st202, (by have q := hM_10; exact q), (by have q := hN_10; exact q), (by have q := f201; exact q), (by have q := nd204; exact q), zV, (by exact .inl (by decide))⟩ ?_
        rintro ⟨k, la, o_10, o_17, h205⟩ _ w208 ⟨le206, st207, hM_10, hN_10, hM_17, hN_17, hk, hla⟩
        refine W.sr<|v_lss X X X<|Y<|zg ?_
        refine zh rfl (fun c209 => ?_) (fun c209 => ?_)
        ·
         replace c209 := of_decide_eq_true c209
         refine zo<|U<|zg<|zr<|W.sr ?_
         have hp : ∃ y_, ((underP t x hd))[k]? = some y_ := ⟨_, List.getElem?_eq_getElem (by omega)⟩
         obtain ⟨p, hp⟩ := hp
         obtain ⟨b210, o211, _, he213, hc212, hr_p⟩ := Sl.elem (f78.up ((le82.trans s195.le).trans le206)) hp
         obtain rfl := hr_p
         refine v_index_el he213 X X (hk := X) (hu := Tryz.underlying37) (hz := Tryz.sizeOf30) X<|v_load_call st207.sub hc212 X Tryz.isAgg30 Tryz.sizeOf30 X X<|zy st207 Tryz.zeroValue30 X X ?_
         intro b214 w215 st216
         refine zq st216 (k := 3) X X X (E X (E X (E X zI))) Tryz.sizeOf30 X X X ?_
         intro w217 st218
         obtain ⟨h219, le220, hb221, st223⟩ := st218.freeze (k := 3) rfl
         have hc222 := Cells.of hb221
         refine Y<|zg ?_
         obtain ⟨hpm, hph⟩ := under_mem.1 (List.mem_of_getElem? hp)
         have hp0 : placeB t p = true := placesT_mem hpm
         have hw12 := wordD_len ht0 hp0
         have hwo := winD_ok hx0 hp0
         refine zm<|v_load_call st223.sub (hc5.up (((((((((((le10.trans le16).trans le22).trans le31).trans le39).trans le51).trans le67).trans le74).trans le82).trans s195.le).trans le206).trans le220)) X Tryz.isAgg24 Tryz.sizeOf24 X X<|v_load_call st223.sub hc222 X Tryz.isAgg30 Tryz.sizeOf30 X X ?_
         have con := (c_leaf_At st223.sub (t := t) (t_f0.up ((((((((((((le4.trans le10).trans le16).trans le22).trans le31).trans le39).trans le51).trans le67).trans le74).trans le82).trans s195.le).trans le206).trans le220)) (p := p))
         rw [at_word ht0, at_err ht0 hp0] at con
         refine za st223 X X X Tryz.call20 X con ?_
         intro r224 w225 h226 le227 st228 q229
         obtain rfl := q229
         clear con
         refine v_mvT X X<|v_extract (v := (strV _)) X X X<|v_extract (v := (.int _ _)) X X X<|v_asS X X<|v_asI X X<|Y<|W.sr<|v_load_call st228.sub (hc5.up ((((((((((((le10.trans le16).trans le22).trans le31).trans le39).trans le51).trans le67).trans le74).trans le82).trans s195.le).trans le206).trans le220).trans le227)) X Tryz.isAgg24 Tryz.sizeOf24 X X<|v_load_call st228.sub (hc222.up le227) X Tryz.isAgg30 Tryz.sizeOf30 X X ?_
         have con := (c_leaf_Number st228.sub (t := t) (t_f0.up (((((((((((((le4.trans le10).trans le16).trans le22).trans le31).trans le39).trans le51).trans le67).trans le74).trans le82).trans s195.le).trans le206).trans le220).trans le227)) (p := p))
         rw [num_ok ht0 hp0, at_err ht0 hp0] at con
         refine za st228 X X X Tryz.call53 X con ?_
         intro r230 w231 h232 le233 st234 q235
         obtain rfl := q235
         clear con
         refine v_mvT X X<|v_extract (v := (.int _ _)) X X X<|v_extract (v := (.int _ _)) X X X<|v_asI X X<|v_asI X X<|Y<|W.sr<|v_load_call st234.sub (hc5.up (((((((((((((le10.trans le16).trans le22).trans le31).trans le39).trans le51).trans le67).trans le74).trans le82).trans s195.le).trans le206).trans le220).trans le227).trans le233)) X Tryz.isAgg24 Tryz.sizeOf24 X X<|v_load_call st234.sub (hc11.up ((((((((((((le16.trans le22).trans le31).trans le39).trans le51).trans le67).trans le74).trans le82).trans s195.le).trans le206).trans le220).trans le227).trans le233)) X Tryz.isAgg28 Tryz.sizeOf28 X X<|v_load_call st234.sub (hc222.up (le227.trans le233)) X Tryz.isAgg30 Tryz.sizeOf30 X X ?_
         have con := (c_stem_HeadOf st234.sub (t := t) (t_f0.up ((((((((((((((le4.trans le10).trans le16).trans le22).trans le31).trans le39).trans le51).trans le67).trans le74).trans le82).trans s195.le).trans le206).trans le220).trans le227).trans le233)) (x := x) (x_f0.up ((((((((((((((le4.trans le10).trans le16).trans le22).trans le31).trans le39).trans le51).trans le67).trans le74).trans le82).trans s195.le).trans le206).trans le220).trans le227).trans le233)) (x_f1.up ((((((((((((((le4.trans le10).trans le16).trans le22).trans le31).trans le39).trans le51).trans le67).trans le74).trans le82).trans s195.le).trans le206).trans le220).trans le227).trans le233)) (p := p) (K0.up ((((((((((((((le4.trans le10).trans le16).trans le22).trans le31).trans le39).trans le51).trans le67).trans le74).trans le82).trans s195.le).trans le206).trans le220).trans le227).trans le233)))
         rw [askR_win hx0 hp0, askE_eq hx0 hp0] at con
         refine za st234 X X X Tryz.call33 X con ?_
         intro r236 w237 h238 le239 st240 q241
         obtain rfl := q241
         clear con
         refine v_mvT X X<|v_extract (v := (.agg (List.toArray _))) X X X<|v_extract (v := (.int _ _)) X X X<|zy st240 Tryz.zeroValue32 X X ?_
         intro b242 w243 st244
         refine zq st244 (k := 4) X X X (E X (E X zI)) Tryz.sizeOf32 X X X ?_
         intro w245 st246
         obtain ⟨h247, le248, hb249, st251⟩ := st246.freeze (k := 4) rfl
         have hc250 := Cells.of hb249
         refine v_asI X X<|Y<|zg<|W.sr<|v_mvI X X<|v_neq X X X<|v_mvB X X<|Z X X (d := 131) X<|v_mvI X X<|Z X X (d := 131) X<|v_neq X X X<|v_pickF (v := (.bool _)) X X X<|v_mvB X X<|Z X X (d := 135) X<|v_mvI X X<|Z X X (d := 135) X<|v_neq X X X<|v_pickF (v := (.bool _)) X X X<|v_mvB X X<|Z X X (d := 139) X<|v_load_call st251.sub hc250 X Tryz.isAgg32 Tryz.sizeOf32 X X<|Z X X (d := 139) X<|v_load_call st251.sub (hc69.up ((((((((le74.trans le82).trans s195.le).trans le206).trans le220).trans le227).trans le233).trans le239).trans le248)) X Tryz.isAgg32 Tryz.sizeOf32 X X<|Z X X (d := 139) X<|ze X X (r_stneq X X Tryz.eqGuardType32 (Tryz.eq_Head (winD x p (wordD t p)).to hd))<|v_pickF (v := (.bool _)) X X X<|v_mvB X X ?_
         refine zp (d := 144) rfl (fun g252 => ?_) (fun g252 => ?_)
         ·
          replace g252 := of_decide_eq_true g252
          exfalso
          have sure_ : (decide ((winD x p (wordD t p)).to ≠ hd)) = false := by exact decide_eq_false (fun q => q hph)
          exact of_decide_eq_false sure_ g252
         ·
          replace g252 := of_decide_eq_false g252
          refine Z X X (d := 144) X<|v_move (v := (.map (some mb48))) X X<|Z X X (d := 144) X<|v_mvI X X<|Z X X (d := 144) X<|ze X X (r_look (k := ((numI t p))) (zu := false) (key_int Tryz.underlying3) Tryz.underlying49 hM_10 (st251.ent (k := 0) X) Tryz.zeroValue4 X X X)<|v_pickF (v := (.bool _)) X X X<|v_mvB X X ?_
          refine zp (d := 149) rfl (fun g253 => ?_) (fun g253 => ?_)
          ·
           exfalso
           have sure_ : (((look (trM (seenL t x ((setL headLt (headsL t x)).take i) ((underP t x hd).take k))) ((numI t p))).getD false)) = false := by rw [tr_look]; exact decide_eq_false (seen_new heads_nodup hhd hp)
           exact absurd (g253.symm.trans sure_) (by decide)
          ·
           refine Z X X (d := 149) X<|v_mvI X X<|Z X X (d := 149) X<|v_mvI X X<|Z X X (d := 149) X<|ze X X (r_leq X X)<|v_pickF (v := (.bool _)) X X X<|Y ?_
           refine zh rfl (fun c254 => ?_) (fun c254 => ?_)
           ·
            replace c254 := of_decide_eq_true c254
            exfalso
            have sure_ : (decide (((numI t p)) ≤ la)) = false := by exact decide_eq_false (num_last hp hla)
            exact of_decide_eq_false sure_ c254
           ·
            replace c254 := of_decide_eq_false c254
            refine zo<|U<|zm<|v_move (v := (.map (some mb48))) X X<|v_mvI X X<|v_move (v := (.map (some mb203))) X X<|v_mvS X X<|v_mvI X X<|OpsL.mapUpdate (i := 0) st251 hM_10 X hN_10 (key_int Tryz.underlying3) Tryz.underlying49 X (k := ((numI t p))) X (u := true) X ?_
            intro o255 w256 _ e257 f258 nd259 st260
            subst e257
            refine OpsL.mapUpdate (i := 2) st260 hM_17 X hN_17 (key_str Tryz.underlying9) Tryz.underlying101 X (k := ((wordD t p))) X (u := true) X ?_
            intro o261 w262 _ e263 f264 nd265 st266
            subst e263
            refine v_asI X X<|zj<|zz<|U<|zm<|v_add X X t_om X<|v_mvI X X<|Y ?_
            refine ⟨⟨k + 1, (numI t p), o255, o261, h247⟩, ⟨rfl, rfl, trivial⟩, ?_, ⟨(((((le206.trans le220).trans le227).trans le233).trans le239).trans le248), st266.take 3, ?_, ?_, ?_, ?_, ?_, ?_⟩, ?_⟩
            ·exact zR
            ·have q := f258
             rw [tr_put (seen_new heads_nodup hhd hp), ← seen_snoc hp] at q; exact q
            ·have q := nd259
             rw [tr_put (seen_new heads_nodup hhd hp), ← seen_snoc hp] at q; exact q
            ·have q := f264
             rw [← putAll_snoc, show ((underP t x hd).take k).map (wordD t) ++ [wordD t p] = ((underP t x hd).take (k + 1)).map (wordD t) from by rw [take_snoc hp, List.map_append]; rfl] at q; exact q
            ·have q := nd265
             rw [← putAll_snoc, show ((underP t x hd).take k).map (wordD t) ++ [wordD t p] = ((underP t x hd).take (k + 1)).map (wordD t) from by rw [take_snoc hp, List.map_append]; rfl] at q; exact q
            ·first | omega | (simp; omega)
            ·exact .inr ⟨p, by rw [take_snoc hp]; simp, rfl⟩
            ·show (underP t x hd).length - ((k + 1)) < (underP t x hd).length - k
             omega
        ·
         replace c209 := of_decide_eq_false c209
         refine zP<|zi<|zi<|zJ<|U<|zg<|zg ?_
         have f267 : OM (fun n : Int => .int .i64 n) (fun b : Bool => .bool b) ((trM (seenL t x ((setL headLt (headsL t x)).take (i + 1)) []))) o_10 (.map (some mb48)) := by have q := hM_10; rw [show (underP t x hd).take k = underP t x hd from List.take_of_length_le (by omega), seen_next hhd] at q; exact q
         have nd268 : (((trM (seenL t x ((setL headLt (headsL t x)).take (i + 1)) []))).map (·.1)).Nodup := by have q := hN_10; rw [show (underP t x hd).take k = underP t x hd from List.take_of_length_le (by omega), seen_next hhd] at q; exact q
         have f269 : OM strV (fun b : Bool => .bool b) ((putAll ((underP t x hd).map (wordD t)))) o_17 (.map (some mb203)) := by have q := hM_17; rw [show (underP t x hd).take k = underP t x hd from List.take_of_length_le (by omega)] at q; exact q
         have nd270 : (((putAll ((underP t x hd).map (wordD t)))).map (·.1)).Nodup := by have q := hN_17; rw [show (underP t x hd).take k = underP t x hd from List.take_of_length_le (by omega)] at q; exact q
         refine zm<|v_move (v := v85) X X<|v_len (f86.up (s195.le.trans le206)) X Tryz.underlying62 X<|v_move (v := (.map (some mb203))) X X<|ze X X (r_len_map t_kr f269 (st207.ent (k := 2) X) X)<|v_neq X X X<|Y ?_
         refine zh rfl (fun c271 => ?_) (fun c271 => ?_)
         ·
          replace c271 := of_decide_eq_true c271
          exfalso
          have sure_ : (decide (((setL sLt ((underP t x hd).map (wordD t))).length : Int) ≠ ((putAll ((underP t x hd).map (wordD t))).length : Int))) = false := by rw [putAll_len (by assumption)]; simp
          exact of_decide_eq_false sure_ c271
         ·
          replace c271 := of_decide_eq_false c271
          refine zo<|U<|W.sr<|v_move (v := v85) X X<|v_len (f86.up (s195.le.trans le206)) X Tryz.underlying62 X<|v_mvI X X<|Y<|zr ?_
          refine zN [4, 27, 28, 167, 168, 169, 170, 171, 172, 173, 174, 175, 176, 177, 178, 179, 180, 181, 182, 183, 184, 185, 186, 187, 188, 189] (G := Nat × Heap) (fun ⟨k, h272⟩ => [(167, .int .i64 (k : Int))]) (fun ⟨k, h272⟩ w' => Le h205 h272 ∧ St h w h272 w' [o_10, [], o_17] ∧ (k ≤ (setL sLt ((underP t x hd).map (wordD t))).length)) (fun ⟨k, h272⟩ => (setL sLt ((underP t x hd).map (wordD t))).length - k) ⟨0, h205⟩ ⟨rfl, trivial⟩ ⟨Le.refl _, st207, zV⟩ ?_
          rintro ⟨k, h272⟩ _ w275 ⟨le273, st274, hk⟩
          refine W.sr<|v_lss X X X<|Y<|zg ?_
          refine zh rfl (fun c276 => ?_) (fun c276 => ?_)
          ·
           replace c276 := of_decide_eq_true c276
           refine zo<|U<|zg<|zr<|W.sr<|v_mvI X X ?_
           have hf : ∃ y_, ((setL sLt ((underP t x hd).map (wordD t))))[k]? = some y_ := ⟨_, List.getElem?_eq_getElem (by omega)⟩
           obtain ⟨f, hf⟩ := hf
           obtain ⟨b277, o278, _, he280, hc279, hr_f⟩ := Sl.elem (f86.up ((s195.le.trans le206).trans le273)) hf
           obtain ⟨rfl, ls281⟩ := hr_f
           simp only [big] at ls281
           refine v_index_el he280 X X (hk := X) (hu := Tryz.underlying62) (hz := Tryz.sizeOf9) X<|v_load_cells1 (j := 0) st274.sub hc279 X X X Tryz.isAgg9 X<|v_asI X X<|v_asS X X<|Y<|W.sr<|v_move (v := (.map (some mb203))) X X<|v_mvS X X<|ze X X (r_look (k := f) (zu := false) (key_str Tryz.underlying9) Tryz.underlying101 f269 (st274.ent (k := 2) X) Tryz.zeroValue4 X X X)<|v_not X X<|v_mvB X X ?_
           refine zp (d := 176) rfl (fun g282 => ?_) (fun g282 => ?_)
           ·
            exfalso
            have sure_ : ((!((look (putAll ((underP t x hd).map (wordD t))) f).getD false))) = false := by rw [look_putAll, if_pos (setL_mem.1 (List.mem_of_getElem? hf))]; rfl
            exact absurd (g282.symm.trans sure_) (by decide)
           ·
            refine Z X X (d := 176) X<|v_mvI X X<|Z X X (d := 176) X<|v_gtr X X X<|Z X X (d := 176) X<|v_mvB X X ?_
            refine zp (d := 179) rfl (fun g283 => ?_) (fun g283 => ?_)
            ·
             replace g283 := of_decide_eq_true g283
             refine Z X X (d := 179) X<|v_mvS X X<|Z X X (d := 179) X<|v_move (v := v85) X X<|Z X X (d := 179) X<|v_mvI X X<|Z X X (d := 179) X<|v_sub X X t_om X<|Z X X (d := 179) X ?_
             have hpf : ∃ y_, ((setL sLt ((underP t x hd).map (wordD t))))[(k - 1)]? = some y_ := ⟨_, List.getElem?_eq_getElem (by omega)⟩
             obtain ⟨pf, hpf⟩ := hpf
             obtain ⟨b284, o285, _, he287, hc286, hr_pf⟩ := Sl.elem (f86.up ((s195.le.trans le206).trans le273)) hpf
             obtain ⟨rfl, ls288⟩ := hr_pf
             simp only [big] at ls288
             refine ze rfl rfl (zQ he287 rfl rfl (hk := (show _ = (((k - 1) : Nat) : Int) by omega)) (hu := Tryz.underlying62) (hz := Tryz.sizeOf9)) ?_
             refine Z X X (d := 179) X<|v_load_cells1 (j := 0) st274.sub hc286 X X X Tryz.isAgg9 X<|Z X X (d := 179) X<|ze X X (r_sleq X X)<|Z X X (d := 176) X<|v_pickT (v := (.bool _)) X X X<|v_pickF (v := (.bool _)) X X X<|Y ?_
             refine zh rfl (fun c289 => ?_) (fun c289 => ?_)
             ·
              exfalso
              have sure_ : ((Op.bytesLess f pf || decide (f = pf))) = false := by have q := sorted_pred (setL_sorted sLt_T _) (by omega) hpf hf; have q2 : Op.bytesLess f pf = false := sLt_T.asymm q; rw [q2, Bool.false_or]; refine decide_eq_false ?_; rintro rfl; rw [sLt_T.irrefl] at q; cases q
              exact absurd (c289.symm.trans sure_) (by decide)
             ·
              refine zo<|zz<|U<|zm<|v_add X X t_om X<|v_mvI X X<|Y ?_
              refine ⟨⟨k + 1, h272⟩, ⟨rfl, trivial⟩, ?_, ⟨le273, st274, ?_⟩, ?_⟩
              ·exact zR
              ·first | omega | (simp; omega)
              ·show (setL sLt ((underP t x hd).map (wordD t))).length - ((k + 1)) < (setL sLt ((underP t x hd).map (wordD t))).length - k
               omega
            ·
             replace g283 := of_decide_eq_false g283
             refine M X X X X X<|M X X X X X<|M X X X X X<|M X X X X X<|M X X X X X<|M X X X X X<|M X X X X X<|Z X X (d := 176) X<|v_pickF (v := (.bool _)) X X X<|v_pickF (v := (.bool _)) X X X<|Y ?_
             refine zh rfl (fun c290 => ?_) (fun c290 => ?_)
             ·
              cases c290
             ·
              refine zo<|zz<|U<|zm<|v_add X X t_om X<|v_mvI X X<|Y ?_
              refine ⟨⟨k + 1, h272⟩, ⟨rfl, trivial⟩, ?_, ⟨le273, st274, ?_⟩, ?_⟩
              ·exact zR
              ·first | omega | (simp; omega)
              ·show (setL sLt ((underP t x hd).map (wordD t))).length - ((k + 1)) < (setL sLt ((underP t x hd).map (wordD t))).length - k
               omega
          ·
           replace c276 := of_decide_eq_false c276
           refine zP<|zi<|zi<|zJ<|zz<|U<|zm<|v_add X X t_om X<|v_mvI X X<|Y ?_
           refine ⟨⟨i + 1, o_10, h272⟩, ⟨rfl, trivial⟩, ?_, ⟨((((((le51.trans le67).trans le74).trans le82).trans s195.le).trans le206).trans le273), st274.take 1, ?_, ?_, ?_⟩, ?_⟩
           ·exact zR
           ·have q := f267
            exact q
           ·have q := nd268
            exact q
           ·first | omega | (simp; omega)
           ·show (setL headLt (headsL t x)).length - ((i + 1)) < (setL headLt (headsL t x)).length - i
            omega
    ·
     replace c54 := of_decide_eq_false c54
     refine zP<|zi<|zi<|zJ<|U<|zg ?_
     have hse : ((trM (seenL t x ((setL headLt (headsL t x)).take i) [])).length : Int) = ((placesT t).length : Int) := by rw [seen_len, List.take_of_length_le (by omega), underA_all]
     refine zm<|v_mvB X X<|v_mvB X X<|Z X X (d := 192) X<|v_move (v := (.map (some mb48))) X X<|Z X X (d := 192) X<|ze X X (r_len_map t_kr hM_10 (st52.ent (k := 0) X) X)<|Z X X (d := 192) X<|v_mvI X X<|Z X X (d := 192) X<|v_eql X X X<|v_pickT (v := (.bool _)) X X X<|v_asB X X<|Y<|zk<|O Tryz.results11 ?_
     refine ⟨h50, _, rfl, st52.done, ?_⟩
     refine zn ?_
     first | rfl | (simp_all; done)
end Go.Pk
