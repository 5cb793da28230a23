/- A PART OF THE PROOF: contracts of functions, each walked once (much of it printed by a program of the author's own). -/
import Derived.Test.YtfgkfdglomngiaaGreatDoorT8
import Derived.Test.YtfgkfdglomngiaaGreatDoorT2
import Derived.Test.YtfgkfdglomngiaaGreatDoorT3
import Derived.Test.YtfgkfdglomngiaaGreatDoorT4
import Derived.Test.YtfgkfdglomngiaaGreatDoorT5
set_option linter.unusedSimpArgs false
set_option linter.unusedVariables false
namespace Go.Pk
open Go Go.RowKit Go.Proofs
set_option maxRecDepth 4000 in
theorem c_stem_office_entries {h : Heap} {w : World} (hs : Sub h w) {o_b : Nat} {o : Office} {o_v0 : Value} (o_f0 : Sl LRule h o_v0 o.lex.rules) {o_v1 : Value} (o_f1 : Sl LDecision h o_v1 o.lex.decisions) {o_v2 : Value} (o_f2 : Sl LChapter h o_v2 o.text.chapters) {o_v3 : Value} (o_f3 : FML (fun n : Int => .int .i64 n) (fun x : Decision => [.int .i64 x.number, .int .u8 x.kind, strV x.form, .int .i64 x.at_.chapter, .int .i64 x.at_.line, .int .i64 x.at_.word, strV x.to.stem, .int .u8 x.to.mark, .int .i64 x.of_]) LDecision h o.stands o_v3) (o_c : Cells h o_b 0 [o_v0, o_v1, o_v2, o_v3]) (K0 : Cells h 0 0 Tryz.glob0) (ho : OkO o) : Calls Tryz.prog 62 #[.pointer (some ⟨o_b, 0, none⟩)] w (Rets h w (fun h' _ res_ => ∃ u0, res_ = u0 ∧ Sl LEntry h' u0 ((entriesL o.text o.lex)))) := by
 refine zx (n := 55) (args := [.pointer (some ⟨o_b, 0, none⟩)]) Tryz.func62 X X X ?_
 have st0 : St h w h w [] := St.start hs
 have o_f0_b := o_f0.le
 have o_f1_b := o_f1.le
 have o_f2_b := o_f2.le
 have ht := check_text ho.1
 have hchl := chapters_len ht
 refine W.sr<|v_asL X X<|Y<|W.sr<|v_asL X X<|Y<|zg<|W.sr<|v_mvP X X<|ze X X (r_nil_check X)<|v_field_addr X Tryz.underlying129 X Tryz.sizeOf24 X X<|v_field_addr X Tryz.underlying24 X Tryz.sizeOf22 X X<|v_load_cells1 (j := 2) st0.sub o_c X X X Tryz.isAgg22 X<|v_len o_f2 X Tryz.underlying22 X<|v_mvI X X<|Y<|zr ?_
 have st4 := st0.snoc
 have f5 := OSl.nil LEntry 120 h
 refine zN [3, 4, 5, 6, 7, 8, 9, 16, 17, 18, 19, 20, 21, 22, 23, 24, 25, 26, 27, 28, 29, 30, 31, 32, 33, 34, 35, 36, 37, 38, 39, 40, 41, 42, 43, 44, 45, 46, 47, 48, 49, 50, 51, 52, 53] (G := Nat × Value × List (Nat × Obj) × Heap) (fun ⟨i, v_3, o_3, h1⟩ => [(3, v_3), (16, .int .i64 (i : Int))]) (fun ⟨i, v_3, o_3, h1⟩ w' => Le h h1 ∧ St h w h1 w' [o_3] ∧ (OSl LEntry 120 h1 v_3 (((List.range i).flatMap (chapP o.text)).map (entryAt o.text o.lex)) o_3) ∧ (i ≤ o.text.chapters.length)) (fun ⟨i, v_3, o_3, h1⟩ => o.text.chapters.length - i) ⟨0, (.slice none 0 0), [], h⟩ ⟨rfl, rfl, trivial⟩ ⟨Le.refl _, st4, (OSl.to f5 (by rfl)), zV⟩ ?_
 rintro ⟨i, v_3, o_3, h1⟩ _ w6 ⟨le2, st3, hO_3, hi⟩
 refine W.sr<|v_lss X X X<|Y<|zg ?_
 refine zh rfl (fun c7 => ?_) (fun c7 => ?_)
 ·
  replace c7 := of_decide_eq_true c7
  refine zo<|U<|zg<|zr<|W.sr<|v_mvI X X ?_
  have hc : ∃ y_, (o.text.chapters)[i]? = some y_ := ⟨_, List.getElem?_eq_getElem (by omega)⟩
  obtain ⟨c, hc⟩ := hc
  obtain ⟨b8, o9, _, he11, hc10, hr_c⟩ := Sl.elem (o_f2.up le2) hc
  obtain ⟨v12, rfl, f13⟩ := hr_c
  have f13_b := f13.le
  refine v_index_el he11 X X (hk := X) (hu := Tryz.underlying22) (hz := Tryz.sizeOf133) X<|v_load_call st3.sub hc10 X Tryz.isAgg133 Tryz.sizeOf133 X X<|zy st3 Tryz.zeroValue133 X X ?_
  intro b14 w15 st16
  refine v_asI X X<|zq st16 (k := 1) X X X (E X (E f13.one zI)) Tryz.sizeOf133 X X X ?_
  intro w17 st18
  obtain ⟨h19, le20, hb21, st23⟩ := st18.freeze (k := 1) rfl
  have hc22 := Cells.of hb21
  refine zj ?_
  have q5 := linesAt_len ht i
  rw [linesAt_some hc] at q5
  refine U<|W.sr<|v_field_addr X Tryz.underlying133 X Tryz.sizeOf131 X X<|v_load_cells1 (j := 1) st23.sub hc22 X X X Tryz.isAgg131 X<|v_len (f13.up le20) X Tryz.underlying131 X<|v_mvI X X<|Y<|zr ?_
  refine zN [3, 6, 7, 8, 9, 24, 25, 26, 27, 28, 29, 30, 31, 32, 33, 34, 35, 36, 37, 38, 39, 40, 41, 42, 43, 44, 45, 46, 47, 48, 49, 50, 51, 52] (G := Nat × Value × List (Nat × Obj) × Heap) (fun ⟨n, v_3, o_3, h24⟩ => [(3, v_3), (24, .int .i64 (n : Int))]) (fun ⟨n, v_3, o_3, h24⟩ w' => Le h19 h24 ∧ St h w h24 w' [o_3, []] ∧ (OSl LEntry 120 h24 v_3 (((List.range i).flatMap (chapP o.text) ++ (List.range n).flatMap (lineP o.text i)).map (entryAt o.text o.lex)) o_3) ∧ (n ≤ c.lines.length)) (fun ⟨n, v_3, o_3, h24⟩ => c.lines.length - n) ⟨0, v_3, o_3, h19⟩ ⟨rfl, rfl, trivial⟩ ⟨Le.refl _, st23, (OSl.to (hO_3.up le20) (by simp)), zV⟩ ?_
  rintro ⟨n, v_3, o_3, h24⟩ _ w27 ⟨le25, st26, hO_3, hn⟩
  refine W.sr<|v_lss X X X<|Y<|zg ?_
  refine zh rfl (fun c28 => ?_) (fun c28 => ?_)
  ·
   replace c28 := of_decide_eq_true c28
   refine zo<|U<|zg<|zr<|W.sr<|v_mvI X X ?_
   have hln : ∃ y_, (c.lines)[n]? = some y_ := ⟨_, List.getElem?_eq_getElem (by omega)⟩
   obtain ⟨ln, hln⟩ := hln
   obtain ⟨b29, o30, _, he32, hc31, hr_ln⟩ := Sl.elem (f13.up (le20.trans le25)) hln
   obtain ⟨v33, rfl, f34⟩ := hr_ln
   have f34_b := f34.le
   refine v_index_el he32 X X (hk := X) (hu := Tryz.underlying131) (hz := Tryz.sizeOf62) X<|v_load_cells1 (j := 0) st26.sub hc31 X X X Tryz.isAgg62 X<|v_asI X X<|v_assign (v := v33) X X<|zj ?_
   have q4 := wordsAt_len ht i n
   rw [wordsAt_some hc hln] at q4
   refine U<|W.sr<|v_move (v := v33) X X<|v_len f34 X Tryz.underlying62 X<|v_mvI X X<|Y<|zr ?_
   refine zN [3, 8, 9, 31, 32, 33, 34, 35, 36, 37, 38, 39, 40, 41, 42, 43, 44, 45, 46, 47, 48, 49, 50, 51] (G := Nat × Value × List (Nat × Obj) × Heap) (fun ⟨m, v_3, o_3, h35⟩ => [(3, v_3), (31, .int .i64 (m : Int))]) (fun ⟨m, v_3, o_3, h35⟩ w' => Le h24 h35 ∧ St h w h35 w' [o_3, []] ∧ (OSl LEntry 120 h35 v_3 (((List.range i).flatMap (chapP o.text) ++ (List.range n).flatMap (lineP o.text i) ++ (List.range m).map (mkP i n)).map (entryAt o.text o.lex)) o_3) ∧ (m ≤ ln.length)) (fun ⟨m, v_3, o_3, h35⟩ => ln.length - m) ⟨0, v_3, o_3, h24⟩ ⟨rfl, rfl, trivial⟩ ⟨Le.refl _, st26, (OSl.to hO_3 (by simp)), zV⟩ ?_
   rintro ⟨m, v_3, o_3, h35⟩ _ w38 ⟨le36, st37, hO_3, hm⟩
   refine W.sr<|v_lss X X X<|Y<|zg ?_
   refine zh rfl (fun c39 => ?_) (fun c39 => ?_)
   ·
    replace c39 := of_decide_eq_true c39
    refine zo<|U<|zg<|zr<|W.sr<|v_mvI X X<|v_asI X X<|Y<|W.sr<|v_mvI X X<|v_mvI X X<|v_mvI X X<|ze X X (zY (cs := [.int .i64 (i : Int), .int .i64 (n : Int), .int .i64 (m : Int)]) t_kr)<|zy st37 Tryz.zeroValue30 X X ?_
    intro b40 w41 st42
    refine zq st42 (k := 2) X X X (E X (E X (E X zI))) Tryz.sizeOf30 X X X ?_
    intro w43 st44
    obtain ⟨h45, le46, hb47, st49⟩ := st44.freeze (k := 2) rfl
    have hc48 := Cells.of hb47
    refine Y ?_
    have hp0 := place_mk (w := m) hc hln (by omega)
    have hhd := winD_ok ho.1 hp0
    simp only [mkP] at hp0 hhd
    have hwd : ∃ y_, (ln)[m]? = some y_ := ⟨_, List.getElem?_eq_getElem (by omega)⟩
    obtain ⟨wd, hwd⟩ := hwd
    obtain ⟨b50, o51, _, he53, hc52, hr_wd⟩ := Sl.elem (f34.up (le36.trans le46)) hwd
    obtain ⟨rfl, ls54⟩ := hr_wd
    simp only [big] at ls54
    refine zZ (er := ([], [3], [0], [], 0)) (dsts := [38, 39, 40, 41, 42, 43, 44, 45, 46, 47, 48, 49, 50, 3]) st49 Tryz.mixed<|zc 0 [] X t_kr t_kr X X (fun hD wD τD hL hS hO  => (r_move (v := v_3) X))<|zc 1 [] X t_kr t_kr X X (fun hD wD τD hL hS hO  => (zB (hL.sub hS) hc48 X Tryz.isAgg30 Tryz.sizeOf30 X))<|zc 2 [] X t_kr t_kr X X (fun hD wD τD hL hS hO  => (r_move (v := v33) X))<|zc 3 [] X t_kr t_kr X X (fun hD wD τD hL hS hO  => (r_mvI X))<|zc 4 [1, 0] X t_kr t_kr X X (fun hD wD τD hL hS hO _ _ _ _ => (zQ he53 X X (hk := X) (hu := Tryz.underlying62) (hz := Tryz.sizeOf9)))<|zc 5 [0] X t_kr t_kr X X (fun hD wD τD hL hS hO _ _ => (zf (j := 0) (hL.sub hS) hc52 X X X Tryz.isAgg9))<|zc 6 [] X t_kr t_kr X X (fun hD wD τD hL hS hO  => (r_mvP X))<|zc 7 [] X t_kr t_kr X X (fun hD wD τD hL hS hO  => (zB (hL.sub hS) hc48 X Tryz.isAgg30 Tryz.sizeOf30 X)) ?_
    refine zF 8 (.det (.agg (List.toArray [.int .i64 ((winD (o).lex ((Place.mk ((i : Int)) ((n : Int)) ((m : Int)))) (wordD (o).text ((Place.mk ((i : Int)) ((n : Int)) ((m : Int)))))).number), .int .u8 ((winD (o).lex ((Place.mk ((i : Int)) ((n : Int)) ((m : Int)))) (wordD (o).text ((Place.mk ((i : Int)) ((n : Int)) ((m : Int)))))).kind), strV ((winD (o).lex ((Place.mk ((i : Int)) ((n : Int)) ((m : Int)))) (wordD (o).text ((Place.mk ((i : Int)) ((n : Int)) ((m : Int)))))).form), .int .i64 ((winD (o).lex ((Place.mk ((i : Int)) ((n : Int)) ((m : Int)))) (wordD (o).text ((Place.mk ((i : Int)) ((n : Int)) ((m : Int)))))).at_.chapter), .int .i64 ((winD (o).lex ((Place.mk ((i : Int)) ((n : Int)) ((m : Int)))) (wordD (o).text ((Place.mk ((i : Int)) ((n : Int)) ((m : Int)))))).at_.line), .int .i64 ((winD (o).lex ((Place.mk ((i : Int)) ((n : Int)) ((m : Int)))) (wordD (o).text ((Place.mk ((i : Int)) ((n : Int)) ((m : Int)))))).at_.word), strV ((winD (o).lex ((Place.mk ((i : Int)) ((n : Int)) ((m : Int)))) (wordD (o).text ((Place.mk ((i : Int)) ((n : Int)) ((m : Int)))))).to.stem), .int .u8 ((winD (o).lex ((Place.mk ((i : Int)) ((n : Int)) ((m : Int)))) (wordD (o).text ((Place.mk ((i : Int)) ((n : Int)) ((m : Int)))))).to.mark), .int .i64 ((winD (o).lex ((Place.mk ((i : Int)) ((n : Int)) ((m : Int)))) (wordD (o).text ((Place.mk ((i : Int)) ((n : Int)) ((m : Int)))))).of_)]))) [1, 0] rfl t_kr t_kr ?_ ?_
    ·
     intro hD wD τD hL hS hO _ _ _ _
     have st55 := St.start hS
     refine za st55 rfl rfl rfl Tryz.call104 rfl (c_stem_office_wins st55.sub (o := o) (o_f0.up (((((le2.trans le20).trans le25).trans le36).trans le46).trans hL)) (o_f1.up (((((le2.trans le20).trans le25).trans le36).trans le46).trans hL)) (o_f2.up (((((le2.trans le20).trans le25).trans le36).trans le46).trans hL)) (o_f3.up (((((le2.trans le20).trans le25).trans le36).trans le46).trans hL)) (o_c.up (((((le2.trans le20).trans le25).trans le36).trans le46).trans hL)) (p := (Place.mk ((i : Int)) ((n : Int)) ((m : Int)))) (K0.up (((((le2.trans le20).trans le25).trans le36).trans le46).trans hL)) (by exact ho) (by exact hp0)) ?_
     intro r56 w57 h58 le59 st60 q61
     obtain rfl := q61
     exact zj ⟨_, _, rfl, st60, (), rfl, trivial⟩
    refine zc 9 [0] X t_kr t_kr X X (fun hD wD τD hL hS hO _ _ => (r_fieldN (us := [strV ((winD (o).lex ((Place.mk ((i : Int)) ((n : Int)) ((m : Int)))) (wordD (o).text ((Place.mk ((i : Int)) ((n : Int)) ((m : Int)))))).to.stem), .int .u8 ((winD (o).lex ((Place.mk ((i : Int)) ((n : Int)) ((m : Int)))) (wordD (o).text ((Place.mk ((i : Int)) ((n : Int)) ((m : Int)))))).to.mark)]) X Tryz.underlying34 X Tryz.isAgg32 Tryz.sizeOf32 X X))<|zc 10 [8, 4, 0] X t_kr t_kr X X (fun hD wD τD hL hS hO _ _ _ _ _ _ => (zY (cs := [.int .i64 (i : Int), .int .i64 (n : Int), .int .i64 (m : Int), strV wd, strV ((winD (o).lex ((Place.mk ((i : Int)) ((n : Int)) ((m : Int)))) (wordD (o).text ((Place.mk ((i : Int)) ((n : Int)) ((m : Int)))))).to.stem), .int .u8 ((winD (o).lex ((Place.mk ((i : Int)) ((n : Int)) ((m : Int)))) (wordD (o).text ((Place.mk ((i : Int)) ((n : Int)) ((m : Int)))))).to.mark)]) t_kr)) ?_
    refine zF 11 (.res (fun h' res_ => Sl LEntry h' res_ ([(Entry.mk ((Place.mk ((i : Int)) ((n : Int)) ((m : Int)))) (wd) ((winD (o).lex ((Place.mk ((i : Int)) ((n : Int)) ((m : Int)))) (wordD (o).text ((Place.mk ((i : Int)) ((n : Int)) ((m : Int)))))).to))])) (fun _ _ _ hl f => f.up hl)) [0] rfl t_kr t_kr ?_ ?_
    ·
     intro hD wD τD hL hS hO _ _
     have st62 := St.start hS
     refine zG (L := LEntry) (xs := [(Entry.mk ((Place.mk ((i : Int)) ((n : Int)) ((m : Int)))) (wd) ((winD (o).lex ((Place.mk ((i : Int)) ((n : Int)) ((m : Int)))) (wordD (o).text ((Place.mk ((i : Int)) ((n : Int)) ((m : Int)))))).to))]) (cs := [.int .i64 (i : Int), .int .i64 (n : Int), .int .i64 (m : Int), strV wd, strV ((winD (o).lex ((Place.mk ((i : Int)) ((n : Int)) ((m : Int)))) (wordD (o).text ((Place.mk ((i : Int)) ((n : Int)) ((m : Int)))))).to.stem), .int .u8 ((winD (o).lex ((Place.mk ((i : Int)) ((n : Int)) ((m : Int)))) (wordD (o).text ((Place.mk ((i : Int)) ((n : Int)) ((m : Int)))))).to.mark)]) st62 (Enc.cons (L := LEntry) (vs := [.int .i64 (i : Int), .int .i64 (n : Int), .int .i64 (m : Int), strV wd, strV ((winD (o).lex ((Place.mk ((i : Int)) ((n : Int)) ((m : Int)))) (wordD (o).text ((Place.mk ((i : Int)) ((n : Int)) ((m : Int)))))).to.stem), .int .u8 ((winD (o).lex ((Place.mk ((i : Int)) ((n : Int)) ((m : Int)))) (wordD (o).text ((Place.mk ((i : Int)) ((n : Int)) ((m : Int)))))).to.mark)]) (x := (Entry.mk ((Place.mk ((i : Int)) ((n : Int)) ((m : Int)))) (wd) ((winD (o).lex ((Place.mk ((i : Int)) ((n : Int)) ((m : Int)))) (wordD (o).text ((Place.mk ((i : Int)) ((n : Int)) ((m : Int)))))).to))) (h := hD) (⟨rfl, zO, zO, t_u8⟩) Enc.nil) X X X Tryz.underlying115 Tryz.info120 X X X t_kr ?_
     intro v63 w64 h67 le68 f65 st66
     exact zj ⟨_, _, rfl, st66, _, rfl, f65⟩
    refine Drw.ch<|Drw.ch<|Drw.nil X X X X X X ⟨t_kr, X, t_kr, X, t_kr, X, X, t_kr, (zaf X (zaf X cx_nil))⟩ ?_
    intro hE70 w71 _ le72 st73 _ _ gv11_0x69 gf11_0x69 _ _
    refine OpsL.append (k := 0) (nb := 64) st73 (hO_3.up (le46.trans le72)) rfl gf11_0x69 rfl rfl rfl Tryz.underlying115 Tryz.info120 rfl rfl rfl (by decide) rfl (by have q1 := flatMap_len (chapP_len ht) i; have q2 := flatMap_len (lineP_len ht i) n; have q3 := chapters_len ht; have q4 := wordsAt_len ht i n; have q5 := linesAt_len ht i; rw [linesAt_some hc] at q5; rw [wordsAt_some hc hln] at q4; simp only [List.length_append, List.length_map, List.length_range, List.length_cons, List.length_nil]; omega) (by have q1 := flatMap_len (chapP_len ht) i; have q2 := flatMap_len (lineP_len ht i) n; have q3 := chapters_len ht; have q4 := wordsAt_len ht i n; have q5 := linesAt_len ht i; rw [linesAt_some hc] at q5; rw [wordsAt_some hc hln] at q4; simp only [List.length_append, List.length_map, List.length_range, List.length_cons, List.length_nil]; omega) ?_
    intro v74 o75 w76 _ e77 f78 st79
    subst e77
    refine zj ⟨_, rfl, _, _, Le.refl _, st79, ?_⟩
    intro hE81 w82 _ le83 st84 _ _ _ _ _ _ _ _ _ _ _ _ _ _ _ _ _ _ _ _ _ _ gv11_0x80 gf11_0x80
    refine v_assign (v := v74) X X ?_
    refine zj ⟨_, rfl, _, _, Le.refl _, st84, ?_⟩
    intro hE85 w86 _ le87 st88 _ _ _ _ _ _ _ _ _ _ _ _ _ _ _ _ _ _ _ _ _ _ gv11_0x89 gf11_0x89
    refine AllDeps.fin X<|zz<|U<|zm<|v_add X X t_om X<|v_mvI X X<|Y ?_
    refine ⟨⟨m + 1, v74, o75, hE85⟩, ⟨rfl, rfl, trivial⟩, ?_, ⟨((((le36.trans le46).trans le72).trans le83).trans le87), st88.take 2, ?_, ?_⟩, ?_⟩
    ·exact zR
    ·refine OSl.to (f78.up (le83.trans le87)) ?_
     have hww := word_mk hc hln hwd
     simp only [mkP] at hww
     rw [List.range_succ]; simp only [List.map_append, List.append_assoc, List.map_cons, List.map_nil, entryAt, headAt, mkP, hww]
    ·first | omega | (simp; omega)
    ·show ln.length - ((m + 1)) < ln.length - m
     omega
   ·
    replace c39 := of_decide_eq_false c39
    refine zP<|zi<|zi<|zJ<|zz<|U<|zm<|v_add X X t_om X<|v_mvI X X<|Y ?_
    refine ⟨⟨n + 1, v_3, o_3, h35⟩, ⟨rfl, rfl, trivial⟩, ?_, ⟨(le25.trans le36), st37, ?_, ?_⟩, ?_⟩
    ·exact zR
    ·refine OSl.to hO_3 ?_
     rw [range_flat_succ, ← lineP_snoc hc hln (w := m) (by omega), List.append_assoc]
    ·first | omega | (simp; omega)
    ·show c.lines.length - ((n + 1)) < c.lines.length - n
     omega
  ·
   replace c28 := of_decide_eq_false c28
   refine zP<|zi<|zi<|zJ<|zz<|U<|zm<|v_add X X t_om X<|v_mvI X X<|Y ?_
   refine ⟨⟨i + 1, v_3, o_3, h24⟩, ⟨rfl, rfl, trivial⟩, ?_, ⟨((le2.trans le20).trans le25), st26.take 1, ?_, ?_⟩, ?_⟩
   ·exact zR
   ·refine OSl.to hO_3 ?_
    rw [range_flat_succ, ← chapP_snoc hc (n := n) (by omega)]
   ·first | omega | (simp; omega)
   ·show o.text.chapters.length - ((i + 1)) < o.text.chapters.length - i
    omega
 ·
  replace c7 := of_decide_eq_false c7
  refine zP<|zi<|zi<|zJ<|U<|W.sr<|v_move (v := v_3) X X<|v_assign (v := v_3) X X<|Y<|zk<|O Tryz.results62 ?_
  obtain ⟨h90, le91, f92, st93⟩ := OSl.freeze (k := 0) st3 hO_3 rfl (by have q1 := flatMap_len (chapP_len ht) i; have q3 := chapters_len ht; rw [List.length_map]; omega)
  refine ⟨h90, _, rfl, st93.done, ?_⟩
  refine ⟨_, rfl, Sl.to f92 ?_⟩
  rw [show i = o.text.chapters.length by omega]; rfl
end Go.Pk

namespace Go.Pk
open Go Go.RowKit Go.Proofs
set_option maxRecDepth 4000 in
theorem c_slices_IndexFunc_Lstem_entry_stem_entry_st {xs : List Entry} {v : Value} {g : FuncId} {caps : List Value} (S : Nat → Heap → World → Prop) (p : Nat → Bool)
  (hS : ∀ k h w, S k h w → Sub h w ∧ Sl LEntry h v xs)
  (hf : ∀ k x h w vs, S k h w → xs[k]? = some x → LEntry.R h vs x → ∀ u, u = .agg vs.toArray → Calls Tryz.prog g (u :: caps).toArray w (fun e w' => ∃ h', e = .returned (.bool (p k)) ∧ S (k + 1) h' w'))
  (hg : ∀ a w, (callFunc g a).run Tryz.prog w = .ok (.enter g a) w) {h : Heap} {w : World} (h0 : S 0 h w) :
  Calls Tryz.prog 181 #[v, .func (.func g) #[] caps.toArray] w (fun e w' => ∃ h' k, e = .returned (.int .i64 (if k < xs.length then (k : Int) else -1)) ∧ k ≤ xs.length ∧ (∀ j, j < k → p j = false) ∧ (k < xs.length → p k = true) ∧ S (if k < xs.length then k + 1 else k) h' w') := by
 refine zx (n := 19) (args := [v, .func (.func g) #[] caps.toArray]) Tryz.func181 X X X ?_
 have hb := (hS 0 h w h0).2.le
 refine W.sr<|v_asI X X<|Y<|zg<|W.sr<|v_move (v := v) X X<|v_len (hS 0 h w h0).2 X Tryz.underlying115 X<|v_mvI X X<|Y<|zr ?_
 refine zN [4, 5, 8, 9, 10, 11, 12, 13, 14, 15, 16, 17, 18] (G := Nat × Heap) (fun ⟨k, _⟩ => [(8, .int .i64 (k : Int))]) (fun ⟨k, h'⟩ w' => S k h' w' ∧ k ≤ xs.length ∧ ∀ j, j < k → p j = false) (fun ⟨k, _⟩ => xs.length - k) ⟨0, h⟩ ⟨rfl, trivial⟩ ⟨h0, by omega, by intros; omega⟩ ?_
 rintro ⟨k, h1⟩ _ w1 ⟨hS1, hk, hp⟩
 obtain ⟨hsub, hsl⟩ := hS k h1 w1 hS1
 refine W.sr<|v_lss X X X<|Y<|zg ?_
 refine zh rfl (fun c1 => ?_) (fun c1 => ?_)
 ·replace c1 := of_decide_eq_true c1
  refine zo<|U<|zg<|zr<|W.sr<|v_mvI X X<|v_asI X X<|Y<|W.sr<|v_mvF X X<|v_move (v := v) X X<|v_mvI X X ?_
  have hy : ∃ y, xs[k]? = some y := ⟨_, List.getElem?_eq_getElem (by omega)⟩
  obtain ⟨y, hy⟩ := hy
  obtain ⟨b, o, vs, he, hc, hr⟩ := Sl.elem hsl hy
  refine v_index_el he X X (hk := X) (hu := Tryz.underlying115) (hz := Tryz.sizeOf120) X<|v_load_call hsub hc X Tryz.isAgg120 Tryz.sizeOf120 (LEntry.len hr) X ?_
  refine zD rfl rfl (zaa (fs := []) (cs := caps) rfl rfl hg rfl) ((hf k y h1 w1 _ hS1 hy hr _ rfl).mono ?_)
  rintro e w2 ⟨h2, rfl, hS2⟩
  refine ⟨_, rfl, ?_⟩
  refine Y ?_
  refine zh rfl (fun c2 => ?_) (fun c2 => ?_)
  ·refine zg ?_
   refine zm<|v_mvI X X<|v_asI X X<|Y<|zk ?_
   repeat (first | refine zw ?_ | refine zd ?_)
   refine O Tryz.results181 ?_
   have hlt : k < xs.length := by omega
   exact ⟨h2, k, by rw [if_pos hlt]; rfl, hk, hp, fun _ => c2, by rw [if_pos hlt]; exact hS2⟩
  ·refine zo ?_
   refine zz<|U<|zm ?_
   refine ze rfl rfl (r_add rfl rfl (by omega)) ?_
   refine v_mvI X X<|Y ?_
   refine ⟨⟨k + 1, h2⟩, ⟨rfl, trivial⟩, ?_, ⟨hS2, by omega, ?_⟩, ?_⟩
   ·exact zR
   ·intro j hj
    rcases Nat.lt_or_ge j k with h3 | h3
    ·exact hp j h3
    ·obtain rfl : j = k := by omega
     exact c2
   ·show xs.length - (k + 1) < xs.length - k
    omega
 ·replace c1 := of_decide_eq_false c1
  refine zP<|zi<|zi<|zJ<|U<|W.sr<|v_asI X X<|Y<|zk<|O Tryz.results181 ?_
  have hlt : ¬ k < xs.length := by omega
  exact ⟨h1, k, by rw [if_neg hlt]; rfl, hk, hp, fun q => absurd q hlt, by rw [if_neg hlt]; exact hS1⟩

theorem c_slices_IndexFunc_Lstem_entry_stem_entry_own {xs : List Entry} {v : Value} {o : List (Nat × Obj)} {g : FuncId} {caps : List Value} {h0 h : Heap} {w0 w : World} {own : Own} {i : Nat} (st : St h0 w0 h w own) (hO : OSl LEntry 120 h v xs o) (hi : own[i]? = some o) (hb : xs.length ≤ 281474976710656) (q : Entry → Bool)
  (hg : ∀ a w, (callFunc g a).run Tryz.prog w = .ok (.enter g a) w)
  (hf : ∀ x h' w' vs, Le h h' → Sub h' w' → x ∈ xs → LEntry.R h' vs x → ∀ u, u = .agg vs.toArray → Calls Tryz.prog g (u :: caps).toArray w' (Rets h' w' fun _ _ r => r = .bool (q x))) :
  Calls Tryz.prog 181 #[v, .func (.func g) #[] caps.toArray] w (fun e w' => ∃ k, e = .returned (.int .i64 (if k < xs.length then (k : Int) else -1)) ∧ k ≤ xs.length ∧ (∀ j x, j < k → xs[j]? = some x → q x = false) ∧ (∀ x, xs[k]? = some x → q x = true) ∧ St h0 w0 h w' own) := by
 obtain ⟨hall, hx⟩ := OSl.whole st hO hi hb
 refine (c_slices_IndexFunc_Lstem_entry_stem_entry_st (fun k h' w' => St (heapOf w) w h' w' [] ∧ k ≤ xs.length) (fun k => ((xs[k]?).map q).getD false) (fun k h' w' hk => ⟨hk.1.sub, hx.up hk.1.le⟩) ?_ hg ⟨St.start (heapOf_sub w), Nat.zero_le _⟩).mono ?_
 ·rintro k x h' w' vs ⟨st', _⟩ hk hr u hu
  refine (hf x h' w' vs (hall.trans st'.le) st'.sub (List.mem_of_getElem? hk) hr u hu).mono ?_
  rintro e w'' ⟨h'', r, rfl, s, rfl⟩
  obtain ⟨hlt, _⟩ := List.getElem?_eq_some_iff.1 hk
  exact ⟨h'', by simp [hk], st'.call0 s, hlt⟩
 ·rintro e w' ⟨h', k, rfl, q1, q2, q3, q4⟩
  refine ⟨k, rfl, q1, fun j x hj hx => ?_, fun x hx => ?_, st.call0 (St.thaw q4.1 st.sub)⟩
  ·have := q2 j hj; simpa [hx] using this
  ·obtain ⟨hlt, _⟩ := List.getElem?_eq_some_iff.1 hx
   have := q3 hlt; simpa [hx] using this
set_option maxRecDepth 4000 in
theorem c_slices_DeleteFunc_Lstem_entry_stem_entry {h0 h : Heap} {w0 w : World} {rest : Own} {s : (List Entry)} {s_o : List (Nat × Obj)} {s_v : Value} (s_f : OSl LEntry 120 h s_v s s_o) {g : FuncId} {caps : List Value} (q : Entry → Bool) (hb : s.length ≤ 281474976710656) (hg : ∀ a w, (callFunc g a).run Tryz.prog w = .ok (.enter g a) w) (hf : ∀ x h' w' vs, Le h h' → Sub h' w' → x ∈ s → LEntry.R h' vs x → ∀ u, u = .agg vs.toArray → Calls Tryz.prog g (u :: caps).toArray w' (Rets h' w' fun _ _ r => r = .bool (q x))) (st0 : St h0 w0 h w (s_o :: rest)) : Calls Tryz.prog 117 #[s_v, .func (.func g) #[] caps.toArray] w (fun e_ w' => ∃ h' s_o' v', e_ = .returned v' ∧ Le h h' ∧ St h0 w0 h' w' (s_o' :: rest) ∧ OSl LEntry 120 h' v' (s.filter fun x => !q x) s_o') := by
 refine zx (n := 42) (args := [s_v, .func (.func g) #[] caps.toArray]) Tryz.func117 X X X<|W.sr<|v_asL X X<|Y<|W.sr<|v_move (v := s_v) X X<|v_move X X ?_
 refine zD rfl rfl (zS rfl Tryz.call181 rfl) ((c_slices_IndexFunc_Lstem_entry_stem_entry_own (i := 0) st0 s_f rfl hb q hg (fun x h1 w1 vs le_ => hf x h1 w1 vs ((Le.refl _).trans le_))).mono ?_)
 rintro _ w1 ⟨kq, rfl, hk1, hk2, hk3, st6⟩
 refine ⟨_, rfl, ?_⟩
 obtain ⟨rq, hrq⟩ : ∃ r : Int, r = if kq < s.length then (kq : Int) else -1 := ⟨_, rfl⟩
 rw [← hrq]
 refine v_asI X X<|Y<|zg<|W.sr<|v_mvI X X<|v_eql X X X<|Y ?_
 refine zh rfl (fun c9 => ?_) (fun c9 => ?_)
 ·
  replace c9 := of_decide_eq_true c9
  refine W.sr<|v_move (v := s_v) X X<|v_assign (v := s_v) X X<|Y<|zk<|zd<|O Tryz.results117 ?_
  refine ⟨h, _, _, rfl, (Le.refl _), st6, OSl.to s_f ?_⟩
  exact (filter_none (fun j x hj hx => hk2 j x (by by_cases q : kq < s.length; (rw [if_pos q] at hrq; have q2 := c9; omega); omega) hx)).symm
 ·
  replace c9 := of_decide_eq_false c9
  refine zo<|U<|zg<|zg ?_
  have hk : kq < s.length := by
   by_cases q : kq < s.length
   ·exact q
   ·rw [if_neg q] at hrq; exact absurd hrq c9
  rw [if_pos hk] at hrq
  refine zm<|v_mvI X X<|v_add X X t_om X<|v_asI X X<|Y<|zr ?_
  refine zN [0, 5, 6, 7, 16, 17, 18, 19, 20, 21, 22, 23, 24, 25, 26, 27, 28, 29, 30, 31, 32, 33, 34, 35] (G := Nat × Nat × List Entry × Value × List (Nat × Obj) × Heap) (fun ⟨i, j, ys, v_0, o_0, h10⟩ => [(0, v_0), (5, .int .i64 (i : Int)), (6, .int .i64 (j : Int))]) (fun ⟨i, j, ys, v_0, o_0, h10⟩ w' => Le h h10 ∧ St h0 w0 h10 w' (o_0 :: rest) ∧ (OSl LEntry 120 h10 v_0 (ys) o_0) ∧ (DelF q s ys i j) ∧ (ys.length = s.length ∧ i ≤ j ∧ j ≤ s.length)) (fun ⟨i, j, ys, v_0, o_0, h10⟩ => s.length - j) ⟨kq, kq + 1, s, s_v, s_o, h⟩ ⟨rfl, (zC (by omega)), (zC (by omega)), trivial⟩ ⟨Le.refl _, st6, (OSl.to s_f (by rfl)), (by exact DelF.start hk2 hk3 hk), (by exact ⟨rfl, by omega, by omega⟩)⟩ ?_
  rintro ⟨i, j, ys, v_0, o_0, h10⟩ _ w13 ⟨le11, st12, hO_0, hD, hyl⟩
  refine zg<|W.sr<|v_mvI X X<|v_move (v := v_0) X X<|v_len_own hO_0 X Tryz.underlying115 X<|v_lss X X X<|Y ?_
  refine zh rfl (fun c14 => ?_) (fun c14 => ?_)
  ·
   replace c14 := of_decide_eq_true c14
   refine zo<|U<|zg<|zr<|W.sr<|v_move (v := v_0) X X<|v_mvI X X ?_
   have hy : ∃ y_, (ys)[j]? = some y_ := ⟨_, List.getElem?_eq_getElem (by omega)⟩
   obtain ⟨y, hy⟩ := hy
   obtain ⟨b15, o16, cur17, _, e20, he18, hr_y, hc19⟩ := OSl.elem hO_0 hy
   subst e20
   obtain ⟨rfl, ls21, ls22, lu23⟩ := hr_y
   simp only [big] at ls21
   simp only [big] at ls22
   refine v_index_el he18 X X (hk := X) (hu := Tryz.underlying115) (hz := Tryz.sizeOf120) X<|ze X X (r_load_curN (st12.get (k := 0) X) hc19 X Tryz.isAgg120 Tryz.sizeOf120 X)<|OpsL.allocSt st12 Tryz.zeroValue120 X X X (us := [.int .i64 (y.at_.chapter), .int .i64 (y.at_.line), .int .i64 (y.at_.word), strV (y.word), strV (y.head.stem), .int .u8 (y.head.mark)]) (fun _ => X) (E X (E X (E X (E X (E X (E X zI)))))) Tryz.sizeOf120 X ?_
   intro b24 w25 h26 le27 hc28 st29
   refine Y<|W.sr<|v_move X X<|v_load_call st29.sub hc28 X Tryz.isAgg120 Tryz.sizeOf120 X X ?_
   refine zD rfl rfl (zaa (fs := []) (cs := caps) rfl rfl hg rfl) ((hf y _ _ _ (le11.trans le27) st29.sub (List.mem_of_getElem? (hD.get hy)) ⟨rfl, zO, zO, t_u8⟩ _ rfl).mono ?_)
   rintro _ w30 ⟨h31, _, rfl, s32, rfl⟩
   refine ⟨_, rfl, ?_⟩
   have st33 := st29.call0 s32
   have le34 := s32.le
   refine v_not X X<|Y ?_
   refine zh rfl (fun c35 => ?_) (fun c35 => ?_)
   ·
    refine W.sr<|v_move (v := v_0) X X<|v_mvI X X<|v_load_call st33.sub (hc28.up le34) X Tryz.isAgg120 Tryz.sizeOf120 X X ?_
    have hy2 : ∃ y_, (ys)[i]? = some y_ := ⟨_, List.getElem?_eq_getElem (by omega)⟩
    obtain ⟨y2, hy2⟩ := hy2
    obtain ⟨b36, o37, cur38, _, e41, he39, hr_y2, hc40⟩ := OSl.elem (hO_0.up (le27.trans le34)) hy2
    obtain ⟨hb42, hc43⟩ : b15 = b36 ∧ cur17 = cur38 := by cases e41; exact ⟨rfl, rfl⟩
    subst hb42
    subst hc43
    obtain ⟨rfl, ls44, ls45, lu46⟩ := hr_y2
    simp only [big] at ls44
    simp only [big] at ls45
    refine ze rfl rfl (zQ he39 rfl rfl (hk := (show _ = ((i : Nat) : Int) by omega)) (hu := Tryz.underlying115) (hz := Tryz.sizeOf120)) ?_
    refine OpsL.storeEl (k := 0) st33 (hO_0.up (le27.trans le34)) rfl (by omega) he39 rfl rfl (⟨rfl, zO, zO, t_u8⟩) Tryz.sizeOf120 ?_
    intro o47 w48 _ e49 f50 st51
    subst e49
    refine Y<|zm<|v_mvI X X<|v_add X X t_om X<|v_asI X X<|zj<|zz<|U<|zm<|v_mvI X X<|v_add X X t_om X<|v_asI X X<|Y ?_
    refine ⟨⟨i + 1, j + 1, (ys.set i y), v_0, o47, h31⟩, ⟨rfl, rfl, rfl, trivial⟩, ?_, ⟨((le11.trans le27).trans le34), st51, ?_, ?_, ?_⟩, ?_⟩
    ·exact zR
    ·refine OSl.to f50 ?_
     rfl
    ·exact hD.keep hy (by simpa using c35)
    ·refine ⟨by first | (rw [List.length_set]; exact hyl.1) | exact hyl.1, by omega, by omega⟩
    ·show s.length - ((j + 1)) < s.length - j
     omega
   ·
    refine zo<|zz<|U<|zm<|v_mvI X X<|v_add X X t_om X<|v_asI X X<|Y ?_
    refine ⟨⟨i, j + 1, ys, v_0, [(b15, .cells cur17 120)], h31⟩, ⟨rfl, rfl, rfl, trivial⟩, ?_, ⟨((le11.trans le27).trans le34), st33, ?_, ?_, ?_⟩, ?_⟩
    ·exact zR
    ·refine OSl.to (hO_0.up (le27.trans le34)) ?_
     rfl
    ·exact hD.skip hy (by simpa using c35)
    ·refine ⟨by first | (rw [List.length_set]; exact hyl.1) | exact hyl.1, by omega, by omega⟩
    ·show s.length - ((j + 1)) < s.length - j
     omega
  ·
   replace c14 := of_decide_eq_false c14
   refine zP<|zi<|zi<|zJ<|U<|W.sr<|v_move (v := v_0) X X<|v_mvI X X ?_
   refine ze rfl rfl (r_slice_from_own hO_0 rfl rfl (hk := (show _ = ((i : Nat) : Int) by omega)) (by omega) Tryz.underlying115 Tryz.sizeOf120) ?_
   refine OpsL.clearTail (k := 0) (j := i) st12 hO_0 rfl (by omega) rfl Tryz.underlying115 Tryz.zeroValue120 rfl (by decide) ?_
   intro o52 w53 _ e54 f55 st56
   subst e54
   refine Y<|W.sr<|v_move (v := v_0) X X<|v_mvI X X ?_
   refine ze rfl rfl (r_slice_to_own hO_0 rfl rfl (hk := (show _ = ((i : Nat) : Int) by omega)) (by omega) Tryz.underlying115 Tryz.sizeOf120) ?_
   refine v_assign (v := (vtake v_0 (i))) X X<|Y<|zk<|O Tryz.results117 ?_
   refine ⟨h10, _, _, rfl, le11, st56, OSl.to f55 ?_⟩
   exact hD.fin (by omega)
end Go.Pk

namespace Go.Pk
open Go Go.RowKit Go.Proofs
set_option maxRecDepth 4000 in
theorem c_slices_Compact_Lapi_Head_api_Head {h0 h : Heap} {w0 w : World} {rest : Own} {s : (List Head)} {s_o : List (Nat × Obj)} {s_v : Value} (s_f : OSl LHead 32 h s_v s s_o) (hb : s.length ≤ 281474976710656) (st0 : St h0 w0 h w (s_o :: rest)) : Calls Tryz.prog 83 #[s_v] w (fun e_ w' => ∃ h' s_o' v', e_ = .returned v' ∧ Le h h' ∧ St h0 w0 h' w' (s_o' :: rest) ∧ OSl LHead 32 h' v' (compactL s) s_o') := by
 refine zx (n := 61) (args := [s_v]) Tryz.func83 X X X<|W.sr<|v_asL X X<|Y<|zg<|W.sr<|v_move (v := s_v) X X<|v_len_own s_f X Tryz.underlying43 X<|v_lss X X X<|Y ?_
 refine zh rfl (fun c1 => ?_) (fun c1 => ?_)
 ·
  replace c1 := of_decide_eq_true c1
  refine W.sr<|v_move (v := s_v) X X<|v_assign (v := s_v) X X<|Y<|zk<|zd<|O Tryz.results83 ?_
  refine ⟨h, _, _, rfl, (Le.refl _), st0, OSl.to s_f ?_⟩
  exact (comp_short (by omega)).symm
 ·
  replace c1 := of_decide_eq_false c1
  refine zo<|U<|zg<|W.sr<|v_asI X X<|Y<|zr ?_
  refine zN [2, 3, 4, 5, 10, 11, 12, 13, 14, 15, 16, 17, 18, 19, 20, 21, 22, 23, 24, 25, 26, 27, 28, 29, 30, 31, 32, 33, 34, 35, 36, 37, 38, 39, 40, 41, 42, 43, 44, 45, 46, 47, 48, 49, 50, 51, 52, 53, 54, 55, 56, 57, 58, 59] (G := Nat × List (Nat × Obj) × Heap) (fun ⟨k, o_0, h2⟩ => [(3, .int .i64 (k : Int))]) (fun ⟨k, o_0, h2⟩ w' => Le h h2 ∧ St h0 w0 h2 w' (o_0 :: rest) ∧ (OSl LHead 32 h2 s_v (s) o_0) ∧ (1 ≤ k ∧ k ≤ s.length) ∧ (compactL (s.take k) = s.take k)) (fun ⟨k, o_0, h2⟩ => s.length - k) ⟨1, s_o, h⟩ ⟨rfl, trivial⟩ ⟨Le.refl _, st0, (OSl.to s_f (by rfl)), (by exact ⟨by omega, by omega⟩), (by exact comp_one (by omega))⟩ ?_
  rintro ⟨k, o_0, h2⟩ _ w5 ⟨le3, st4, hO_0, hk, hc⟩
  refine zg<|W.sr<|v_mvI X X<|v_move (v := s_v) X X<|v_len_own hO_0 X Tryz.underlying43 X<|v_lss X X X<|Y ?_
  refine zh rfl (fun c6 => ?_) (fun c6 => ?_)
  ·
   replace c6 := of_decide_eq_true c6
   refine zo<|U<|zg<|zr<|zg<|W.regionQ Tryz.mixed t_kr (Cls h2 _) (Cls.drew st4)<|u_move (v := s_v) X X<|u_mvI X X ?_
   have hy : ∃ y_, (s)[k]? = some y_ := ⟨_, List.getElem?_eq_getElem (by omega)⟩
   obtain ⟨y, hy⟩ := hy
   obtain ⟨b7, o8, cur9, _, e12, he10, hr_y, hc11⟩ := OSl.elem hO_0 hy
   subst e12
   obtain ⟨rfl, ls13, lu14⟩ := hr_y
   simp only [big] at ls13
   refine u_index_el he10 X X (hk := X) (hu := Tryz.underlying43) (hz := Tryz.sizeOf32) X<|zt X X (fun _ hC => (r_load_curN (hC.block (st4.get (k := 0) X)) hc11 X Tryz.isAgg32 Tryz.sizeOf32 X))<|u_move (v := s_v) X X<|u_mvI X X<|u_sub X X t_om X ?_
   have hz : ∃ y_, (s)[k - 1]? = some y_ := ⟨_, List.getElem?_eq_getElem (by omega)⟩
   obtain ⟨z, hz⟩ := hz
   obtain ⟨b15, o16, cur17, _, e20, he18, hr_z, hc19⟩ := OSl.elem hO_0 hz
   obtain ⟨hb21, hc22⟩ : b7 = b15 ∧ cur9 = cur17 := by cases e20; exact ⟨rfl, rfl⟩
   subst hb21
   subst hc22
   obtain ⟨rfl, ls23, lu24⟩ := hr_z
   simp only [big] at ls23
   refine zt rfl rfl (fun _ _ => (zQ he18 rfl rfl (hk := (show _ = ((k - 1 : Nat) : Int) by omega)) (hu := Tryz.underlying43) (hz := Tryz.sizeOf32))) ?_
   refine zt X X (fun _ hC => (r_load_curN (hC.block (st4.get (k := 0) X)) hc19 X Tryz.isAgg32 Tryz.sizeOf32 X))<|zt X X (fun _ _ => (r_steql X X Tryz.eqGuardType32 (Tryz.eq_Head y z)))<|OpsQ.nil ?_
   rintro w25 ⟨h26, s27⟩
   have st28 := st4.call0 s27
   refine U ?_
   refine zh rfl (fun c29 => ?_) (fun c29 => ?_)
   ·
    replace c29 := of_decide_eq_true c29
    refine W.sr<|v_move (v := s_v) X X<|v_mvI X X ?_
    refine ze rfl rfl (r_slice_from_own (hO_0.up s27.le) rfl rfl (hk := (show _ = ((k : Nat) : Int) by omega)) (by omega) Tryz.underlying43 Tryz.sizeOf32) ?_
    refine v_assign (v := (vdrop 2 s_v (k))) X X<|Y<|zg<|W.sr<|v_asI X X<|Y<|zr ?_
    refine zN [3, 5, 29, 30, 31, 32, 33, 34, 35, 36, 37, 38, 39, 40, 41, 42, 43, 44, 45, 46, 47, 48, 49, 50, 51, 52, 53] (G := Nat × Nat × List Head × List (Nat × Obj) × Heap) (fun ⟨i, k2, ys, o_0, h30⟩ => [(3, .int .i64 (i : Int)), (5, .int .i64 (k2 : Int))]) (fun ⟨i, k2, ys, o_0, h30⟩ w' => Le h26 h30 ∧ St h0 w0 h30 w' (o_0 :: rest) ∧ (OSl LHead 32 h30 s_v (ys) o_0) ∧ (1 ≤ k2 ∧ k + k2 ≤ s.length ∧ ys.length = s.length ∧ i + 1 ≤ k + k2) ∧ (Comp s ys i (k + k2))) (fun ⟨i, k2, ys, o_0, h30⟩ => s.length - (k + k2)) ⟨k, 1, s, [(b7, .cells cur9 32)], h26⟩ ⟨rfl, rfl, trivial⟩ ⟨Le.refl _, st28, (OSl.to (hO_0.up s27.le) (by rfl)), (by exact ⟨by omega, by omega, rfl, by omega⟩), (by exact Comp.start hz hy hk.1 hc (by simpa using c29))⟩ ?_
    rintro ⟨i, k2, ys, o_0, h30⟩ _ w33 ⟨le31, st32, hO_0, hk2, hD⟩
    refine zg<|W.sr<|v_mvI X X<|v_move (v := (vdrop 2 s_v (k))) X X<|ze X X (r_len_vdrop X (OSl.form hO_0) Tryz.underlying43)<|v_lss X X X<|Y ?_
    refine zh rfl (fun c34 => ?_) (fun c34 => ?_)
    ·
     replace c34 := of_decide_eq_true c34
     refine zo<|U<|zg<|zr<|zg<|W.regionQ Tryz.mixed t_kr (Cls h30 _) (Cls.drew st32)<|u_move (v := (vdrop 2 s_v (k))) X X<|u_mvI X X ?_
     have hy2 : ∃ y_, (ys)[k + k2]? = some y_ := ⟨_, List.getElem?_eq_getElem (by omega)⟩
     obtain ⟨y2, hy2⟩ := hy2
     obtain ⟨b35, o36, cur37, _, e40, he38, hr_y2, hc39⟩ := OSl.elem hO_0 hy2
     subst e40
     obtain ⟨rfl, ls41, lu42⟩ := hr_y2
     simp only [big] at ls41
     refine zt rfl rfl (fun _ _ => (zQ (Elem.drop' (k := k) (j := k2) he38 (by omega) (OSl.caps hO_0)) rfl rfl (hk := rfl) (hu := Tryz.underlying43) (hz := Tryz.sizeOf32))) ?_
     refine zt X X (fun _ hC => (r_load_curN (hC.block (st32.get (k := 0) X)) hc39 X Tryz.isAgg32 Tryz.sizeOf32 X))<|u_move (v := (vdrop 2 s_v (k))) X X<|u_mvI X X<|u_sub X X t_om X ?_
     have hz2 : ∃ y_, (ys)[k + k2 - 1]? = some y_ := ⟨_, List.getElem?_eq_getElem (by omega)⟩
     obtain ⟨z2, hz2⟩ := hz2
     obtain ⟨b43, o44, cur45, _, e48, he46, hr_z2, hc47⟩ := OSl.elem hO_0 hz2
     obtain ⟨hb49, hc50⟩ : b35 = b43 ∧ cur37 = cur45 := by cases e48; exact ⟨rfl, rfl⟩
     subst hb49
     subst hc50
     obtain ⟨rfl, ls51, lu52⟩ := hr_z2
     simp only [big] at ls51
     refine zt rfl rfl (fun _ _ => (zQ (Elem.drop' (k := k) (j := k2 - 1) he46 (by omega) (OSl.caps hO_0)) rfl rfl (hk := (show _ = ((k2 - 1 : Nat) : Int) by omega)) (hu := Tryz.underlying43) (hz := Tryz.sizeOf32))) ?_
     refine zt X X (fun _ hC => (r_load_curN (hC.block (st32.get (k := 0) X)) hc47 X Tryz.isAgg32 Tryz.sizeOf32 X))<|zt X X (fun _ _ => (r_stneq X X Tryz.eqGuardType32 (Tryz.eq_Head y2 z2)))<|OpsQ.nil ?_
     rintro w53 ⟨h54, s55⟩
     have st56 := st32.call0 s55
     refine U ?_
     refine zh rfl (fun c57 => ?_) (fun c57 => ?_)
     ·
      replace c57 := of_decide_eq_true c57
      refine W.sr<|v_move (v := s_v) X X<|v_mvI X X<|v_move (v := (vdrop 2 s_v (k))) X X<|v_mvI X X ?_
      obtain ⟨b58, o59, cur60, _, e63, he61, hr_y2, hc62⟩ := OSl.elem (hO_0.up s55.le) hy2
      obtain ⟨hb64, hc65⟩ : b35 = b58 ∧ cur37 = cur60 := by cases e63; exact ⟨rfl, rfl⟩
      subst hb64
      subst hc65
      obtain ⟨rfl, ls66, lu67⟩ := hr_y2
      simp only [big] at ls66
      refine ze rfl rfl (zQ (Elem.drop' (k := k) (j := k2) he61 (by omega) (OSl.caps (hO_0.up s55.le))) rfl rfl (hk := rfl) (hu := Tryz.underlying43) (hz := Tryz.sizeOf32)) ?_
      refine ze X X (r_load_curN (st56.get (k := 0) X) hc62 X Tryz.isAgg32 Tryz.sizeOf32 X) ?_
      have hu2 : ∃ y_, (ys)[i]? = some y_ := ⟨_, List.getElem?_eq_getElem (by omega)⟩
      obtain ⟨u2, hu2⟩ := hu2
      obtain ⟨b68, o69, cur70, _, e73, he71, hr_u2, hc72⟩ := OSl.elem (hO_0.up s55.le) hu2
      obtain ⟨hb74, hc75⟩ : b35 = b68 ∧ cur37 = cur70 := by cases e73; exact ⟨rfl, rfl⟩
      subst hb74
      subst hc75
      obtain ⟨rfl, ls76, lu77⟩ := hr_u2
      simp only [big] at ls76
      refine ze rfl rfl (zQ he71 rfl rfl (hk := (show _ = ((i : Nat) : Int) by omega)) (hu := Tryz.underlying43) (hz := Tryz.sizeOf32)) ?_
      refine OpsL.storeEl (k := 0) st56 (hO_0.up s55.le) rfl (by omega) he71 rfl rfl (⟨rfl, zO, t_u8⟩) Tryz.sizeOf32 ?_
      intro o78 w79 _ e80 f81 st82
      subst e80
      refine Y<|zm<|v_mvI X X<|v_add X X t_om X<|v_asI X X<|zj<|zz<|U<|zm<|v_mvI X X<|v_add X X t_om X<|v_asI X X<|Y ?_
      refine ⟨⟨i + 1, k2 + 1, (ys.set i y2), o78, h54⟩, ⟨rfl, rfl, trivial⟩, ?_, ⟨(le31.trans s55.le), st82, ?_, ?_, ?_⟩, ?_⟩
      ·exact zR
      ·refine OSl.to f81 ?_
       rfl
      ·refine ⟨by omega, by omega, by first | (rw [List.length_set]; omega) | omega, by omega⟩
      ·exact hD.keep hy2 hz2 (by simpa using c57)
      ·show s.length - (k + ((k2 + 1))) < s.length - (k + k2)
       omega
     ·
      replace c57 := of_decide_eq_false c57
      refine zo<|zz<|U<|zm<|v_mvI X X<|v_add X X t_om X<|v_asI X X<|Y ?_
      refine ⟨⟨i, k2 + 1, ys, [(b35, .cells cur37 32)], h54⟩, ⟨rfl, rfl, trivial⟩, ?_, ⟨(le31.trans s55.le), st56, ?_, ?_, ?_⟩, ?_⟩
      ·exact zR
      ·refine OSl.to (hO_0.up s55.le) ?_
       rfl
      ·refine ⟨by omega, by omega, by first | (rw [List.length_set]; omega) | omega, by omega⟩
      ·exact hD.skip hy2 hz2 (by simpa using c57)
      ·show s.length - (k + ((k2 + 1))) < s.length - (k + k2)
       omega
    ·
     replace c34 := of_decide_eq_false c34
     refine zP<|zi<|zi<|zJ<|U<|W.sr<|v_move (v := s_v) X X<|v_mvI X X ?_
     refine ze rfl rfl (r_slice_from_own hO_0 rfl rfl (hk := (show _ = ((i : Nat) : Int) by omega)) (by omega) Tryz.underlying43 Tryz.sizeOf32) ?_
     refine OpsL.clearTail (k := 0) (j := i) st32 hO_0 rfl (by omega) rfl Tryz.underlying43 Tryz.zeroValue32 rfl (by decide) ?_
     intro o83 w84 _ e85 f86 st87
     subst e85
     refine Y<|W.sr<|v_move (v := s_v) X X<|v_mvI X X ?_
     refine ze rfl rfl (r_slice_to_own hO_0 rfl rfl (hk := (show _ = ((i : Nat) : Int) by omega)) (by omega) Tryz.underlying43 Tryz.sizeOf32) ?_
     refine v_assign (v := (vtake s_v (i))) X X<|Y<|zk<|zw<|zd<|zd<|zw<|zd<|O Tryz.results83 ?_
     refine ⟨h30, _, _, rfl, ((le3.trans s27.le).trans le31), st87, OSl.to f86 ?_⟩
     exact hD.fin (by omega)
   ·
    replace c29 := of_decide_eq_false c29
    refine zo<|zz<|U<|zm<|v_mvI X X<|v_add X X t_om X<|v_asI X X<|Y ?_
    refine ⟨⟨k + 1, [(b7, .cells cur9 32)], h26⟩, ⟨rfl, trivial⟩, ?_, ⟨(le3.trans s27.le), st28, ?_, ?_, ?_⟩, ?_⟩
    ·exact zR
    ·refine OSl.to (hO_0.up s27.le) ?_
     rfl
    ·exact ⟨by omega, by omega⟩
    ·exact comp_more hz hy hk.1 hc (by simpa using c29)
    ·show s.length - ((k + 1)) < s.length - k
     omega
  ·
   replace c6 := of_decide_eq_false c6
   refine zP<|zi<|zi<|zJ<|U<|W.sr<|v_move (v := s_v) X X<|v_assign (v := s_v) X X<|Y<|zk<|O Tryz.results83 ?_
   refine ⟨h2, _, _, rfl, le3, st4, OSl.to hO_0 ?_⟩
   rw [List.take_of_length_le (by omega)] at hc; exact hc.symm
set_option maxRecDepth 4000 in
theorem c_slices_Compact_Lstring_string {h0 h : Heap} {w0 w : World} {rest : Own} {s : (List Str)} {s_o : List (Nat × Obj)} {s_v : Value} (s_f : OSl LStr 9 h s_v s s_o) (hb : s.length ≤ 281474976710656) (st0 : St h0 w0 h w (s_o :: rest)) : Calls Tryz.prog 75 #[s_v] w (fun e_ w' => ∃ h' s_o' v', e_ = .returned v' ∧ Le h h' ∧ St h0 w0 h' w' (s_o' :: rest) ∧ OSl LStr 9 h' v' (compactL s) s_o') := by
 refine zx (n := 61) (args := [s_v]) Tryz.func75 X X X<|W.sr<|v_asL X X<|Y<|zg<|W.sr<|v_move (v := s_v) X X<|v_len_own s_f X Tryz.underlying62 X<|v_lss X X X<|Y ?_
 refine zh rfl (fun c1 => ?_) (fun c1 => ?_)
 ·
  replace c1 := of_decide_eq_true c1
  refine W.sr<|v_move (v := s_v) X X<|v_assign (v := s_v) X X<|Y<|zk<|zd<|O Tryz.results75 ?_
  refine ⟨h, _, _, rfl, (Le.refl _), st0, OSl.to s_f ?_⟩
  exact (comp_short (by omega)).symm
 ·
  replace c1 := of_decide_eq_false c1
  refine zo<|U<|zg<|W.sr<|v_asI X X<|Y<|zr ?_
  refine zN [2, 3, 4, 5, 10, 11, 12, 13, 14, 15, 16, 17, 18, 19, 20, 21, 22, 23, 24, 25, 26, 27, 28, 29, 30, 31, 32, 33, 34, 35, 36, 37, 38, 39, 40, 41, 42, 43, 44, 45, 46, 47, 48, 49, 50, 51, 52, 53, 54, 55, 56, 57, 58, 59] (G := Nat × List (Nat × Obj) × Heap) (fun ⟨k, o_0, h2⟩ => [(3, .int .i64 (k : Int))]) (fun ⟨k, o_0, h2⟩ w' => Le h h2 ∧ St h0 w0 h2 w' (o_0 :: rest) ∧ (OSl LStr 9 h2 s_v (s) o_0) ∧ (1 ≤ k ∧ k ≤ s.length) ∧ (compactL (s.take k) = s.take k)) (fun ⟨k, o_0, h2⟩ => s.length - k) ⟨1, s_o, h⟩ ⟨rfl, trivial⟩ ⟨Le.refl _, st0, (OSl.to s_f (by rfl)), (by exact ⟨by omega, by omega⟩), (by exact comp_one (by omega))⟩ ?_
  rintro ⟨k, o_0, h2⟩ _ w5 ⟨le3, st4, hO_0, hk, hc⟩
  refine zg<|W.sr<|v_mvI X X<|v_move (v := s_v) X X<|v_len_own hO_0 X Tryz.underlying62 X<|v_lss X X X<|Y ?_
  refine zh rfl (fun c6 => ?_) (fun c6 => ?_)
  ·
   replace c6 := of_decide_eq_true c6
   refine zo<|U<|zg<|zr<|zg<|W.regionQ Tryz.mixed t_kr (Cls h2 _) (Cls.drew st4)<|u_move (v := s_v) X X<|u_mvI X X ?_
   have hy : ∃ y_, (s)[k]? = some y_ := ⟨_, List.getElem?_eq_getElem (by omega)⟩
   obtain ⟨y, hy⟩ := hy
   obtain ⟨b7, o8, cur9, _, e12, he10, hr_y, hc11⟩ := OSl.elem hO_0 hy
   subst e12
   obtain ⟨rfl, ls13⟩ := hr_y
   simp only [big] at ls13
   refine u_index_el he10 X X (hk := X) (hu := Tryz.underlying62) (hz := Tryz.sizeOf9) X<|zt X X (fun _ hC => (r_load_cur1 (j := 0) (hC.block (st4.get (k := 0) X)) hc11 X X X Tryz.isAgg9))<|u_move (v := s_v) X X<|u_mvI X X<|u_sub X X t_om X ?_
   have hz : ∃ y_, (s)[k - 1]? = some y_ := ⟨_, List.getElem?_eq_getElem (by omega)⟩
   obtain ⟨z, hz⟩ := hz
   obtain ⟨b14, o15, cur16, _, e19, he17, hr_z, hc18⟩ := OSl.elem hO_0 hz
   obtain ⟨hb20, hc21⟩ : b7 = b14 ∧ cur9 = cur16 := by cases e19; exact ⟨rfl, rfl⟩
   subst hb20
   subst hc21
   obtain ⟨rfl, ls22⟩ := hr_z
   simp only [big] at ls22
   refine zt rfl rfl (fun _ _ => (zQ he17 rfl rfl (hk := (show _ = ((k - 1 : Nat) : Int) by omega)) (hu := Tryz.underlying62) (hz := Tryz.sizeOf9))) ?_
   refine zt X X (fun _ hC => (r_load_cur1 (j := 0) (hC.block (st4.get (k := 0) X)) hc18 X X X Tryz.isAgg9))<|u_seql X X X<|OpsQ.nil ?_
   rintro w23 ⟨h24, s25⟩
   have st26 := st4.call0 s25
   refine U ?_
   refine zh rfl (fun c27 => ?_) (fun c27 => ?_)
   ·
    replace c27 := of_decide_eq_true c27
    refine W.sr<|v_move (v := s_v) X X<|v_mvI X X ?_
    refine ze rfl rfl (r_slice_from_own (hO_0.up s25.le) rfl rfl (hk := (show _ = ((k : Nat) : Int) by omega)) (by omega) Tryz.underlying62 Tryz.sizeOf9) ?_
    refine v_assign (v := (vdrop 1 s_v (k))) X X<|Y<|zg<|W.sr<|v_asI X X<|Y<|zr ?_
    refine zN [3, 5, 29, 30, 31, 32, 33, 34, 35, 36, 37, 38, 39, 40, 41, 42, 43, 44, 45, 46, 47, 48, 49, 50, 51, 52, 53] (G := Nat × Nat × List Str × List (Nat × Obj) × Heap) (fun ⟨i, k2, ys, o_0, h28⟩ => [(3, .int .i64 (i : Int)), (5, .int .i64 (k2 : Int))]) (fun ⟨i, k2, ys, o_0, h28⟩ w' => Le h24 h28 ∧ St h0 w0 h28 w' (o_0 :: rest) ∧ (OSl LStr 9 h28 s_v (ys) o_0) ∧ (1 ≤ k2 ∧ k + k2 ≤ s.length ∧ ys.length = s.length ∧ i + 1 ≤ k + k2) ∧ (Comp s ys i (k + k2))) (fun ⟨i, k2, ys, o_0, h28⟩ => s.length - (k + k2)) ⟨k, 1, s, [(b7, .cells cur9 9)], h24⟩ ⟨rfl, rfl, trivial⟩ ⟨Le.refl _, st26, (OSl.to (hO_0.up s25.le) (by rfl)), (by exact ⟨by omega, by omega, rfl, by omega⟩), (by exact Comp.start hz hy hk.1 hc (by simpa using c27))⟩ ?_
    rintro ⟨i, k2, ys, o_0, h28⟩ _ w31 ⟨le29, st30, hO_0, hk2, hD⟩
    refine zg<|W.sr<|v_mvI X X<|v_move (v := (vdrop 1 s_v (k))) X X<|ze X X (r_len_vdrop X (OSl.form hO_0) Tryz.underlying62)<|v_lss X X X<|Y ?_
    refine zh rfl (fun c32 => ?_) (fun c32 => ?_)
    ·
     replace c32 := of_decide_eq_true c32
     refine zo<|U<|zg<|zr<|zg<|W.regionQ Tryz.mixed t_kr (Cls h28 _) (Cls.drew st30)<|u_move (v := (vdrop 1 s_v (k))) X X<|u_mvI X X ?_
     have hy2 : ∃ y_, (ys)[k + k2]? = some y_ := ⟨_, List.getElem?_eq_getElem (by omega)⟩
     obtain ⟨y2, hy2⟩ := hy2
     obtain ⟨b33, o34, cur35, _, e38, he36, hr_y2, hc37⟩ := OSl.elem hO_0 hy2
     subst e38
     obtain ⟨rfl, ls39⟩ := hr_y2
     simp only [big] at ls39
     refine zt rfl rfl (fun _ _ => (zQ (Elem.drop' (k := k) (j := k2) he36 (by omega) (OSl.caps hO_0)) rfl rfl (hk := rfl) (hu := Tryz.underlying62) (hz := Tryz.sizeOf9))) ?_
     refine zt X X (fun _ hC => (r_load_cur1 (j := 0) (hC.block (st30.get (k := 0) X)) hc37 X X X Tryz.isAgg9))<|u_move (v := (vdrop 1 s_v (k))) X X<|u_mvI X X<|u_sub X X t_om X ?_
     have hz2 : ∃ y_, (ys)[k + k2 - 1]? = some y_ := ⟨_, List.getElem?_eq_getElem (by omega)⟩
     obtain ⟨z2, hz2⟩ := hz2
     obtain ⟨b40, o41, cur42, _, e45, he43, hr_z2, hc44⟩ := OSl.elem hO_0 hz2
     obtain ⟨hb46, hc47⟩ : b33 = b40 ∧ cur35 = cur42 := by cases e45; exact ⟨rfl, rfl⟩
     subst hb46
     subst hc47
     obtain ⟨rfl, ls48⟩ := hr_z2
     simp only [big] at ls48
     refine zt rfl rfl (fun _ _ => (zQ (Elem.drop' (k := k) (j := k2 - 1) he43 (by omega) (OSl.caps hO_0)) rfl rfl (hk := (show _ = ((k2 - 1 : Nat) : Int) by omega)) (hu := Tryz.underlying62) (hz := Tryz.sizeOf9))) ?_
     refine zt X X (fun _ hC => (r_load_cur1 (j := 0) (hC.block (st30.get (k := 0) X)) hc44 X X X Tryz.isAgg9))<|zt X X (fun _ _ => (r_sneq X X))<|OpsQ.nil ?_
     rintro w49 ⟨h50, s51⟩
     have st52 := st30.call0 s51
     refine U ?_
     refine zh rfl (fun c53 => ?_) (fun c53 => ?_)
     ·
      replace c53 := of_decide_eq_true c53
      refine W.sr<|v_move (v := s_v) X X<|v_mvI X X<|v_move (v := (vdrop 1 s_v (k))) X X<|v_mvI X X ?_
      obtain ⟨b54, o55, cur56, _, e59, he57, hr_y2, hc58⟩ := OSl.elem (hO_0.up s51.le) hy2
      obtain ⟨hb60, hc61⟩ : b33 = b54 ∧ cur35 = cur56 := by cases e59; exact ⟨rfl, rfl⟩
      subst hb60
      subst hc61
      obtain ⟨rfl, ls62⟩ := hr_y2
      simp only [big] at ls62
      refine ze rfl rfl (zQ (Elem.drop' (k := k) (j := k2) he57 (by omega) (OSl.caps (hO_0.up s51.le))) rfl rfl (hk := rfl) (hu := Tryz.underlying62) (hz := Tryz.sizeOf9)) ?_
      refine ze X X (r_load_cur1 (j := 0) (st52.get (k := 0) X) hc58 X X X Tryz.isAgg9) ?_
      have hu2 : ∃ y_, (ys)[i]? = some y_ := ⟨_, List.getElem?_eq_getElem (by omega)⟩
      obtain ⟨u2, hu2⟩ := hu2
      obtain ⟨b63, o64, cur65, _, e68, he66, hr_u2, hc67⟩ := OSl.elem (hO_0.up s51.le) hu2
      obtain ⟨hb69, hc70⟩ : b33 = b63 ∧ cur35 = cur65 := by cases e68; exact ⟨rfl, rfl⟩
      subst hb69
      subst hc70
      obtain ⟨rfl, ls71⟩ := hr_u2
      simp only [big] at ls71
      refine ze rfl rfl (zQ he66 rfl rfl (hk := (show _ = ((i : Nat) : Int) by omega)) (hu := Tryz.underlying62) (hz := Tryz.sizeOf9)) ?_
      refine OpsL.storeEl1 (k := 0) st52 (hO_0.up s51.le) rfl (by omega) he66 rfl rfl (⟨rfl, zO⟩) Tryz.sizeOf9 ?_
      intro o72 w73 _ e74 f75 st76
      subst e74
      refine Y<|zm<|v_mvI X X<|v_add X X t_om X<|v_asI X X<|zj<|zz<|U<|zm<|v_mvI X X<|v_add X X t_om X<|v_asI X X<|Y ?_
      refine ⟨⟨i + 1, k2 + 1, (ys.set i y2), o72, h50⟩, ⟨rfl, rfl, trivial⟩, ?_, ⟨(le29.trans s51.le), st76, ?_, ?_, ?_⟩, ?_⟩
      ·exact zR
      ·refine OSl.to f75 ?_
       rfl
      ·refine ⟨by omega, by omega, by first | (rw [List.length_set]; omega) | omega, by omega⟩
      ·exact hD.keep hy2 hz2 (by simpa using c53)
      ·show s.length - (k + ((k2 + 1))) < s.length - (k + k2)
       omega
     ·
      replace c53 := of_decide_eq_false c53
      refine zo<|zz<|U<|zm<|v_mvI X X<|v_add X X t_om X<|v_asI X X<|Y ?_
      refine ⟨⟨i, k2 + 1, ys, [(b33, .cells cur35 9)], h50⟩, ⟨rfl, rfl, trivial⟩, ?_, ⟨(le29.trans s51.le), st52, ?_, ?_, ?_⟩, ?_⟩
      ·exact zR
      ·refine OSl.to (hO_0.up s51.le) ?_
       rfl
      ·refine ⟨by omega, by omega, by first | (rw [List.length_set]; omega) | omega, by omega⟩
      ·exact hD.skip hy2 hz2 (by simpa using c53)
      ·show s.length - (k + ((k2 + 1))) < s.length - (k + k2)
       omega
    ·
     replace c32 := of_decide_eq_false c32
     refine zP<|zi<|zi<|zJ<|U<|W.sr<|v_move (v := s_v) X X<|v_mvI X X ?_
     refine ze rfl rfl (r_slice_from_own hO_0 rfl rfl (hk := (show _ = ((i : Nat) : Int) by omega)) (by omega) Tryz.underlying62 Tryz.sizeOf9) ?_
     refine OpsL.clearTail (k := 0) (j := i) st30 hO_0 rfl (by omega) rfl Tryz.underlying62 Tryz.zeroValue9 rfl (by decide) ?_
     intro o77 w78 _ e79 f80 st81
     subst e79
     refine Y<|W.sr<|v_move (v := s_v) X X<|v_mvI X X ?_
     refine ze rfl rfl (r_slice_to_own hO_0 rfl rfl (hk := (show _ = ((i : Nat) : Int) by omega)) (by omega) Tryz.underlying62 Tryz.sizeOf9) ?_
     refine v_assign (v := (vtake s_v (i))) X X<|Y<|zk<|zw<|zd<|zd<|zw<|zd<|O Tryz.results75 ?_
     refine ⟨h28, _, _, rfl, ((le3.trans s25.le).trans le29), st81, OSl.to f80 ?_⟩
     exact hD.fin (by omega)
   ·
    replace c27 := of_decide_eq_false c27
    refine zo<|zz<|U<|zm<|v_mvI X X<|v_add X X t_om X<|v_asI X X<|Y ?_
    refine ⟨⟨k + 1, [(b7, .cells cur9 9)], h24⟩, ⟨rfl, trivial⟩, ?_, ⟨(le3.trans s25.le), st26, ?_, ?_, ?_⟩, ?_⟩
    ·exact zR
    ·refine OSl.to (hO_0.up s25.le) ?_
     rfl
    ·exact ⟨by omega, by omega⟩
    ·exact comp_more hz hy hk.1 hc (by simpa using c27)
    ·show s.length - ((k + 1)) < s.length - k
     omega
  ·
   replace c6 := of_decide_eq_false c6
   refine zP<|zi<|zi<|zJ<|U<|W.sr<|v_move (v := s_v) X X<|v_assign (v := s_v) X X<|Y<|zk<|O Tryz.results75 ?_
   refine ⟨h2, _, _, rfl, le3, st4, OSl.to hO_0 ?_⟩
   rw [List.take_of_length_le (by omega)] at hc; exact hc.symm
end Go.Pk

namespace Go.Pk
open Go Go.RowKit Go.Proofs
end Go.Pk

namespace Go.Pk
open Go Go.RowKit Go.Proofs
theorem c_strings_Compare {h : Heap} {w : World} (hs : Sub h w) (a : Str) (a_le : a.length ≤ 281474976710656) (b : Str) (b_le : b.length ≤ 281474976710656) : Calls Tryz.prog 82 #[strV a, strV b] w (Rets h w (fun _ _ res_ => res_ = .int .i64 (cmpS a b))) := by
 refine (Tryz.strings_Compare ⟨a.toArray⟩ ⟨b.toArray⟩ w).mono ?_
 rintro e w' ⟨rfl, rfl⟩
 exact ⟨h, _, rfl, St.start hs, rfl⟩
set_option maxRecDepth 4000 in
theorem c_stem_Heads_1 {h : Heap} {w : World} (hs : Sub h w) {a : Head} (a_l1 : a.stem.length ≤ 281474976710656) (a_l2 : 0 ≤ a.mark ∧ a.mark ≤ 255) {b : Head} (b_l1 : b.stem.length ≤ 281474976710656) (b_l2 : 0 ≤ b.mark ∧ b.mark ≤ 255) : Calls Tryz.prog 81 #[.agg #[strV a.stem, .int .u8 a.mark], .agg #[strV b.stem, .int .u8 b.mark]] w (Rets h w (fun _ _ res_ => res_ = .int .i64 ((cmpHead a b)))) := by
 refine zx (n := 21) (args := [.agg #[strV a.stem, .int .u8 a.mark], .agg #[strV b.stem, .int .u8 b.mark]]) Tryz.func81 X X X ?_
 have st0 : St h w h w [] := St.start hs
 refine W.sr<|zl st0 (cs := [strV (a.stem), .int .u8 (a.mark)]) X X X ?_
 intro b1 w2 h3 le4 hc5 st6
 refine zl st6 (cs := [strV (b.stem), .int .u8 (b.mark)]) X X X ?_
 intro b7 w8 h9 le10 hc11 st12
 refine v_asI X X<|Y<|zg<|W.sr<|v_field_addr X Tryz.underlying32 X Tryz.sizeOf9 X X<|v_load_cells1 (j := 0) st12.sub (hc5.up le10) X X X Tryz.isAgg9 X<|v_field_addr X Tryz.underlying32 X Tryz.sizeOf9 X X<|v_load_cells1 (j := 0) st12.sub hc11 X X X Tryz.isAgg9 X<|za st12 X X X Tryz.call82 X (c_strings_Compare st12.sub _ zO _ zO) ?_
 intro r13 w14 h15 le16 st17 q18
 obtain rfl := q18
 have hcb := cmpS_bound a.stem b.stem
 refine v_asI X X<|Y<|W.sr<|v_mvI X X<|v_neq X X X<|Y ?_
 refine zh rfl (fun c19 => ?_) (fun c19 => ?_)
 ·
  replace c19 := of_decide_eq_true c19
  refine W.sr<|v_mvI X X<|v_asI X X<|Y<|zk<|zd<|O Tryz.results81 ?_
  refine ⟨h15, _, rfl, st17.done, ?_⟩
  refine zC ?_
  simp_all [cmpHead]
 ·
  replace c19 := of_decide_eq_false c19
  refine zo<|U<|W.sr<|v_field_addr X Tryz.underlying32 X Tryz.sizeOf5 X X<|v_load_cells1 (j := 1) st17.sub (hc5.up (le10.trans le16)) X X X Tryz.isAgg5 X ?_
  refine ze rfl rfl (r_conv_int rfl rfl Tryz.underlying3 (IntWalk.i64_in _ (by omega))) ?_
  refine v_field_addr X Tryz.underlying32 X Tryz.sizeOf5 X X<|v_load_cells1 (j := 1) st17.sub (hc11.up le16) X X X Tryz.isAgg5 X ?_
  refine ze rfl rfl (r_conv_int rfl rfl Tryz.underlying3 (IntWalk.i64_in _ (by omega))) ?_
  refine v_sub X X t_om X<|v_asI X X<|Y<|zk<|O Tryz.results81 ?_
  refine ⟨h15, _, rfl, st17.done, ?_⟩
  refine zC ?_
  simp_all [cmpHead]
set_option maxRecDepth 4000 in
theorem c_stem_office_entries_own {h : Heap} {w : World} (hs : Sub h w) {o_b : Nat} {o : Office} {o_v0 : Value} (o_f0 : Sl LRule h o_v0 o.lex.rules) {o_v1 : Value} (o_f1 : Sl LDecision h o_v1 o.lex.decisions) {o_v2 : Value} (o_f2 : Sl LChapter h o_v2 o.text.chapters) {o_v3 : Value} (o_f3 : FML (fun n : Int => .int .i64 n) (fun x : Decision => [.int .i64 x.number, .int .u8 x.kind, strV x.form, .int .i64 x.at_.chapter, .int .i64 x.at_.line, .int .i64 x.at_.word, strV x.to.stem, .int .u8 x.to.mark, .int .i64 x.of_]) LDecision h o.stands o_v3) (o_c : Cells h o_b 0 [o_v0, o_v1, o_v2, o_v3]) (K0 : Cells h 0 0 Tryz.glob0) (ho : OkO o) : Calls Tryz.prog 62 #[.pointer (some ⟨o_b, 0, none⟩)] w (fun e_ w' => ∃ h' res_ o_, e_ = .returned res_ ∧ Le h h' ∧ St h w h' w' [o_] ∧ OSl LEntry 120 h' res_ ((entriesL o.text o.lex)) o_) := by
 refine zx (n := 55) (args := [.pointer (some ⟨o_b, 0, none⟩)]) Tryz.func62 X X X ?_
 have st0 : St h w h w [] := St.start hs
 have o_f0_b := o_f0.le
 have o_f1_b := o_f1.le
 have o_f2_b := o_f2.le
 have ht := check_text ho.1
 have hchl := chapters_len ht
 refine W.sr<|v_asL X X<|Y<|W.sr<|v_asL X X<|Y<|zg<|W.sr<|v_mvP X X<|ze X X (r_nil_check X)<|v_field_addr X Tryz.underlying129 X Tryz.sizeOf24 X X<|v_field_addr X Tryz.underlying24 X Tryz.sizeOf22 X X<|v_load_cells1 (j := 2) st0.sub o_c X X X Tryz.isAgg22 X<|v_len o_f2 X Tryz.underlying22 X<|v_mvI X X<|Y<|zr ?_
 have st4 := st0.snoc
 have f5 := OSl.nil LEntry 120 h
 refine zN [3, 4, 5, 6, 7, 8, 9, 16, 17, 18, 19, 20, 21, 22, 23, 24, 25, 26, 27, 28, 29, 30, 31, 32, 33, 34, 35, 36, 37, 38, 39, 40, 41, 42, 43, 44, 45, 46, 47, 48, 49, 50, 51, 52, 53] (G := Nat × Value × List (Nat × Obj) × Heap) (fun ⟨i, v_3, o_3, h1⟩ => [(3, v_3), (16, .int .i64 (i : Int))]) (fun ⟨i, v_3, o_3, h1⟩ w' => Le h h1 ∧ St h w h1 w' [o_3] ∧ (OSl LEntry 120 h1 v_3 (((List.range i).flatMap (chapP o.text)).map (entryAt o.text o.lex)) o_3) ∧ (i ≤ o.text.chapters.length)) (fun ⟨i, v_3, o_3, h1⟩ => o.text.chapters.length - i) ⟨0, (.slice none 0 0), [], h⟩ ⟨rfl, rfl, trivial⟩ ⟨Le.refl _, st4, (OSl.to f5 (by rfl)), zV⟩ ?_
 rintro ⟨i, v_3, o_3, h1⟩ _ w6 ⟨le2, st3, hO_3, hi⟩
 refine W.sr<|v_lss X X X<|Y<|zg ?_
 refine zh rfl (fun c7 => ?_) (fun c7 => ?_)
 ·
  replace c7 := of_decide_eq_true c7
  refine zo<|U<|zg<|zr<|W.sr<|v_mvI X X ?_
  have hc : ∃ y_, (o.text.chapters)[i]? = some y_ := ⟨_, List.getElem?_eq_getElem (by omega)⟩
  obtain ⟨c, hc⟩ := hc
  obtain ⟨b8, o9, _, he11, hc10, hr_c⟩ := Sl.elem (o_f2.up le2) hc
  obtain ⟨v12, rfl, f13⟩ := hr_c
  have f13_b := f13.le
  refine v_index_el he11 X X (hk := X) (hu := Tryz.underlying22) (hz := Tryz.sizeOf133) X<|v_load_call st3.sub hc10 X Tryz.isAgg133 Tryz.sizeOf133 X X<|zy st3 Tryz.zeroValue133 X X ?_
  intro b14 w15 st16
  refine v_asI X X<|zq st16 (k := 1) X X X (E X (E f13.one zI)) Tryz.sizeOf133 X X X ?_
  intro w17 st18
  obtain ⟨h19, le20, hb21, st23⟩ := st18.freeze (k := 1) rfl
  have hc22 := Cells.of hb21
  refine zj ?_
  have q5 := linesAt_len ht i
  rw [linesAt_some hc] at q5
  refine U<|W.sr<|v_field_addr X Tryz.underlying133 X Tryz.sizeOf131 X X<|v_load_cells1 (j := 1) st23.sub hc22 X X X Tryz.isAgg131 X<|v_len (f13.up le20) X Tryz.underlying131 X<|v_mvI X X<|Y<|zr ?_
  refine zN [3, 6, 7, 8, 9, 24, 25, 26, 27, 28, 29, 30, 31, 32, 33, 34, 35, 36, 37, 38, 39, 40, 41, 42, 43, 44, 45, 46, 47, 48, 49, 50, 51, 52] (G := Nat × Value × List (Nat × Obj) × Heap) (fun ⟨n, v_3, o_3, h24⟩ => [(3, v_3), (24, .int .i64 (n : Int))]) (fun ⟨n, v_3, o_3, h24⟩ w' => Le h19 h24 ∧ St h w h24 w' [o_3, []] ∧ (OSl LEntry 120 h24 v_3 (((List.range i).flatMap (chapP o.text) ++ (List.range n).flatMap (lineP o.text i)).map (entryAt o.text o.lex)) o_3) ∧ (n ≤ c.lines.length)) (fun ⟨n, v_3, o_3, h24⟩ => c.lines.length - n) ⟨0, v_3, o_3, h19⟩ ⟨rfl, rfl, trivial⟩ ⟨Le.refl _, st23, (OSl.to (hO_3.up le20) (by simp)), zV⟩ ?_
  rintro ⟨n, v_3, o_3, h24⟩ _ w27 ⟨le25, st26, hO_3, hn⟩
  refine W.sr<|v_lss X X X<|Y<|zg ?_
  refine zh rfl (fun c28 => ?_) (fun c28 => ?_)
  ·
   replace c28 := of_decide_eq_true c28
   refine zo<|U<|zg<|zr<|W.sr<|v_mvI X X ?_
   have hln : ∃ y_, (c.lines)[n]? = some y_ := ⟨_, List.getElem?_eq_getElem (by omega)⟩
   obtain ⟨ln, hln⟩ := hln
   obtain ⟨b29, o30, _, he32, hc31, hr_ln⟩ := Sl.elem (f13.up (le20.trans le25)) hln
   obtain ⟨v33, rfl, f34⟩ := hr_ln
   have f34_b := f34.le
   refine v_index_el he32 X X (hk := X) (hu := Tryz.underlying131) (hz := Tryz.sizeOf62) X<|v_load_cells1 (j := 0) st26.sub hc31 X X X Tryz.isAgg62 X<|v_asI X X<|v_assign (v := v33) X X<|zj ?_
   have q4 := wordsAt_len ht i n
   rw [wordsAt_some hc hln] at q4
   refine U<|W.sr<|v_move (v := v33) X X<|v_len f34 X Tryz.underlying62 X<|v_mvI X X<|Y<|zr ?_
   refine zN [3, 8, 9, 31, 32, 33, 34, 35, 36, 37, 38, 39, 40, 41, 42, 43, 44, 45, 46, 47, 48, 49, 50, 51] (G := Nat × Value × List (Nat × Obj) × Heap) (fun ⟨m, v_3, o_3, h35⟩ => [(3, v_3), (31, .int .i64 (m : Int))]) (fun ⟨m, v_3, o_3, h35⟩ w' => Le h24 h35 ∧ St h w h35 w' [o_3, []] ∧ (OSl LEntry 120 h35 v_3 (((List.range i).flatMap (chapP o.text) ++ (List.range n).flatMap (lineP o.text i) ++ (List.range m).map (mkP i n)).map (entryAt o.text o.lex)) o_3) ∧ (m ≤ ln.length)) (fun ⟨m, v_3, o_3, h35⟩ => ln.length - m) ⟨0, v_3, o_3, h24⟩ ⟨rfl, rfl, trivial⟩ ⟨Le.refl _, st26, (OSl.to hO_3 (by simp)), zV⟩ ?_
   rintro ⟨m, v_3, o_3, h35⟩ _ w38 ⟨le36, st37, hO_3, hm⟩
   refine W.sr<|v_lss X X X<|Y<|zg ?_
   refine zh rfl (fun c39 => ?_) (fun c39 => ?_)
   ·
    replace c39 := of_decide_eq_true c39
    refine zo<|U<|zg<|zr<|W.sr<|v_mvI X X<|v_asI X X<|Y<|W.sr<|v_mvI X X<|v_mvI X X<|v_mvI X X<|ze X X (zY (cs := [.int .i64 (i : Int), .int .i64 (n : Int), .int .i64 (m : Int)]) t_kr)<|zy st37 Tryz.zeroValue30 X X ?_
    intro b40 w41 st42
    refine zq st42 (k := 2) X X X (E X (E X (E X zI))) Tryz.sizeOf30 X X X ?_
    intro w43 st44
    obtain ⟨h45, le46, hb47, st49⟩ := st44.freeze (k := 2) rfl
    have hc48 := Cells.of hb47
    refine Y ?_
    have hp0 := place_mk (w := m) hc hln (by omega)
    have hhd := winD_ok ho.1 hp0
    simp only [mkP] at hp0 hhd
    have hwd : ∃ y_, (ln)[m]? = some y_ := ⟨_, List.getElem?_eq_getElem (by omega)⟩
    obtain ⟨wd, hwd⟩ := hwd
    obtain ⟨b50, o51, _, he53, hc52, hr_wd⟩ := Sl.elem (f34.up (le36.trans le46)) hwd
    obtain ⟨rfl, ls54⟩ := hr_wd
    simp only [big] at ls54
    refine zZ (er := ([], [3], [0], [], 0)) (dsts := [38, 39, 40, 41, 42, 43, 44, 45, 46, 47, 48, 49, 50, 3]) st49 Tryz.mixed<|zc 0 [] X t_kr t_kr X X (fun hD wD τD hL hS hO  => (r_move (v := v_3) X))<|zc 1 [] X t_kr t_kr X X (fun hD wD τD hL hS hO  => (zB (hL.sub hS) hc48 X Tryz.isAgg30 Tryz.sizeOf30 X))<|zc 2 [] X t_kr t_kr X X (fun hD wD τD hL hS hO  => (r_move (v := v33) X))<|zc 3 [] X t_kr t_kr X X (fun hD wD τD hL hS hO  => (r_mvI X))<|zc 4 [1, 0] X t_kr t_kr X X (fun hD wD τD hL hS hO _ _ _ _ => (zQ he53 X X (hk := X) (hu := Tryz.underlying62) (hz := Tryz.sizeOf9)))<|zc 5 [0] X t_kr t_kr X X (fun hD wD τD hL hS hO _ _ => (zf (j := 0) (hL.sub hS) hc52 X X X Tryz.isAgg9))<|zc 6 [] X t_kr t_kr X X (fun hD wD τD hL hS hO  => (r_mvP X))<|zc 7 [] X t_kr t_kr X X (fun hD wD τD hL hS hO  => (zB (hL.sub hS) hc48 X Tryz.isAgg30 Tryz.sizeOf30 X)) ?_
    refine zF 8 (.det (.agg (List.toArray [.int .i64 ((winD (o).lex ((Place.mk ((i : Int)) ((n : Int)) ((m : Int)))) (wordD (o).text ((Place.mk ((i : Int)) ((n : Int)) ((m : Int)))))).number), .int .u8 ((winD (o).lex ((Place.mk ((i : Int)) ((n : Int)) ((m : Int)))) (wordD (o).text ((Place.mk ((i : Int)) ((n : Int)) ((m : Int)))))).kind), strV ((winD (o).lex ((Place.mk ((i : Int)) ((n : Int)) ((m : Int)))) (wordD (o).text ((Place.mk ((i : Int)) ((n : Int)) ((m : Int)))))).form), .int .i64 ((winD (o).lex ((Place.mk ((i : Int)) ((n : Int)) ((m : Int)))) (wordD (o).text ((Place.mk ((i : Int)) ((n : Int)) ((m : Int)))))).at_.chapter), .int .i64 ((winD (o).lex ((Place.mk ((i : Int)) ((n : Int)) ((m : Int)))) (wordD (o).text ((Place.mk ((i : Int)) ((n : Int)) ((m : Int)))))).at_.line), .int .i64 ((winD (o).lex ((Place.mk ((i : Int)) ((n : Int)) ((m : Int)))) (wordD (o).text ((Place.mk ((i : Int)) ((n : Int)) ((m : Int)))))).at_.word), strV ((winD (o).lex ((Place.mk ((i : Int)) ((n : Int)) ((m : Int)))) (wordD (o).text ((Place.mk ((i : Int)) ((n : Int)) ((m : Int)))))).to.stem), .int .u8 ((winD (o).lex ((Place.mk ((i : Int)) ((n : Int)) ((m : Int)))) (wordD (o).text ((Place.mk ((i : Int)) ((n : Int)) ((m : Int)))))).to.mark), .int .i64 ((winD (o).lex ((Place.mk ((i : Int)) ((n : Int)) ((m : Int)))) (wordD (o).text ((Place.mk ((i : Int)) ((n : Int)) ((m : Int)))))).of_)]))) [1, 0] rfl t_kr t_kr ?_ ?_
    ·
     intro hD wD τD hL hS hO _ _ _ _
     have st55 := St.start hS
     refine za st55 rfl rfl rfl Tryz.call104 rfl (c_stem_office_wins st55.sub (o := o) (o_f0.up (((((le2.trans le20).trans le25).trans le36).trans le46).trans hL)) (o_f1.up (((((le2.trans le20).trans le25).trans le36).trans le46).trans hL)) (o_f2.up (((((le2.trans le20).trans le25).trans le36).trans le46).trans hL)) (o_f3.up (((((le2.trans le20).trans le25).trans le36).trans le46).trans hL)) (o_c.up (((((le2.trans le20).trans le25).trans le36).trans le46).trans hL)) (p := (Place.mk ((i : Int)) ((n : Int)) ((m : Int)))) (K0.up (((((le2.trans le20).trans le25).trans le36).trans le46).trans hL)) (by exact ho) (by exact hp0)) ?_
     intro r56 w57 h58 le59 st60 q61
     obtain rfl := q61
     exact zj ⟨_, _, rfl, st60, (), rfl, trivial⟩
    refine zc 9 [0] X t_kr t_kr X X (fun hD wD τD hL hS hO _ _ => (r_fieldN (us := [strV ((winD (o).lex ((Place.mk ((i : Int)) ((n : Int)) ((m : Int)))) (wordD (o).text ((Place.mk ((i : Int)) ((n : Int)) ((m : Int)))))).to.stem), .int .u8 ((winD (o).lex ((Place.mk ((i : Int)) ((n : Int)) ((m : Int)))) (wordD (o).text ((Place.mk ((i : Int)) ((n : Int)) ((m : Int)))))).to.mark)]) X Tryz.underlying34 X Tryz.isAgg32 Tryz.sizeOf32 X X))<|zc 10 [8, 4, 0] X t_kr t_kr X X (fun hD wD τD hL hS hO _ _ _ _ _ _ => (zY (cs := [.int .i64 (i : Int), .int .i64 (n : Int), .int .i64 (m : Int), strV wd, strV ((winD (o).lex ((Place.mk ((i : Int)) ((n : Int)) ((m : Int)))) (wordD (o).text ((Place.mk ((i : Int)) ((n : Int)) ((m : Int)))))).to.stem), .int .u8 ((winD (o).lex ((Place.mk ((i : Int)) ((n : Int)) ((m : Int)))) (wordD (o).text ((Place.mk ((i : Int)) ((n : Int)) ((m : Int)))))).to.mark)]) t_kr)) ?_
    refine zF 11 (.res (fun h' res_ => Sl LEntry h' res_ ([(Entry.mk ((Place.mk ((i : Int)) ((n : Int)) ((m : Int)))) (wd) ((winD (o).lex ((Place.mk ((i : Int)) ((n : Int)) ((m : Int)))) (wordD (o).text ((Place.mk ((i : Int)) ((n : Int)) ((m : Int)))))).to))])) (fun _ _ _ hl f => f.up hl)) [0] rfl t_kr t_kr ?_ ?_
    ·
     intro hD wD τD hL hS hO _ _
     have st62 := St.start hS
     refine zG (L := LEntry) (xs := [(Entry.mk ((Place.mk ((i : Int)) ((n : Int)) ((m : Int)))) (wd) ((winD (o).lex ((Place.mk ((i : Int)) ((n : Int)) ((m : Int)))) (wordD (o).text ((Place.mk ((i : Int)) ((n : Int)) ((m : Int)))))).to))]) (cs := [.int .i64 (i : Int), .int .i64 (n : Int), .int .i64 (m : Int), strV wd, strV ((winD (o).lex ((Place.mk ((i : Int)) ((n : Int)) ((m : Int)))) (wordD (o).text ((Place.mk ((i : Int)) ((n : Int)) ((m : Int)))))).to.stem), .int .u8 ((winD (o).lex ((Place.mk ((i : Int)) ((n : Int)) ((m : Int)))) (wordD (o).text ((Place.mk ((i : Int)) ((n : Int)) ((m : Int)))))).to.mark)]) st62 (Enc.cons (L := LEntry) (vs := [.int .i64 (i : Int), .int .i64 (n : Int), .int .i64 (m : Int), strV wd, strV ((winD (o).lex ((Place.mk ((i : Int)) ((n : Int)) ((m : Int)))) (wordD (o).text ((Place.mk ((i : Int)) ((n : Int)) ((m : Int)))))).to.stem), .int .u8 ((winD (o).lex ((Place.mk ((i : Int)) ((n : Int)) ((m : Int)))) (wordD (o).text ((Place.mk ((i : Int)) ((n : Int)) ((m : Int)))))).to.mark)]) (x := (Entry.mk ((Place.mk ((i : Int)) ((n : Int)) ((m : Int)))) (wd) ((winD (o).lex ((Place.mk ((i : Int)) ((n : Int)) ((m : Int)))) (wordD (o).text ((Place.mk ((i : Int)) ((n : Int)) ((m : Int)))))).to))) (h := hD) (⟨rfl, zO, zO, t_u8⟩) Enc.nil) X X X Tryz.underlying115 Tryz.info120 X X X t_kr ?_
     intro v63 w64 h67 le68 f65 st66
     exact zj ⟨_, _, rfl, st66, _, rfl, f65⟩
    refine Drw.ch<|Drw.ch<|Drw.nil X X X X X X ⟨t_kr, X, t_kr, X, t_kr, X, X, t_kr, (zaf X (zaf X cx_nil))⟩ ?_
    intro hE70 w71 _ le72 st73 _ _ gv11_0x69 gf11_0x69 _ _
    refine OpsL.append (k := 0) (nb := 64) st73 (hO_3.up (le46.trans le72)) rfl gf11_0x69 rfl rfl rfl Tryz.underlying115 Tryz.info120 rfl rfl rfl (by decide) rfl (by have q1 := flatMap_len (chapP_len ht) i; have q2 := flatMap_len (lineP_len ht i) n; have q3 := chapters_len ht; have q4 := wordsAt_len ht i n; have q5 := linesAt_len ht i; rw [linesAt_some hc] at q5; rw [wordsAt_some hc hln] at q4; simp only [List.length_append, List.length_map, List.length_range, List.length_cons, List.length_nil]; omega) (by have q1 := flatMap_len (chapP_len ht) i; have q2 := flatMap_len (lineP_len ht i) n; have q3 := chapters_len ht; have q4 := wordsAt_len ht i n; have q5 := linesAt_len ht i; rw [linesAt_some hc] at q5; rw [wordsAt_some hc hln] at q4; simp only [List.length_append, List.length_map, List.length_range, List.length_cons, List.length_nil]; omega) ?_
    intro v74 o75 w76 _ e77 f78 st79
    subst e77
    refine zj ⟨_, rfl, _, _, Le.refl _, st79, ?_⟩
    intro hE81 w82 _ le83 st84 _ _ _ _ _ _ _ _ _ _ _ _ _ _ _ _ _ _ _ _ _ _ gv11_0x80 gf11_0x80
    refine v_assign (v := v74) X X ?_
    refine zj ⟨_, rfl, _, _, Le.refl _, st84, ?_⟩
    intro hE85 w86 _ le87 st88 _ _ _ _ _ _ _ _ _ _ _ _ _ _ _ _ _ _ _ _ _ _ gv11_0x89 gf11_0x89
    refine AllDeps.fin X<|zz<|U<|zm<|v_add X X t_om X<|v_mvI X X<|Y ?_
    refine ⟨⟨m + 1, v74, o75, hE85⟩, ⟨rfl, rfl, trivial⟩, ?_, ⟨((((le36.trans le46).trans le72).trans le83).trans le87), st88.take 2, ?_, ?_⟩, ?_⟩
    ·exact zR
    ·refine OSl.to (f78.up (le83.trans le87)) ?_
     have hww := word_mk hc hln hwd
     simp only [mkP] at hww
     rw [List.range_succ]; simp only [List.map_append, List.append_assoc, List.map_cons, List.map_nil, entryAt, headAt, mkP, hww]
    ·first | omega | (simp; omega)
    ·show ln.length - ((m + 1)) < ln.length - m
     omega
   ·
    replace c39 := of_decide_eq_false c39
    refine zP<|zi<|zi<|zJ<|zz<|U<|zm<|v_add X X t_om X<|v_mvI X X<|Y ?_
    refine ⟨⟨n + 1, v_3, o_3, h35⟩, ⟨rfl, rfl, trivial⟩, ?_, ⟨(le25.trans le36), st37, ?_, ?_⟩, ?_⟩
    ·exact zR
    ·refine OSl.to hO_3 ?_
     rw [range_flat_succ, ← lineP_snoc hc hln (w := m) (by omega), List.append_assoc]
    ·first | omega | (simp; omega)
    ·show c.lines.length - ((n + 1)) < c.lines.length - n
     omega
  ·
   replace c28 := of_decide_eq_false c28
   refine zP<|zi<|zi<|zJ<|zz<|U<|zm<|v_add X X t_om X<|v_mvI X X<|Y ?_
   refine ⟨⟨i + 1, v_3, o_3, h24⟩, ⟨rfl, rfl, trivial⟩, ?_, ⟨((le2.trans le20).trans le25), st26.take 1, ?_, ?_⟩, ?_⟩
   ·exact zR
   ·refine OSl.to hO_3 ?_
    rw [range_flat_succ, ← chapP_snoc hc (n := n) (by omega)]
   ·first | omega | (simp; omega)
   ·show o.text.chapters.length - ((i + 1)) < o.text.chapters.length - i
    omega
 ·
  replace c7 := of_decide_eq_false c7
  refine zP<|zi<|zi<|zJ<|U<|W.sr<|v_move (v := v_3) X X<|v_assign (v := v_3) X X<|Y<|zk<|O Tryz.results62 ?_
  refine ⟨h1, _, _, rfl, le2, st3, OSl.to hO_3 ?_⟩
  rw [show i = o.text.chapters.length by omega]; rfl
end Go.Pk

namespace Go.Pk
open Go Go.RowKit Go.Proofs
set_option maxRecDepth 4000 in
theorem c_stem_under {h : Heap} {w : World} (hs : Sub h w) {t : Text} {t_v0 : Value} (t_f0 : Sl LChapter h t_v0 t.chapters) {x : Lexicon} {x_v0 : Value} (x_f0 : Sl LRule h x_v0 x.rules) {x_v1 : Value} (x_f1 : Sl LDecision h x_v1 x.decisions) {hd : Head} (hd_l1 : hd.stem.length ≤ 281474976710656) (hd_l2 : 0 ≤ hd.mark ∧ hd.mark ≤ 255) (K0 : Cells h 0 0 Tryz.glob0) : Calls Tryz.prog 84 #[.agg #[t_v0], .agg #[x_v0, x_v1], .agg #[strV hd.stem, .int .u8 hd.mark]] w (Rets h w (fun h' _ res_ => ∃ u0, res_ = .tuple #[u0, .int .i64 (underE t x hd)] ∧ Sl LEntry h' u0 ((underN t x hd)))) := by
 refine zx (n := 31) (args := [.agg #[t_v0], .agg #[x_v0, x_v1], .agg #[strV hd.stem, .int .u8 hd.mark]]) Tryz.func84 X X X ?_
 have st0 : St h w h w [] := St.start hs
 have t_f0_b := t_f0.le
 have x_f0_b := x_f0.le
 have x_f1_b := x_f1.le
 refine W.sr<|zl st0 (cs := [t_v0]) X X X ?_
 intro b1 w2 h3 le4 hc5 st6
 refine zl st6 (cs := [x_v0, x_v1]) X X X ?_
 intro b7 w8 h9 le10 hc11 st12
 refine zl st12 (cs := [strV (hd.stem), .int .u8 (hd.mark)]) X X X ?_
 intro b13 w14 h15 le16 hc17 st18
 refine v_asL X X<|v_asI X X<|Y<|W.sr<|v_load_call st18.sub (hc5.up (le10.trans le16)) X Tryz.isAgg24 Tryz.sizeOf24 X X<|v_load_call st18.sub (hc11.up le16) X Tryz.isAgg28 Tryz.sizeOf28 X X<|za st18 X X X Tryz.call67 X (c_stem_open st18.sub (t := t) (t_f0.up ((le4.trans le10).trans le16)) (x := x) (x_f0.up ((le4.trans le10).trans le16)) (x_f1.up ((le4.trans le10).trans le16)) (K0.up ((le4.trans le10).trans le16))) ?_
 intro r19 w20 h21 le22 st23 q24
 rcases Bool.eq_false_or_eq_true (decide (checkN (t) (x) = 0)) with hb25 | hb25
 ·
  simp only [hb25, if_true, if_false, Bool.false_eq_true, reduceIte] at q24
  obtain ⟨v26, rfl, f27⟩ := q24
  obtain ⟨b28, vs29, rfl, hc30, hr31⟩ := f27
  obtain ⟨v32, v34, v36, v38, rfl, f33, f35, f37, lm39⟩ := hr31
  have f33_b := f33.le
  have f35_b := f35.le
  have f37_b := f37.le
  refine v_mvT X X<|v_extract (v := (.pointer (some _))) X X X<|v_extract (v := (.int _ _)) X X X<|v_asP X X<|v_asI X X<|Y<|zg<|W.sr<|v_mvI X X<|v_neq X X X<|Y ?_
  refine zh rfl (fun c40 => ?_) (fun c40 => ?_)
  ·
   replace c40 := of_decide_eq_true c40
   refine W.sr<|v_mvI X X<|v_asL X X<|v_asI X X<|Y<|zk<|zd<|zH Tryz.results84 ?_
   refine ⟨h21, _, rfl, st23.done, ?_⟩
   refine ⟨_, tup2 rfl (zC ?_), Sl.to (Sl.nil _ _) ?_⟩
   all_goals simp_all [underN, underE]
  ·
   replace c40 := of_decide_eq_false c40
   refine zo<|U<|zg<|W.sr<|v_load_call st23.sub (hc17.up le22) X Tryz.isAgg32 Tryz.sizeOf32 X X<|za st23 X X X Tryz.call116 X (c_stem_right st23.sub (hd := hd) zO t_u8) ?_
   intro r41 w42 h43 le44 st45 q46
   obtain rfl := q46
   refine v_not X X<|Y ?_
   refine zh rfl (fun c47 => ?_) (fun c47 => ?_)
   ·
    refine W.sr<|v_asL X X<|v_asI X X<|Y<|zk<|zd<|zH Tryz.results84 ?_
    refine ⟨h43, _, rfl, st45.done, ?_⟩
    refine ⟨_, tup2 rfl (zC ?_), Sl.to (Sl.nil _ _) ?_⟩
    all_goals simp_all [underN, underE]
   ·
    refine zo<|U<|zg ?_
    have hx0 : checkN t x = 0 := by simpa using c40
    have hh0 : headB hd = true := by simpa using c47
    refine zm<|v_mvP X X ?_
    refine zD rfl rfl (zS rfl Tryz.call62 rfl) ((c_stem_office_entries_own st45.sub (o := (Office.mk (x) (t) (standM (x)))) (f33.up le44) (f35.up le44) (f37.up le44) (lm39.up le44) (hc30.up le44) (K0.up ((((le4.trans le10).trans le16).trans le22).trans le44)) (by exact ⟨hx0, rfl⟩)).mono ?_)
    rintro _ w49 ⟨h50, v48, o53, rfl, le51, s55, f54⟩
    refine ⟨_, rfl, ?_⟩
    have st52 := st45.call s55
    have f56 := OSl.to f54 (show _ = (entriesL t x) from rfl)
    refine v_make_func X X X ?_
    have con := c_slices_DeleteFunc_Lstem_entry_stem_entry (rest := []) f56 (g := 118) (caps := [.pointer (some ⟨b13, 0, none⟩)]) (fun x_ => decide ((x_).head ≠ (hd))) (by have := entries_len (check_text hx0) x; omega) Tryz.call118 (fun x_ h_ w_ vs_ le_ hs_ hx_ hr_ u_ hu_ => by obtain ⟨rfl, f0_, f1_, f2_⟩ := hr_; cases hu_; simp only [big] at *; exact c_stem_under_1 hs_ (y := x_) f0_ f1_ f2_ (hd := hd) (by assumption) (by assumption) ((hc17.up ((le22.trans le44).trans le51)).up le_)) st52
    refine zD rfl rfl (zS rfl Tryz.call117 rfl) (con.mono ?_)
    rintro _ w57 ⟨h58, o59, v60, rfl, le61, st62, f63⟩
    refine ⟨_, rfl, ?_⟩
    clear con
    refine v_assign (v := v60) X X<|zj ?_
    have huf := under_filter t x hd
    have hel := entries_len (check_text hx0) x
    have hfl := List.length_filter_le (fun y : Entry => !decide (y.head ≠ hd)) (entriesL t x)
    have hul : ((entriesL t x).filter fun y => !decide (y.head ≠ hd)).length = (underP t x hd).length := by rw [huf, List.length_map]
    refine U<|zg<|W.sr<|v_move (v := v60) X X<|v_len_own f63 X Tryz.underlying115 X<|v_eql X X X<|Y ?_
    refine zh rfl (fun c64 => ?_) (fun c64 => ?_)
    ·
     replace c64 := of_decide_eq_true c64
     refine W.sr<|v_asL X X<|v_asI X X<|Y<|zk<|zd<|zH Tryz.results84 ?_
     refine ⟨h58, _, rfl, st62.done, ?_⟩
     refine ⟨_, tup2 rfl (zC ?_), Sl.to (Sl.nil _ _) ?_⟩
     all_goals (have q1 := c64)
     all_goals (have q2 : underP t x hd = [] := List.eq_nil_of_length_eq_zero (by omega))
     all_goals simp [underN, underE, hx0, hh0, q2]
    ·
     replace c64 := of_decide_eq_false c64
     refine zo<|U<|W.sr<|v_move (v := v60) X X<|v_assign (v := v60) X X<|v_asI X X<|Y<|zk<|zH Tryz.results84 ?_
     obtain ⟨h65, le66, f67, st68⟩ := OSl.freeze (k := 0) st62 f63 rfl (by omega)
     refine ⟨h65, _, rfl, st68.done, ?_⟩
     refine ⟨_, tup2 rfl (zC ?_), Sl.to f67 ?_⟩
     all_goals (have q1 := c64)
     all_goals (have q2 : ¬ underP t x hd = [] := by intro q; rw [q] at hul; simp only [List.length_nil] at hul; omega)
     ·simp [underE, hx0, hh0, q2]
     ·simp only [underN, underE, hx0, hh0, q2, if_true, if_false]
 ·
  simp only [hb25, if_true, if_false, Bool.false_eq_true, reduceIte] at q24
  obtain ⟨v69, rfl, f70⟩ := q24
  obtain rfl := f70
  refine v_mvT X X<|v_extract (v := (.pointer none)) X X X<|v_extract (v := (.int _ _)) X X X<|v_assign X X<|v_asI X X<|Y<|zg<|W.sr<|v_mvI X X<|v_neq X X X<|Y ?_
  refine zh rfl (fun c71 => ?_) (fun c71 => ?_)
  ·
   replace c71 := of_decide_eq_true c71
   refine W.sr<|v_mvI X X<|v_asL X X<|v_asI X X<|Y<|zk<|zd<|zH Tryz.results84 ?_
   refine ⟨h21, _, rfl, st23.done, ?_⟩
   refine ⟨_, tup2 rfl (zC ?_), Sl.to (Sl.nil _ _) ?_⟩
   all_goals simp_all [underN, underE]
  ·
   replace c71 := of_decide_eq_false c71
   exfalso
   simp_all
set_option maxRecDepth 4000 in
theorem c_stem_Under {h : Heap} {w : World} (hs : Sub h w) {t : Text} {t_v0 : Value} (t_f0 : Sl LChapter h t_v0 t.chapters) {x : Lexicon} {x_v0 : Value} (x_f0 : Sl LRule h x_v0 x.rules) {x_v1 : Value} (x_f1 : Sl LDecision h x_v1 x.decisions) {hd : Head} (hd_l1 : hd.stem.length ≤ 281474976710656) (hd_l2 : 0 ≤ hd.mark ∧ hd.mark ≤ 255) (K0 : Cells h 0 0 Tryz.glob0) : Calls Tryz.prog 47 #[.agg #[t_v0], .agg #[x_v0, x_v1], .agg #[strV hd.stem, .int .u8 hd.mark]] w (Rets h w (fun h' _ res_ => ∃ u0, res_ = .tuple #[u0, .int .i64 (underE t x hd)] ∧ Sl LPlace h' u0 ((underR t x hd)))) := by
 refine zx (n := 36) (args := [.agg #[t_v0], .agg #[x_v0, x_v1], .agg #[strV hd.stem, .int .u8 hd.mark]]) Tryz.func47 X X X ?_
 have st0 : St h w h w [] := St.start hs
 have t_f0_b := t_f0.le
 have x_f0_b := x_f0.le
 have x_f1_b := x_f1.le
 refine W.sr<|zl st0 (cs := [t_v0]) X X X ?_
 intro b1 w2 h3 le4 hc5 st6
 refine zl st6 (cs := [x_v0, x_v1]) X X X ?_
 intro b7 w8 h9 le10 hc11 st12
 refine zl st12 (cs := [strV (hd.stem), .int .u8 (hd.mark)]) X X X ?_
 intro b13 w14 h15 le16 hc17 st18
 refine v_asL X X<|v_asI X X<|Y<|W.sr<|v_load_call st18.sub (hc5.up (le10.trans le16)) X Tryz.isAgg24 Tryz.sizeOf24 X X<|v_load_call st18.sub (hc11.up le16) X Tryz.isAgg28 Tryz.sizeOf28 X X<|v_load_call st18.sub hc17 X Tryz.isAgg32 Tryz.sizeOf32 X X<|za st18 X X X Tryz.call84 X (c_stem_under st18.sub (t := t) (t_f0.up ((le4.trans le10).trans le16)) (x := x) (x_f0.up ((le4.trans le10).trans le16)) (x_f1.up ((le4.trans le10).trans le16)) (hd := hd) zO t_u8 (K0.up ((le4.trans le10).trans le16))) ?_
 intro r19 w20 h21 le22 st23 q24
 obtain ⟨v25, rfl, f26⟩ := q24
 have f26_b := f26.le
 refine v_mvT X X<|v_extract (v := v25) X X X<|v_extract (v := (.int _ _)) X X X<|v_assign (v := v25) X X<|v_asI X X<|Y<|zg<|W.sr<|v_mvI X X<|v_neq X X X<|Y ?_
 refine zh rfl (fun c27 => ?_) (fun c27 => ?_)
 ·
  replace c27 := of_decide_eq_true c27
  refine W.sr<|v_mvI X X<|v_asL X X<|v_asI X X<|Y<|zk<|zd<|zH Tryz.results47 ?_
  refine ⟨h21, _, rfl, st23.done, ?_⟩
  refine ⟨_, tup2 rfl (zC ?_), Sl.to (Sl.nil _ _) ?_⟩
  all_goals simp_all [underR]
 ·
  replace c27 := of_decide_eq_false c27
  refine zo<|U<|zg ?_
  have hu0 : underE t x hd = 0 := by simpa using c27
  have hx0 : checkN t x = 0 := under_check hu0
  have hue : underN t x hd = (underP t x hd).map (entryAt t x) := by rw [underN, if_pos hu0, under_filter]
  have hul : (underN t x hd).length ≤ 600 := by rw [hue, List.length_map]; exact Nat.le_trans (List.length_filter_le _ _) (places_len (check_text hx0))
  refine zm<|v_asL X X<|Y<|zg<|W.sr<|v_move (v := v25) X X<|v_len f26 X Tryz.underlying115 X<|v_mvI X X<|Y<|zr ?_
  have st31 := st23.snoc
  have f32 := OSl.nil LPlace 30 h21
  refine zN [10, 12, 25, 26, 27, 28, 29, 30, 31, 32, 33, 34] (G := Nat × Value × List (Nat × Obj) × Heap) (fun ⟨i, v_10, o_10, h28⟩ => [(10, v_10), (25, .int .i64 (i : Int))]) (fun ⟨i, v_10, o_10, h28⟩ w' => Le h21 h28 ∧ St h w h28 w' [o_10] ∧ (OSl LPlace 30 h28 v_10 (((underN t x hd).take i).map (·.at_)) o_10) ∧ (i ≤ (underN t x hd).length)) (fun ⟨i, v_10, o_10, h28⟩ => (underN t x hd).length - i) ⟨0, (.slice none 0 0), [], h21⟩ ⟨rfl, rfl, trivial⟩ ⟨Le.refl _, st31, (OSl.to f32 (by rfl)), zV⟩ ?_
  rintro ⟨i, v_10, o_10, h28⟩ _ w33 ⟨le29, st30, hO_10, hi⟩
  refine W.sr<|v_lss X X X<|Y<|zg ?_
  refine zh rfl (fun c34 => ?_) (fun c34 => ?_)
  ·
   replace c34 := of_decide_eq_true c34
   refine zo<|U<|zg<|zr<|W.sr ?_
   have hy : ∃ y_, ((underN (t) (x) (hd)))[i]? = some y_ := ⟨_, List.getElem?_eq_getElem (by omega)⟩
   obtain ⟨y, hy⟩ := hy
   obtain ⟨b35, o36, _, he38, hc37, hr_y⟩ := Sl.elem (f26.up le29) hy
   obtain ⟨rfl, ls39, ls40, lu41⟩ := hr_y
   simp only [big] at ls39
   simp only [big] at ls40
   refine v_index_el he38 X X (hk := X) (hu := Tryz.underlying115) (hz := Tryz.sizeOf120) X<|v_load_call st30.sub hc37 X Tryz.isAgg120 Tryz.sizeOf120 X X<|zy st30 Tryz.zeroValue120 X X ?_
   intro b42 w43 st44
   refine zq st44 (k := 1) X X X (E X (E X (E X (E X (E X (E X zI)))))) Tryz.sizeOf120 X X X ?_
   intro w45 st46
   obtain ⟨h47, le48, hb49, st51⟩ := st46.freeze (k := 1) rfl
   have hc50 := Cells.of hb49
   refine Y<|zm<|v_move (v := v_10) X X<|v_field_addr X Tryz.underlying120 X Tryz.sizeOf30 X X<|v_load_cellsN (j := 0) st51.sub hc50 (us := [.int .i64 (y.at_.chapter), .int .i64 (y.at_.line), .int .i64 (y.at_.word)]) X X Tryz.isAgg30 Tryz.sizeOf30 X X X<|zG (L := LPlace) (xs := [y.at_]) (cs := [.int .i64 (y.at_.chapter), .int .i64 (y.at_.line), .int .i64 (y.at_.word)]) st51 (Enc.cons (L := LPlace) (vs := [.int .i64 (y.at_.chapter), .int .i64 (y.at_.line), .int .i64 (y.at_.word)]) (x := y.at_) (h := h47) (X) Enc.nil) X X X Tryz.underlying37 Tryz.info30 X X X t_kr ?_
   intro v52 w53 h56 le57 f54 st55
   refine OpsL.append (k := 0) (nb := 24) st55 (hO_10.up (le48.trans le57)) rfl f54 rfl rfl rfl Tryz.underlying37 Tryz.info30 rfl rfl rfl (by decide) rfl (by have q := List.length_take_le i (underN t x hd); simp only [List.length_map, List.length_append, List.length_cons, List.length_nil]; omega) (by have q := List.length_take_le i (underN t x hd); simp only [List.length_map, List.length_append, List.length_cons, List.length_nil]; omega) ?_
   intro v58 o59 w60 _ e61 f62 st63
   subst e61
   refine v_assign (v := v58) X X<|zj<|zz<|U<|zm<|v_add X X t_om X<|v_mvI X X<|Y ?_
   refine ⟨⟨i + 1, v58, o59, h56⟩, ⟨rfl, rfl, trivial⟩, ?_, ⟨((le29.trans le48).trans le57), st63.take 1, ?_, ?_⟩, ?_⟩
   ·exact zR
   ·refine OSl.to f62 ?_
    rw [take_snoc hy, List.map_append]; rfl
   ·first | omega | (simp; omega)
   ·show (underN t x hd).length - ((i + 1)) < (underN t x hd).length - i
    omega
  ·
   replace c34 := of_decide_eq_false c34
   refine zP<|zi<|zi<|zJ<|U<|W.sr<|v_move (v := v_10) X X<|v_assign (v := v_10) X X<|v_asI X X<|Y<|zk<|zH Tryz.results47 ?_
   obtain ⟨h64, le65, f66, st67⟩ := OSl.freeze (k := 0) st30 hO_10 rfl (by have q := List.length_take_le i (underN t x hd); simp only [List.length_map, List.length_append, List.length_cons, List.length_nil]; omega)
   refine ⟨h64, _, rfl, st67.done, ?_⟩
   refine ⟨_, tup2 rfl (zC ?_), Sl.to f66 ?_⟩
   ·exact hu0.symm
   ·rw [List.take_of_length_le (by omega), hue, List.map_map, underR, if_pos hu0]; exact List.map_id' _
set_option maxRecDepth 4000 in
theorem c_stem_Forms {h : Heap} {w : World} (hs : Sub h w) {t : Text} {t_v0 : Value} (t_f0 : Sl LChapter h t_v0 t.chapters) {x : Lexicon} {x_v0 : Value} (x_f0 : Sl LRule h x_v0 x.rules) {x_v1 : Value} (x_f1 : Sl LDecision h x_v1 x.decisions) {hd : Head} (hd_l1 : hd.stem.length ≤ 281474976710656) (hd_l2 : 0 ≤ hd.mark ∧ hd.mark ≤ 255) (K0 : Cells h 0 0 Tryz.glob0) : Calls Tryz.prog 45 #[.agg #[t_v0], .agg #[x_v0, x_v1], .agg #[strV hd.stem, .int .u8 hd.mark]] w (Rets h w (fun h' _ res_ => ∃ u0, res_ = .tuple #[u0, .int .i64 (underE t x hd)] ∧ Sl LStr h' u0 ((formsR t x hd)))) := by
 refine zx (n := 39) (args := [.agg #[t_v0], .agg #[x_v0, x_v1], .agg #[strV hd.stem, .int .u8 hd.mark]]) Tryz.func45 X X X ?_
 have st0 : St h w h w [] := St.start hs
 have t_f0_b := t_f0.le
 have x_f0_b := x_f0.le
 have x_f1_b := x_f1.le
 refine W.sr<|zl st0 (cs := [t_v0]) X X X ?_
 intro b1 w2 h3 le4 hc5 st6
 refine zl st6 (cs := [x_v0, x_v1]) X X X ?_
 intro b7 w8 h9 le10 hc11 st12
 refine zl st12 (cs := [strV (hd.stem), .int .u8 (hd.mark)]) X X X ?_
 intro b13 w14 h15 le16 hc17 st18
 refine v_asL X X<|v_asI X X<|Y<|W.sr<|v_load_call st18.sub (hc5.up (le10.trans le16)) X Tryz.isAgg24 Tryz.sizeOf24 X X<|v_load_call st18.sub (hc11.up le16) X Tryz.isAgg28 Tryz.sizeOf28 X X<|v_load_call st18.sub hc17 X Tryz.isAgg32 Tryz.sizeOf32 X X<|za st18 X X X Tryz.call84 X (c_stem_under st18.sub (t := t) (t_f0.up ((le4.trans le10).trans le16)) (x := x) (x_f0.up ((le4.trans le10).trans le16)) (x_f1.up ((le4.trans le10).trans le16)) (hd := hd) zO t_u8 (K0.up ((le4.trans le10).trans le16))) ?_
 intro r19 w20 h21 le22 st23 q24
 obtain ⟨v25, rfl, f26⟩ := q24
 have f26_b := f26.le
 refine v_mvT X X<|v_extract (v := v25) X X X<|v_extract (v := (.int _ _)) X X X<|v_assign (v := v25) X X<|v_asI X X<|Y<|zg<|W.sr<|v_mvI X X<|v_neq X X X<|Y ?_
 refine zh rfl (fun c27 => ?_) (fun c27 => ?_)
 ·
  replace c27 := of_decide_eq_true c27
  refine W.sr<|v_mvI X X<|v_asL X X<|v_asI X X<|Y<|zk<|zd<|zH Tryz.results45 ?_
  refine ⟨h21, _, rfl, st23.done, ?_⟩
  refine ⟨_, tup2 rfl (zC ?_), Sl.to (Sl.nil _ _) ?_⟩
  all_goals simp_all [formsR]
 ·
  replace c27 := of_decide_eq_false c27
  refine zo<|U<|zg ?_
  have hu0 : underE t x hd = 0 := by simpa using c27
  have hx0 : checkN t x = 0 := under_check hu0
  have hue : underN t x hd = (underP t x hd).map (entryAt t x) := by rw [underN, if_pos hu0, under_filter]
  have hul : (underN t x hd).length ≤ 600 := by rw [hue, List.length_map]; exact Nat.le_trans (List.length_filter_le _ _) (places_len (check_text hx0))
  refine zm<|v_asL X X<|Y<|zg<|W.sr<|v_move (v := v25) X X<|v_len f26 X Tryz.underlying115 X<|v_mvI X X<|Y<|zr ?_
  have st31 := st23.snoc
  have f32 := OSl.nil LStr 9 h21
  refine zN [10, 12, 25, 26, 27, 28, 29, 30, 31, 32, 33, 34] (G := Nat × Value × List (Nat × Obj) × Heap) (fun ⟨i, v_10, o_10, h28⟩ => [(10, v_10), (25, .int .i64 (i : Int))]) (fun ⟨i, v_10, o_10, h28⟩ w' => Le h21 h28 ∧ St h w h28 w' [o_10] ∧ (OSl LStr 9 h28 v_10 (((underN t x hd).take i).map (·.word)) o_10) ∧ (i ≤ (underN t x hd).length)) (fun ⟨i, v_10, o_10, h28⟩ => (underN t x hd).length - i) ⟨0, (.slice none 0 0), [], h21⟩ ⟨rfl, rfl, trivial⟩ ⟨Le.refl _, st31, (OSl.to f32 (by rfl)), zV⟩ ?_
  rintro ⟨i, v_10, o_10, h28⟩ _ w33 ⟨le29, st30, hO_10, hi⟩
  refine W.sr<|v_lss X X X<|Y<|zg ?_
  refine zh rfl (fun c34 => ?_) (fun c34 => ?_)
  ·
   replace c34 := of_decide_eq_true c34
   refine zo<|U<|zg<|zr<|W.sr ?_
   have hy : ∃ y_, ((underN (t) (x) (hd)))[i]? = some y_ := ⟨_, List.getElem?_eq_getElem (by omega)⟩
   obtain ⟨y, hy⟩ := hy
   obtain ⟨b35, o36, _, he38, hc37, hr_y⟩ := Sl.elem (f26.up le29) hy
   obtain ⟨rfl, ls39, ls40, lu41⟩ := hr_y
   simp only [big] at ls39
   simp only [big] at ls40
   refine v_index_el he38 X X (hk := X) (hu := Tryz.underlying115) (hz := Tryz.sizeOf120) X<|v_load_call st30.sub hc37 X Tryz.isAgg120 Tryz.sizeOf120 X X<|zy st30 Tryz.zeroValue120 X X ?_
   intro b42 w43 st44
   refine zq st44 (k := 1) X X X (E X (E X (E X (E X (E X (E X zI)))))) Tryz.sizeOf120 X X X ?_
   intro w45 st46
   obtain ⟨h47, le48, hb49, st51⟩ := st46.freeze (k := 1) rfl
   have hc50 := Cells.of hb49
   refine Y<|zm<|v_move (v := v_10) X X<|v_field_addr X Tryz.underlying120 X Tryz.sizeOf9 X X<|v_load_cells1 (j := 3) st51.sub hc50 X X X Tryz.isAgg9 X<|zG (L := LStr) (xs := [(y.word)]) (cs := [strV (y.word)]) st51 (Enc.cons (L := LStr) (vs := [strV (y.word)]) (x := (y.word)) (h := h47) (⟨rfl, zO⟩) Enc.nil) X X X Tryz.underlying62 Tryz.info9 X X X t_kr ?_
   intro v52 w53 h56 le57 f54 st55
   refine OpsL.append (k := 0) (nb := 16) st55 (hO_10.up (le48.trans le57)) rfl f54 rfl rfl rfl Tryz.underlying62 Tryz.info9 rfl rfl rfl (by decide) rfl (by have q := List.length_take_le i (underN t x hd); simp only [List.length_map, List.length_append, List.length_cons, List.length_nil]; omega) (by have q := List.length_take_le i (underN t x hd); simp only [List.length_map, List.length_append, List.length_cons, List.length_nil]; omega) ?_
   intro v58 o59 w60 _ e61 f62 st63
   subst e61
   refine v_assign (v := v58) X X<|zj<|zz<|U<|zm<|v_add X X t_om X<|v_mvI X X<|Y ?_
   refine ⟨⟨i + 1, v58, o59, h56⟩, ⟨rfl, rfl, trivial⟩, ?_, ⟨((le29.trans le48).trans le57), st63.take 1, ?_, ?_⟩, ?_⟩
   ·exact zR
   ·refine OSl.to f62 ?_
    rw [take_snoc hy, List.map_append]; rfl
   ·first | omega | (simp; omega)
   ·show (underN t x hd).length - ((i + 1)) < (underN t x hd).length - i
    omega
  ·
   replace c34 := of_decide_eq_false c34
   refine zP<|zi<|zi<|zJ<|U<|W.sr<|v_move (v := v_10) X X ?_
   have con := sort1 (L := LStr) (T := 9) (f := 74) strV (by rintro _ _ _ ⟨rfl, _⟩; rfl) rfl (fun l => l.mergeSort fun a b => decide (a ≤ b)) (fun l => List.mergeSort_perm _ _) (fun blk off cap zs w hH hb hs => Tryz.slices_Sort_string blk off cap zs w hH hb hs) (fun p cap w => Tryz.slices_Sort_string_none p cap w) (i := 0) st30 hO_10 rfl (by simp only [List.length_mergeSort, List.length_map, List.length_take]; omega)
   refine zD rfl rfl (zS rfl Tryz.call74 rfl) (con.mono ?_)
   rintro _ w64 ⟨rfl, o65, _, e66, f67, st68⟩
   subst e66
   refine ⟨_, rfl, ?_⟩
   clear con
   refine Y<|W.sr<|v_move (v := v_10) X X ?_
   have con := c_slices_Compact_Lstring_string (rest := []) f67 (by simp only [List.length_mergeSort, List.length_map, List.length_take]; omega) st68
   refine zD rfl rfl (zS rfl Tryz.call75 rfl) (con.mono ?_)
   rintro _ w69 ⟨h70, o71, v72, rfl, le73, st74, f75⟩
   refine ⟨_, rfl, ?_⟩
   clear con
   have f76 := OSl.to f75 (show _ = (setL sLt ((underP t x hd).map (wordD t))) from by rw [List.take_of_length_le (by omega), hue, List.map_map]; exact setOf_sort _)
   refine v_assign (v := v72) X X<|v_asI X X<|Y<|zk<|zH Tryz.results45 ?_
   obtain ⟨h77, le78, f79, st80⟩ := OSl.freeze (k := 0) st74 f76 rfl (by have q := setL_len sLt_T ((underP t x hd).map (wordD t)); have q2 : (underP t x hd).length ≤ 600 := Nat.le_trans (List.length_filter_le _ _) (places_len (check_text hx0)); rw [List.length_map] at q; omega)
   refine ⟨h77, _, rfl, st80.done, ?_⟩
   refine ⟨_, tup2 rfl (zC ?_), Sl.to f79 ?_⟩
   ·exact hu0.symm
   ·rw [formsR, if_pos hu0]
set_option maxRecDepth 4000 in
theorem c_stem_Heads {h : Heap} {w : World} (hs : Sub h w) {t : Text} {t_v0 : Value} (t_f0 : Sl LChapter h t_v0 t.chapters) {x : Lexicon} {x_v0 : Value} (x_f0 : Sl LRule h x_v0 x.rules) {x_v1 : Value} (x_f1 : Sl LDecision h x_v1 x.decisions) (K0 : Cells h 0 0 Tryz.glob0) : Calls Tryz.prog 43 #[.agg #[t_v0], .agg #[x_v0, x_v1]] w (Rets h w (fun h' _ res_ => ∃ u0, res_ = .tuple #[u0, .int .i64 (checkN t x)] ∧ Sl LHead h' u0 ((headsN t x)))) := by
 refine zx (n := 37) (args := [.agg #[t_v0], .agg #[x_v0, x_v1]]) Tryz.func43 X X X ?_
 have st0 : St h w h w [] := St.start hs
 have t_f0_b := t_f0.le
 have x_f0_b := x_f0.le
 have x_f1_b := x_f1.le
 refine W.sr<|zl st0 (cs := [t_v0]) X X X ?_
 intro b1 w2 h3 le4 hc5 st6
 refine zl st6 (cs := [x_v0, x_v1]) X X X ?_
 intro b7 w8 h9 le10 hc11 st12
 refine v_asL X X<|v_asI X X<|Y<|W.sr<|v_load_call st12.sub (hc5.up le10) X Tryz.isAgg24 Tryz.sizeOf24 X X<|v_load_call st12.sub hc11 X Tryz.isAgg28 Tryz.sizeOf28 X X<|za st12 X X X Tryz.call67 X (c_stem_open st12.sub (t := t) (t_f0.up (le4.trans le10)) (x := x) (x_f0.up (le4.trans le10)) (x_f1.up (le4.trans le10)) (K0.up (le4.trans le10))) ?_
 intro r13 w14 h15 le16 st17 q18
 rcases Bool.eq_false_or_eq_true (decide (checkN (t) (x) = 0)) with hb19 | hb19
 ·
  simp only [hb19, if_true, if_false, Bool.false_eq_true, reduceIte] at q18
  obtain ⟨v20, rfl, f21⟩ := q18
  obtain ⟨b22, vs23, rfl, hc24, hr25⟩ := f21
  obtain ⟨v26, v28, v30, v32, rfl, f27, f29, f31, lm33⟩ := hr25
  have f27_b := f27.le
  have f29_b := f29.le
  have f31_b := f31.le
  refine v_mvT X X<|v_extract (v := (.pointer (some _))) X X X<|v_extract (v := (.int _ _)) X X X<|v_asP X X<|v_asI X X<|Y<|zg<|W.sr<|v_mvI X X<|v_neq X X X<|Y ?_
  refine zh rfl (fun c34 => ?_) (fun c34 => ?_)
  ·
   replace c34 := of_decide_eq_true c34
   refine W.sr<|v_mvI X X<|v_asL X X<|v_asI X X<|Y<|zk<|zd<|zH Tryz.results43 ?_
   refine ⟨h15, _, rfl, st17.done, ?_⟩
   refine ⟨_, tup2 rfl (zC ?_), Sl.to (Sl.nil _ _) ?_⟩
   all_goals simp_all [headsN]
  ·
   replace c34 := of_decide_eq_false c34
   refine zo<|U<|zg ?_
   have hx0 : checkN t x = 0 := by simpa using c34
   have hel := entries_len (check_text hx0) x
   refine zm<|v_asL X X<|Y<|zg<|W.sr<|v_mvP X X ?_
   refine za st17 rfl rfl rfl Tryz.call62 rfl (c_stem_office_entries st17.sub (o := (Office.mk (x) (t) (standM (x)))) f27 f29 f31 lm33 hc24 (K0.up ((le4.trans le10).trans le16)) (by exact ⟨hx0, rfl⟩)) ?_
   intro r35 w36 h37 le38 st39 q40
   obtain ⟨v41, e43, f42⟩ := q40
   rw [← e43] at f42
   have f42_b := f42.le
   have f44 := Sl.to f42 (show _ = (entriesL t x) from rfl)
   have f44_b := f44.le
   refine v_len f44 X Tryz.underlying115 X<|v_mvI X X<|Y<|zr ?_
   have st48 := st39.snoc
   have f49 := OSl.nil LHead 32 h37
   refine zN [8, 10, 23, 24, 25, 26, 27, 28, 29, 30, 31, 32] (G := Nat × Value × List (Nat × Obj) × Heap) (fun ⟨i, v_8, o_8, h45⟩ => [(8, v_8), (23, .int .i64 (i : Int))]) (fun ⟨i, v_8, o_8, h45⟩ w' => Le h37 h45 ∧ St h w h45 w' [o_8] ∧ (OSl LHead 32 h45 v_8 (((entriesL t x).take i).map (·.head)) o_8) ∧ (i ≤ (entriesL t x).length)) (fun ⟨i, v_8, o_8, h45⟩ => (entriesL t x).length - i) ⟨0, (.slice none 0 0), [], h37⟩ ⟨rfl, rfl, trivial⟩ ⟨Le.refl _, st48, (OSl.to f49 (by rfl)), zV⟩ ?_
   rintro ⟨i, v_8, o_8, h45⟩ _ w50 ⟨le46, st47, hO_8, hi⟩
   refine W.sr<|v_lss X X X<|Y<|zg ?_
   refine zh rfl (fun c51 => ?_) (fun c51 => ?_)
   ·
    replace c51 := of_decide_eq_true c51
    refine zo<|U<|zg<|zr<|W.sr ?_
    have hy : ∃ y_, ((entriesL t x))[i]? = some y_ := ⟨_, List.getElem?_eq_getElem (by omega)⟩
    obtain ⟨y, hy⟩ := hy
    obtain ⟨b52, o53, _, he55, hc54, hr_y⟩ := Sl.elem (f44.up le46) hy
    obtain ⟨rfl, ls56, ls57, lu58⟩ := hr_y
    simp only [big] at ls56
    simp only [big] at ls57
    refine v_index_el he55 X X (hk := X) (hu := Tryz.underlying115) (hz := Tryz.sizeOf120) X<|v_load_call st47.sub hc54 X Tryz.isAgg120 Tryz.sizeOf120 X X<|zy st47 Tryz.zeroValue120 X X ?_
    intro b59 w60 st61
    refine zq st61 (k := 1) X X X (E X (E X (E X (E X (E X (E X zI)))))) Tryz.sizeOf120 X X X ?_
    intro w62 st63
    obtain ⟨h64, le65, hb66, st68⟩ := st63.freeze (k := 1) rfl
    have hc67 := Cells.of hb66
    refine Y<|zm<|v_move (v := v_8) X X<|v_field_addr X Tryz.underlying120 X Tryz.sizeOf32 X X<|v_load_cellsN (j := 4) st68.sub hc67 (us := [strV (y.head.stem), .int .u8 (y.head.mark)]) X X Tryz.isAgg32 Tryz.sizeOf32 X X X<|zG (L := LHead) (xs := [y.head]) (cs := [strV (y.head.stem), .int .u8 (y.head.mark)]) st68 (Enc.cons (L := LHead) (vs := [strV (y.head.stem), .int .u8 (y.head.mark)]) (x := y.head) (h := h64) (⟨rfl, zO, t_u8⟩) Enc.nil) X X X Tryz.underlying43 Tryz.info32 X X X t_kr ?_
    intro v69 w70 h73 le74 f71 st72
    refine OpsL.append (k := 0) (nb := 24) st72 (hO_8.up (le65.trans le74)) rfl f71 rfl rfl rfl Tryz.underlying43 Tryz.info32 rfl rfl rfl (by decide) rfl (by have q := List.length_take_le i (entriesL t x); simp only [List.length_map, List.length_append, List.length_cons, List.length_nil]; omega) (by have q := List.length_take_le i (entriesL t x); simp only [List.length_map, List.length_append, List.length_cons, List.length_nil]; omega) ?_
    intro v75 o76 w77 _ e78 f79 st80
    subst e78
    refine v_assign (v := v75) X X<|zj<|zz<|U<|zm<|v_add X X t_om X<|v_mvI X X<|Y ?_
    refine ⟨⟨i + 1, v75, o76, h73⟩, ⟨rfl, rfl, trivial⟩, ?_, ⟨((le46.trans le65).trans le74), st80.take 1, ?_, ?_⟩, ?_⟩
    ·exact zR
    ·refine OSl.to f79 ?_
     rw [take_snoc hy, List.map_append]; rfl
    ·first | omega | (simp; omega)
    ·show (entriesL t x).length - ((i + 1)) < (entriesL t x).length - i
     omega
   ·
    replace c51 := of_decide_eq_false c51
    refine zP<|zi<|zi<|zJ<|U<|zg ?_
    have hhl : ((entriesL t x).take i).map (·.head) = headsL t x := by rw [List.take_of_length_le (by omega), entriesL, List.map_map]; rfl
    refine zm<|v_move (v := v_8) X X ?_
    have con := sortFunc (L := LHead) (T := 32) Tryz.sort_api_Head Tryz.isAgg32 Tryz.sizeOf32 (by decide) (fun x : Head => [strV x.stem, .int .u8 x.mark]) (by rintro _ _ _ ⟨rfl, _⟩; rfl) cmpHead swo_head (g := 81) (caps := []) (i := 0) st47 hO_8 rfl (by first | (have q9 := hp_ys.length_eq; simp only [List.length_map, List.length_take] at *; omega) | (simp only [List.length_map, List.length_take]; omega)) Tryz.call81 ?_
    rotate_left
    ·intro a_ ha_ b_ hb_ w_ hs_
     obtain ⟨_, rfl, p0, p1⟩ := OSl.memR hO_8 ha_
     obtain ⟨_, rfl, q0, q1⟩ := OSl.memR hO_8 hb_
     simp only [big] at *
     exact c_stem_Heads_1 hs_ (a := a_) p0 p1 (b := b_) q0 q1
    refine zD rfl rfl (zS rfl Tryz.call80 rfl) (con.mono ?_)
    rintro _ w81 ⟨rfl, ys, o82, _, e83, hp_ys, hw_ys, f84, st85⟩
    subst e83
    refine ⟨_, rfl, ?_⟩
    clear con
    refine Y<|W.sr<|v_move (v := v_8) X X ?_
    have con := c_slices_Compact_Lapi_Head_api_Head (rest := []) f84 (by first | (have q9 := hp_ys.length_eq; simp only [List.length_map, List.length_take] at *; omega) | (simp only [List.length_map, List.length_take]; omega)) st85
    refine zD rfl rfl (zS rfl Tryz.call83 rfl) (con.mono ?_)
    rintro _ w86 ⟨h87, o88, v89, rfl, le90, st91, f92⟩
    refine ⟨_, rfl, ?_⟩
    clear con
    have f93 := OSl.to f92 (show _ = (setL headLt (headsL t x)) from setOf_compact headLt_T (hhl ▸ hp_ys) (hw_ys.imp fun h => by rw [← cmpHead_lt]; simpa using h))
    refine v_assign (v := v89) X X<|v_asI X X<|Y<|zk<|zH Tryz.results43 ?_
    obtain ⟨h94, le95, f96, st97⟩ := OSl.freeze (k := 0) st91 f93 rfl (by have q := setL_len headLt_T (headsL t x); have q2 := places_len (check_text hx0); rw [headsL, List.length_map] at q; simp only [headsL] at *; omega)
    refine ⟨h94, _, rfl, st97.done, ?_⟩
    refine ⟨_, tup2 rfl (zC ?_), Sl.to f96 ?_⟩
    ·exact hx0.symm
    ·simp [headsN, hx0]
 ·
  simp only [hb19, if_true, if_false, Bool.false_eq_true, reduceIte] at q18
  obtain ⟨v98, rfl, f99⟩ := q18
  obtain rfl := f99
  refine v_mvT X X<|v_extract (v := (.pointer none)) X X X<|v_extract (v := (.int _ _)) X X X<|v_assign X X<|v_asI X X<|Y<|zg<|W.sr<|v_mvI X X<|v_neq X X X<|Y ?_
  refine zh rfl (fun c100 => ?_) (fun c100 => ?_)
  ·
   replace c100 := of_decide_eq_true c100
   refine W.sr<|v_mvI X X<|v_asL X X<|v_asI X X<|Y<|zk<|zd<|zH Tryz.results43 ?_
   refine ⟨h15, _, rfl, st17.done, ?_⟩
   refine ⟨_, tup2 rfl (zC ?_), Sl.to (Sl.nil _ _) ?_⟩
   all_goals simp_all [headsN]
  ·
   replace c100 := of_decide_eq_false c100
   exfalso
   simp_all
end Go.Pk

namespace Go.Pk
open Go Go.RowKit Go.Proofs
set_option maxRecDepth 4000 in
theorem c_slices_Equal_Lstem_entry_stem_entry {h : Heap} {w : World} (hs : Sub h w) {a_v : Value} {a : (List Entry)} (a_f : Sl LEntry h a_v a) {b_v : Value} {b : (List Entry)} (b_f : Sl LEntry h b_v b) : Calls Tryz.prog 73 #[a_v, b_v] w (Rets h w (fun _ _ res_ => res_ = .bool (decide (a = b)))) := by
 refine zx (n := 26) (args := [a_v, b_v]) Tryz.func73 X X X ?_
 have st0 : St h w h w [] := St.start hs
 have a_f_b := a_f.le
 have b_f_b := b_f.le
 refine W.sr<|v_asB X X<|Y<|zg<|W.sr<|v_move (v := a_v) X X<|v_len a_f X Tryz.underlying115 X<|v_move (v := b_v) X X<|v_len b_f X Tryz.underlying115 X<|v_neq X X X<|Y ?_
 refine zh rfl (fun c1 => ?_) (fun c1 => ?_)
 ·
  replace c1 := of_decide_eq_true c1
  refine W.sr<|v_asB X X<|Y<|zk<|zd<|O Tryz.results73 ?_
  refine ⟨h, _, rfl, st0.done, ?_⟩
  refine zn ?_
  have q : a ≠ b := by
   rintro rfl
   simp_all
  simp [q]
 ·
  replace c1 := of_decide_eq_false c1
  refine zo<|U<|zg<|W.sr<|v_move (v := a_v) X X<|v_len a_f X Tryz.underlying115 X<|v_mvI X X<|Y<|zr ?_
  refine zN [4, 5, 13, 14, 15, 16, 17, 18, 19, 20, 21, 22, 23, 24, 25] (G := Nat × Heap) (fun ⟨k, h2⟩ => [(13, .int .i64 (k : Int))]) (fun ⟨k, h2⟩ w' => Le h h2 ∧ St h w h2 w' [] ∧ (k ≤ a.length) ∧ (a.take k = b.take k)) (fun ⟨k, h2⟩ => a.length - k) ⟨0, h⟩ ⟨rfl, trivial⟩ ⟨Le.refl _, st0, zV, zV⟩ ?_
  rintro ⟨k, h2⟩ _ w5 ⟨le3, st4, hk, he⟩
  refine W.sr<|v_lss X X X<|Y<|zg ?_
  refine zh rfl (fun c6 => ?_) (fun c6 => ?_)
  ·
   replace c6 := of_decide_eq_true c6
   refine zo<|U<|zg<|zr<|W.sr<|v_mvI X X<|v_asI X X<|Y<|zg<|W.regionQ Tryz.mixed t_kr (Cls h2 _) (Cls.drew st4)<|u_move (v := a_v) X X<|u_mvI X X ?_
   have hx : ∃ y_, (a)[k]? = some y_ := ⟨_, List.getElem?_eq_getElem (by omega)⟩
   obtain ⟨x, hx⟩ := hx
   obtain ⟨b7, o8, _, he10, hc9, hr_x⟩ := Sl.elem (a_f.up le3) hx
   obtain ⟨rfl, ls11, ls12, lu13⟩ := hr_x
   simp only [big] at ls11
   simp only [big] at ls12
   refine u_index_el he10 X X (hk := X) (hu := Tryz.underlying115) (hz := Tryz.sizeOf120) X<|zt X X (fun _ hC => (zB hC.sub hc9 X Tryz.isAgg120 Tryz.sizeOf120 X))<|u_move (v := b_v) X X<|u_mvI X X ?_
   have hy : ∃ y_, (b)[k]? = some y_ := ⟨_, List.getElem?_eq_getElem (by omega)⟩
   obtain ⟨y, hy⟩ := hy
   obtain ⟨b14, o15, _, he17, hc16, hr_y⟩ := Sl.elem (b_f.up le3) hy
   obtain ⟨rfl, ls18, ls19, lu20⟩ := hr_y
   simp only [big] at ls18
   simp only [big] at ls19
   refine u_index_el he17 X X (hk := X) (hu := Tryz.underlying115) (hz := Tryz.sizeOf120) X<|zt X X (fun _ hC => (zB hC.sub hc16 X Tryz.isAgg120 Tryz.sizeOf120 X))<|zt X X (fun _ _ => (r_stneq X X Tryz.eqGuardType120 (Tryz.eq_Entry x y)))<|OpsQ.nil ?_
   rintro w21 ⟨h22, s23⟩
   have st24 := st4.call0 s23
   refine U ?_
   refine zh rfl (fun c25 => ?_) (fun c25 => ?_)
   ·
    replace c25 := of_decide_eq_true c25
    refine W.sr<|v_asB X X<|Y<|zk<|zw<|zd<|zd<|zw<|zd<|O Tryz.results73 ?_
    refine ⟨h22, _, rfl, st24.done, ?_⟩
    refine zn ?_
    have q := ne_of_get hx hy (by simpa using c25)
    simp [q]
   ·
    replace c25 := of_decide_eq_false c25
    refine zo<|zz<|U<|zm<|v_add X X t_om X<|v_mvI X X<|Y ?_
    refine ⟨⟨k + 1, h22⟩, ⟨rfl, trivial⟩, ?_, ⟨(le3.trans s23.le), st24, ?_, ?_⟩, ?_⟩
    ·exact zR
    ·first | omega | (simp; omega)
    ·exact eq_take_succ he hx hy (by simpa using c25)
    ·show a.length - ((k + 1)) < a.length - k
     omega
  ·
   replace c6 := of_decide_eq_false c6
   refine zP<|zi<|zi<|zJ<|U<|W.sr<|v_asB X X<|Y<|zk<|O Tryz.results73 ?_
   refine ⟨h2, _, rfl, st4.done, ?_⟩
   refine zn ?_
   have q := eq_of_take he (by omega) (by omega)
   simp [q]
set_option maxRecDepth 4000 in
theorem c_slices_Delete_Lapi_Decision_api_Decision {h0 h : Heap} {w0 w : World} {rest : Own} {s : (List Decision)} {s_o : List (Nat × Obj)} {s_v : Value} (s_f : OSl LDecision 34 h s_v s s_o) (i : Int) (j : Int) {m n : Nat} (hi : i = (m : Int)) (hj : j = (n : Int)) (hmn : m ≤ n) (hn : n ≤ s.length) (st0 : St h0 w0 h w (s_o :: rest)) : Calls Tryz.prog 72 #[s_v, .int .i64 i, .int .i64 j] w (fun e_ w' => ∃ h' s_o' v', e_ = .returned v' ∧ Le h h' ∧ St h0 w0 h' w' (s_o' :: rest) ∧ OSl LDecision 34 h' v' (s.take m ++ s.drop n) s_o') := by
 refine zx (n := 33) (args := [s_v, .int .i64 i, .int .i64 j]) Tryz.func72 X X X<|W.sr<|v_asL X X<|Y<|W.sr<|v_move (v := s_v) X X<|v_mvI X X<|v_mvI X X<|v_move (v := s_v) X X<|v_len_own s_f X Tryz.underlying26 X ?_
 obtain ⟨p1, c2, hv3⟩ := s_f.form
 have hc4 := (s_f.cap hv3).2
 refine ze rfl rfl (r_slice_lhm_own hv3 rfl rfl rfl rfl (show _ = ((m : Nat) : Int) by omega) (show _ = ((n : Nat) : Int) by omega) (show _ = ((s.length : Nat) : Int) by omega) (by omega) (by omega) (by omega) Tryz.underlying26 Tryz.sizeOf34) ?_
 refine Y<|zg<|W.sr<|v_mvI X X<|v_mvI X X<|v_eql X X X<|Y ?_
 refine zh rfl (fun c5 => ?_) (fun c5 => ?_)
 ·
  replace c5 := of_decide_eq_true c5
  refine W.sr<|v_move (v := s_v) X X<|v_assign (v := s_v) X X<|Y<|zk<|zd<|O Tryz.results72 ?_
  refine ⟨h, _, _, rfl, (Le.refl _), st0, OSl.to s_f ?_⟩
  obtain rfl : m = n := by have q := c5; omega
  rw [List.take_append_drop]
 ·
  replace c5 := of_decide_eq_false c5
  refine zo<|U<|W.sr<|v_move (v := s_v) X X<|v_len_own s_f X Tryz.underlying26 X<|v_asI X X<|Y<|zg ?_
  have f6 := OSl.take s_f (k := m) (by omega)
  refine zZ (er := ([], [0], [0, 3], [], 0)) (dsts := [20, 21, 22, 23, 24, 25, 26, 0]) st0 Tryz.mixed<|zc 0 [] X t_kr t_kr X X (fun hD wD τD hL hS hO  => (r_move (v := s_v) X))<|zc 1 [] X t_kr t_kr X X (fun hD wD τD hL hS hO  => (r_mvI X)) ?_
  refine zc 2 [1, 0] rfl t_kr t_kr rfl rfl (fun hD wD τD hL hS hO _ _ _ _ => (r_slice_to_own s_f rfl rfl (hk := (show _ = ((m : Nat) : Int) by omega)) (by omega) Tryz.underlying26 Tryz.sizeOf34)) ?_
  refine zc 3 [] X t_kr t_kr X X (fun hD wD τD hL hS hO  => (r_move (v := s_v) X))<|zc 4 [] X t_kr t_kr X X (fun hD wD τD hL hS hO  => (r_mvI X)) ?_
  refine zc 5 [1, 0] rfl t_kr t_kr rfl rfl (fun hD wD τD hL hS hO _ _ _ _ => (r_slice_from_own s_f rfl rfl (hk := (show _ = ((n : Nat) : Int) by omega)) (by omega) Tryz.underlying26 Tryz.sizeOf34)) ?_
  refine Drw.ch<|Drw.ch<|Drw.nil X X X X X X ⟨t_kr, X, t_kr, X, t_kr, X, X, t_kr, (zaf X (zaf X cx_nil))⟩ ?_
  intro hE8 w9 _ le10 st11 _ _ _ _
  refine OpsL.appendSelf (k := 0) (i := m) (j := n) st11 (s_f.up le10) rfl (by omega) (by omega) rfl rfl rfl Tryz.underlying26 Tryz.info34 rfl (by decide) ?_
  intro o12 w13 _ e14 f15 st16
  subst e14
  refine zj ⟨_, rfl, _, _, Le.refl _, st16, ?_⟩
  intro hE18 w19 _ le20 st21 _ _ _ _ _ _ _ _ _ _ _ _
  refine v_assign (v := (vtake s_v (m + (s.length - n)))) X X ?_
  refine zj ⟨_, rfl, _, _, Le.refl _, st21, ?_⟩
  intro hE22 w23 _ le24 st25 _ _ _ _ _ _ _ _ _ _ _ _
  refine AllDeps.fin X<|U<|W.sr<|v_move (v := (vtake s_v (m + (s.length - n)))) X X<|v_move (v := (vtake s_v (m + (s.length - n)))) X X<|v_len_own (f15.up (le20.trans le24)) X Tryz.underlying26 X<|v_mvI X X ?_
  obtain ⟨p27, c28, hv29⟩ := (f15.up (le20.trans le24)).form
  have hc30 := ((f15.up (le20.trans le24)).cap hv29).2
  have hc2 : s.length ≤ c28 := vtake_caps s_f _ _ _ _ hv29
  refine ze rfl rfl (r_slice_lh_own hv29 rfl rfl rfl (show _ = (((s.take m ++ s.drop n).length : Nat) : Int) by omega) (show _ = ((s.length : Nat) : Int) by omega) (by first | omega | (simp only [List.length_append, List.length_take, List.length_drop]; omega)) (by first | omega | (simp only [List.length_append, List.length_take, List.length_drop]; omega)) Tryz.underlying26 Tryz.sizeOf34) ?_
  refine OpsL.clearSub (k := 0) (l := (s.take m ++ s.drop n).length) (m := s.length) st25 (f15.up (le20.trans le24)) rfl (by first | omega | (simp only [List.length_append, List.length_take, List.length_drop]; omega)) (by intro p_ n_ c_ e_; exact vtake_caps s_f _ _ _ _ e_) rfl Tryz.underlying26 Tryz.zeroValue34 rfl (by decide) ?_
  intro o31 w32 _ e33 f34 st36
  subst e33
  have f35 := (f34 _ (by first | omega | (simp only [List.length_append, List.length_take, List.length_drop]; omega)) (Nat.le_refl _)).retake (f15.up (le20.trans le24)).form
  refine Y<|W.sr<|v_move (v := (vtake s_v (m + (s.length - n)))) X X<|v_assign (v := (vtake s_v (m + (s.length - n)))) X X<|Y<|zk<|O Tryz.results72 ?_
  refine ⟨hE22, _, _, rfl, ((le10.trans le20).trans le24), st36, OSl.to f35 ?_⟩
  rfl
end Go.Pk
