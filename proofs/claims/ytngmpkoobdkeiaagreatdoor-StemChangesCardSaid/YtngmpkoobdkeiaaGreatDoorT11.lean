/- A PART OF THE PROOF: contracts of functions, each walked once (much of it printed by a program of the author's own). -/
import Derived.Test.YtngmpkoobdkeiaaGreatDoorT10
import Derived.Test.YtngmpkoobdkeiaaGreatDoorT5
import Derived.Test.YtngmpkoobdkeiaaGreatDoorT3
import Derived.Test.YtngmpkoobdkeiaaGreatDoorT4
namespace Go.Pk
open Go Go.RowKit Go.Proofs
theorem c_strings_Compare {h : Heap} {w : World} (hs : Sub h w) (a : Str) (a_le : a.length ≤ 281474976710656) (b : Str) (b_le : b.length ≤ 281474976710656) : Calls Tryz.prog 76 #[strV a, strV b] w (Rets h w (fun _ _ res_ => res_ = .int .i64 (cmpS a b))) := by
 refine (Tryz.strings_Compare ⟨a.toArray⟩ ⟨b.toArray⟩ w).mono ?_
 rintro e w' ⟨rfl, rfl⟩
 exact ⟨h, _, rfl, St.start hs, rfl⟩
set_option maxRecDepth 4000 in
theorem c_stem_Heads_1 {h : Heap} {w : World} (hs : Sub h w) {a : Head} (a_l1 : a.stem.length ≤ 281474976710656) (a_l2 : 0 ≤ a.mark ∧ a.mark ≤ 255) {b : Head} (b_l1 : b.stem.length ≤ 281474976710656) (b_l2 : 0 ≤ b.mark ∧ b.mark ≤ 255) : Calls Tryz.prog 75 #[.agg #[strV a.stem, .int .u8 a.mark], .agg #[strV b.stem, .int .u8 b.mark]] w (Rets h w (fun _ _ res_ => res_ = .int .i64 ((cmpHead a b)))) := by
 refine zM (n := 21) (args := [.agg #[strV a.stem, .int .u8 a.mark], .agg #[strV b.stem, .int .u8 b.mark]]) Tryz.func75 X X X ?_
 have st0 : St h w h w [] := St.start hs
 refine zd<|O<|zr st0 (cs := [strV (a.stem), .int .u8 (a.mark)]) X X X ?_
 intro b1 w2 h3 le4 hc5 st6
 refine zr st6 (cs := [strV (b.stem), .int .u8 (b.mark)]) X X X ?_
 intro b7 w8 h9 le10 hc11 st12
 refine Y X X (zx X)<|U<|M<|zd<|zd<|O<|Y X X (zc X Tryz.underlying54 X Tryz.sizeOf9 X)<|Y X X (zb (j := 0) st12.sub (hc5.up le10) X X X Tryz.isAgg9)<|Y X X (zc X Tryz.underlying54 X Tryz.sizeOf9 X)<|Y X X (zb (j := 0) st12.sub hc11 X X X Tryz.isAgg9)<|zm st12 X X X Tryz.call76 X (c_strings_Compare st12.sub _ zZ _ zZ) ?_
 intro r13 w14 h15 le16 st17 q18
 obtain rfl := q18
 have hcb := cmpS_bound a.stem b.stem
 refine Y X X (zx X)<|U<|M<|zd<|O<|Y X X (zo X)<|Y X X (r_neq X X)<|U<|M ?_
 refine zt rfl (fun c19 => ?_) (fun c19 => ?_)
 ·
  replace c19 := of_decide_eq_true c19
  refine zd<|O<|Y X X (zo X)<|Y X X (zx X)<|U<|M<|zA<|zk<|zi Tryz.results75 ?_
  refine ⟨h15, _, rfl, st17.done, ?_⟩
  refine zW ?_
  simp_all [cmpHead]
 ·
  replace c19 := of_decide_eq_false c19
  refine zz<|M<|zd<|O<|Y X X (zc X Tryz.underlying54 X Tryz.sizeOf5 X)<|Y X X (zb (j := 1) st17.sub (hc5.up (le10.trans le16)) X X X Tryz.isAgg5) ?_
  refine Y rfl rfl (r_conv_int rfl rfl Tryz.underlying3 (IntWalk.i64_in _ (by omega))) ?_
  refine Y X X (zc X Tryz.underlying54 X Tryz.sizeOf5 X)<|Y X X (zb (j := 1) st17.sub (hc11.up le16) X X X Tryz.isAgg5) ?_
  refine Y rfl rfl (r_conv_int rfl rfl Tryz.underlying3 (IntWalk.i64_in _ (by omega))) ?_
  refine Y X X (r_sub X X t_om)<|Y X X (zx X)<|U<|M<|zA<|zi Tryz.results75 ?_
  refine ⟨h15, _, rfl, st17.done, ?_⟩
  refine zW ?_
  simp_all [cmpHead]
set_option maxRecDepth 4000 in
theorem c_stem_office_entries_own {h : Heap} {w : World} (hs : Sub h w) {o_b : Nat} {o : Office} {o_v0 : Value} (o_f0 : Sl LRule h o_v0 o.lex.rules) {o_v1 : Value} (o_f1 : Sl LDecision h o_v1 o.lex.decisions) {o_v2 : Value} (o_f2 : Sl LChapter h o_v2 o.text.chapters) {o_v3 : Value} (o_f3 : FML (fun n : Int => .int .i64 n) (fun x : Decision => [.int .i64 x.number, .int .u8 x.kind, strV x.form, .int .i64 x.at_.chapter, .int .i64 x.at_.line, .int .i64 x.at_.word, strV x.to.stem, .int .u8 x.to.mark, .int .i64 x.of_]) LDecision h o.stands o_v3) (o_c : Cells h o_b 0 [o_v0, o_v1, o_v2, o_v3]) (K0 : Cells h 0 0 Tryz.glob0) (ho : OkO o) : Calls Tryz.prog 56 #[.pointer (some ⟨o_b, 0, none⟩)] w (fun e_ w' => ∃ h' res_ o_, e_ = .returned res_ ∧ Le h h' ∧ St h w h' w' [o_] ∧ OSl LEntry 120 h' res_ ((entriesL o.text o.lex)) o_) := by
 refine zM (n := 55) (args := [.pointer (some ⟨o_b, 0, none⟩)]) Tryz.func56 X X X ?_
 have st0 : St h w h w [] := St.start hs
 have o_f0_b := o_f0.le
 have o_f1_b := o_f1.le
 have o_f2_b := o_f2.le
 have ht := check_text ho.1
 have hchl := chapters_len ht
 refine zd<|O<|Y X X (r_asL X)<|U<|M<|zd<|O<|Y X X (r_asL X)<|U<|M<|zd<|zd<|O<|Y X X (r_mvP X)<|Y X X (r_nil_check X)<|Y X X (zc X Tryz.underlying103 X Tryz.sizeOf24 X)<|Y X X (zc X Tryz.underlying24 X Tryz.sizeOf22 X)<|Y X X (zb (j := 2) st0.sub o_c X X X Tryz.isAgg22)<|Y X X (zag o_f2 X Tryz.underlying22)<|Y X X (zo X)<|U<|M<|zF ?_
 have st4 := st0.snoc
 have f5 := OSl.nil LEntry 120 h
 refine zX [3, 4, 5, 6, 7, 8, 9, 16, 17, 18, 19, 20, 21, 22, 23, 24, 25, 26, 27, 28, 29, 30, 31, 32, 33, 34, 35, 36, 37, 38, 39, 40, 41, 42, 43, 44, 45, 46, 47, 48, 49, 50, 51, 52, 53] (G := Nat × Value × List (Nat × Obj) × Heap) (fun ⟨i, v_3, o_3, h1⟩ => [(3, v_3), (16, .int .i64 (i : Int))]) (fun ⟨i, v_3, o_3, h1⟩ w' => Le h h1 ∧ St h w h1 w' [o_3] ∧ (OSl LEntry 120 h1 v_3 (((List.range i).flatMap (chapP o.text)).map (entryAt o.text o.lex)) o_3) ∧ (i ≤ o.text.chapters.length)) (fun ⟨i, v_3, o_3, h1⟩ => o.text.chapters.length - i) ⟨0, (.slice none 0 0), [], h⟩ ⟨rfl, rfl, trivial⟩ ⟨Le.refl _, st4, (OSl.to f5 (by rfl)), zak⟩ ?_
 rintro ⟨i, v_3, o_3, h1⟩ _ w6 ⟨le2, st3, hO_3, hi⟩
 refine zd<|O<|Y X X (zal X X)<|U<|M<|zd ?_
 refine zt rfl (fun c7 => ?_) (fun c7 => ?_)
 ·
  replace c7 := of_decide_eq_true c7
  refine zz<|M<|zd<|zF<|zd<|O<|Y X X (zo X) ?_
  have hc : ∃ y_, (o.text.chapters)[i]? = some y_ := ⟨_, List.getElem?_eq_getElem (by omega)⟩
  obtain ⟨c, hc⟩ := hc
  obtain ⟨b8, o9, _, he11, hc10, hr_c⟩ := Sl.elem (o_f2.up le2) hc
  obtain ⟨v12, rfl, f13⟩ := hr_c
  have f13_b := f13.le
  refine Y X X (zp he11 X X (hk := X) (hu := Tryz.underlying22) (hz := Tryz.sizeOf93))<|Y X X (zf st3.sub hc10 X Tryz.isAgg93 Tryz.sizeOf93 X)<|zO st3 Tryz.zeroValue93 X X ?_
  intro b14 w15 st16
  refine Y X X (zx X)<|zB st16 (k := 1) X X X (zg X (zg f13.one zU)) Tryz.sizeOf93 X X X ?_
  intro w17 st18
  obtain ⟨h19, le20, hb21, st23⟩ := st18.freeze (k := 1) rfl
  have hc22 := Cells.of hb21
  refine U ?_
  have q5 := linesAt_len ht i
  rw [linesAt_some hc] at q5
  refine M<|zd<|O<|Y X X (zc X Tryz.underlying93 X Tryz.sizeOf91 X)<|Y X X (zb (j := 1) st23.sub hc22 X X X Tryz.isAgg91)<|Y X X (zag (f13.up le20) X Tryz.underlying91)<|Y X X (zo X)<|U<|M<|zF ?_
  refine zX [3, 6, 7, 8, 9, 24, 25, 26, 27, 28, 29, 30, 31, 32, 33, 34, 35, 36, 37, 38, 39, 40, 41, 42, 43, 44, 45, 46, 47, 48, 49, 50, 51, 52] (G := Nat × Value × List (Nat × Obj) × Heap) (fun ⟨n, v_3, o_3, h24⟩ => [(3, v_3), (24, .int .i64 (n : Int))]) (fun ⟨n, v_3, o_3, h24⟩ w' => Le h19 h24 ∧ St h w h24 w' [o_3, []] ∧ (OSl LEntry 120 h24 v_3 (((List.range i).flatMap (chapP o.text) ++ (List.range n).flatMap (lineP o.text i)).map (entryAt o.text o.lex)) o_3) ∧ (n ≤ c.lines.length)) (fun ⟨n, v_3, o_3, h24⟩ => c.lines.length - n) ⟨0, v_3, o_3, h19⟩ ⟨rfl, rfl, trivial⟩ ⟨Le.refl _, st23, (OSl.to (hO_3.up le20) (by simp)), zak⟩ ?_
  rintro ⟨n, v_3, o_3, h24⟩ _ w27 ⟨le25, st26, hO_3, hn⟩
  refine zd<|O<|Y X X (zal X X)<|U<|M<|zd ?_
  refine zt rfl (fun c28 => ?_) (fun c28 => ?_)
  ·
   replace c28 := of_decide_eq_true c28
   refine zz<|M<|zd<|zF<|zd<|O<|Y X X (zo X) ?_
   have hln : ∃ y_, (c.lines)[n]? = some y_ := ⟨_, List.getElem?_eq_getElem (by omega)⟩
   obtain ⟨ln, hln⟩ := hln
   obtain ⟨b29, o30, _, he32, hc31, hr_ln⟩ := Sl.elem (f13.up (le20.trans le25)) hln
   obtain ⟨v33, rfl, f34⟩ := hr_ln
   have f34_b := f34.le
   refine Y X X (zp he32 X X (hk := X) (hu := Tryz.underlying91) (hz := Tryz.sizeOf33))<|Y X X (zb (j := 0) st26.sub hc31 X X X Tryz.isAgg33)<|Y X X (zx X)<|Y X X (zD (v := v33) X)<|U ?_
   have q4 := wordsAt_len ht i n
   rw [wordsAt_some hc hln] at q4
   refine M<|zd<|O<|Y X X (zy (v := v33) X)<|Y X X (zag f34 X Tryz.underlying33)<|Y X X (zo X)<|U<|M<|zF ?_
   refine zX [3, 8, 9, 31, 32, 33, 34, 35, 36, 37, 38, 39, 40, 41, 42, 43, 44, 45, 46, 47, 48, 49, 50, 51] (G := Nat × Value × List (Nat × Obj) × Heap) (fun ⟨m, v_3, o_3, h35⟩ => [(3, v_3), (31, .int .i64 (m : Int))]) (fun ⟨m, v_3, o_3, h35⟩ w' => Le h24 h35 ∧ St h w h35 w' [o_3, []] ∧ (OSl LEntry 120 h35 v_3 (((List.range i).flatMap (chapP o.text) ++ (List.range n).flatMap (lineP o.text i) ++ (List.range m).map (mkP i n)).map (entryAt o.text o.lex)) o_3) ∧ (m ≤ ln.length)) (fun ⟨m, v_3, o_3, h35⟩ => ln.length - m) ⟨0, v_3, o_3, h24⟩ ⟨rfl, rfl, trivial⟩ ⟨Le.refl _, st26, (OSl.to hO_3 (by simp)), zak⟩ ?_
   rintro ⟨m, v_3, o_3, h35⟩ _ w38 ⟨le36, st37, hO_3, hm⟩
   refine zd<|O<|Y X X (zal X X)<|U<|M<|zd ?_
   refine zt rfl (fun c39 => ?_) (fun c39 => ?_)
   ·
    replace c39 := of_decide_eq_true c39
    refine zz<|M<|zd<|zF<|zd<|O<|Y X X (zo X)<|Y X X (zx X)<|U<|M<|zd<|O<|Y X X (zo X)<|Y X X (zo X)<|Y X X (zo X)<|Y X X (r_build (cs := [.int .i64 (i : Int), .int .i64 (n : Int), .int .i64 (m : Int)]) t_kr)<|zO st37 Tryz.zeroValue52 X X ?_
    intro b40 w41 st42
    refine zB st42 (k := 2) X X X (zg X (zg X (zg X zU))) Tryz.sizeOf52 X X X ?_
    intro w43 st44
    obtain ⟨h45, le46, hb47, st49⟩ := st44.freeze (k := 2) rfl
    have hc48 := Cells.of hb47
    refine U<|M ?_
    have hp0 := place_mk (w := m) hc hln (by omega)
    have hhd := winD_ok ho.1 hp0
    simp only [mkP] at hp0 hhd
    have hwd : ∃ y_, (ln)[m]? = some y_ := ⟨_, List.getElem?_eq_getElem (by omega)⟩
    obtain ⟨wd, hwd⟩ := hwd
    obtain ⟨b50, o51, _, he53, hc52, hr_wd⟩ := Sl.elem (f34.up (le36.trans le46)) hwd
    obtain ⟨rfl, ls54⟩ := hr_wd
    simp only [big] at ls54
    refine zaa (er := ([], [3], [0], [], 0)) (dsts := [38, 39, 40, 41, 42, 43, 44, 45, 46, 47, 48, 49, 50, 3]) st49 Tryz.mixed<|zh 0 [] X t_kr t_kr X X (fun hD wD τD hL hS hO  => (zy (v := v_3) X))<|zh 1 [] X t_kr t_kr X X (fun hD wD τD hL hS hO  => (zf (hL.sub hS) hc48 X Tryz.isAgg52 Tryz.sizeOf52 X))<|zh 2 [] X t_kr t_kr X X (fun hD wD τD hL hS hO  => (zy (v := v33) X))<|zh 3 [] X t_kr t_kr X X (fun hD wD τD hL hS hO  => (zo X))<|zh 4 [1, 0] X t_kr t_kr X X (fun hD wD τD hL hS hO _ _ _ _ => (zp he53 X X (hk := X) (hu := Tryz.underlying33) (hz := Tryz.sizeOf9)))<|zh 5 [0] X t_kr t_kr X X (fun hD wD τD hL hS hO _ _ => (zb (j := 0) (hL.sub hS) hc52 X X X Tryz.isAgg9))<|zh 6 [] X t_kr t_kr X X (fun hD wD τD hL hS hO  => (r_mvP X))<|zh 7 [] X t_kr t_kr X X (fun hD wD τD hL hS hO  => (zf (hL.sub hS) hc48 X Tryz.isAgg52 Tryz.sizeOf52 X)) ?_
    refine zQ 8 (.det (.agg (List.toArray [.int .i64 ((winD (o).lex ((Place.mk ((i : Int)) ((n : Int)) ((m : Int)))) (wordD (o).text ((Place.mk ((i : Int)) ((n : Int)) ((m : Int)))))).number), .int .u8 ((winD (o).lex ((Place.mk ((i : Int)) ((n : Int)) ((m : Int)))) (wordD (o).text ((Place.mk ((i : Int)) ((n : Int)) ((m : Int)))))).kind), strV ((winD (o).lex ((Place.mk ((i : Int)) ((n : Int)) ((m : Int)))) (wordD (o).text ((Place.mk ((i : Int)) ((n : Int)) ((m : Int)))))).form), .int .i64 ((winD (o).lex ((Place.mk ((i : Int)) ((n : Int)) ((m : Int)))) (wordD (o).text ((Place.mk ((i : Int)) ((n : Int)) ((m : Int)))))).at_.chapter), .int .i64 ((winD (o).lex ((Place.mk ((i : Int)) ((n : Int)) ((m : Int)))) (wordD (o).text ((Place.mk ((i : Int)) ((n : Int)) ((m : Int)))))).at_.line), .int .i64 ((winD (o).lex ((Place.mk ((i : Int)) ((n : Int)) ((m : Int)))) (wordD (o).text ((Place.mk ((i : Int)) ((n : Int)) ((m : Int)))))).at_.word), strV ((winD (o).lex ((Place.mk ((i : Int)) ((n : Int)) ((m : Int)))) (wordD (o).text ((Place.mk ((i : Int)) ((n : Int)) ((m : Int)))))).to.stem), .int .u8 ((winD (o).lex ((Place.mk ((i : Int)) ((n : Int)) ((m : Int)))) (wordD (o).text ((Place.mk ((i : Int)) ((n : Int)) ((m : Int)))))).to.mark), .int .i64 ((winD (o).lex ((Place.mk ((i : Int)) ((n : Int)) ((m : Int)))) (wordD (o).text ((Place.mk ((i : Int)) ((n : Int)) ((m : Int)))))).of_)]))) [1, 0] rfl t_kr t_kr ?_ ?_
    ·
     intro hD wD τD hL hS hO _ _ _ _
     have st55 := St.start hS
     refine zm st55 rfl rfl rfl Tryz.call104 rfl (c_stem_office_wins st55.sub (o := o) (o_f0.up (((((le2.trans le20).trans le25).trans le36).trans le46).trans hL)) (o_f1.up (((((le2.trans le20).trans le25).trans le36).trans le46).trans hL)) (o_f2.up (((((le2.trans le20).trans le25).trans le36).trans le46).trans hL)) (o_f3.up (((((le2.trans le20).trans le25).trans le36).trans le46).trans hL)) (o_c.up (((((le2.trans le20).trans le25).trans le36).trans le46).trans hL)) (p := (Place.mk ((i : Int)) ((n : Int)) ((m : Int)))) (K0.up (((((le2.trans le20).trans le25).trans le36).trans le46).trans hL)) (by exact ho) (by exact hp0)) ?_
     intro r56 w57 h58 le59 st60 q61
     obtain rfl := q61
     exact U ⟨_, _, rfl, st60, (), rfl, trivial⟩
    refine zh 9 [0] X t_kr t_kr X X (fun hD wD τD hL hS hO _ _ => (r_fieldN (us := [strV ((winD (o).lex ((Place.mk ((i : Int)) ((n : Int)) ((m : Int)))) (wordD (o).text ((Place.mk ((i : Int)) ((n : Int)) ((m : Int)))))).to.stem), .int .u8 ((winD (o).lex ((Place.mk ((i : Int)) ((n : Int)) ((m : Int)))) (wordD (o).text ((Place.mk ((i : Int)) ((n : Int)) ((m : Int)))))).to.mark)]) X Tryz.underlying56 X Tryz.isAgg54 Tryz.sizeOf54 X X))<|zh 10 [8, 4, 0] X t_kr t_kr X X (fun hD wD τD hL hS hO _ _ _ _ _ _ => (r_build (cs := [.int .i64 (i : Int), .int .i64 (n : Int), .int .i64 (m : Int), strV wd, strV ((winD (o).lex ((Place.mk ((i : Int)) ((n : Int)) ((m : Int)))) (wordD (o).text ((Place.mk ((i : Int)) ((n : Int)) ((m : Int)))))).to.stem), .int .u8 ((winD (o).lex ((Place.mk ((i : Int)) ((n : Int)) ((m : Int)))) (wordD (o).text ((Place.mk ((i : Int)) ((n : Int)) ((m : Int)))))).to.mark)]) t_kr)) ?_
    refine zQ 11 (.res (fun h' res_ => Sl LEntry h' res_ ([(Entry.mk ((Place.mk ((i : Int)) ((n : Int)) ((m : Int)))) (wd) ((winD (o).lex ((Place.mk ((i : Int)) ((n : Int)) ((m : Int)))) (wordD (o).text ((Place.mk ((i : Int)) ((n : Int)) ((m : Int)))))).to))])) (fun _ _ _ hl f => f.up hl)) [0] rfl t_kr t_kr ?_ ?_
    ·
     intro hD wD τD hL hS hO _ _
     have st62 := St.start hS
     refine zV (L := LEntry) (xs := [(Entry.mk ((Place.mk ((i : Int)) ((n : Int)) ((m : Int)))) (wd) ((winD (o).lex ((Place.mk ((i : Int)) ((n : Int)) ((m : Int)))) (wordD (o).text ((Place.mk ((i : Int)) ((n : Int)) ((m : Int)))))).to))]) (cs := [.int .i64 (i : Int), .int .i64 (n : Int), .int .i64 (m : Int), strV wd, strV ((winD (o).lex ((Place.mk ((i : Int)) ((n : Int)) ((m : Int)))) (wordD (o).text ((Place.mk ((i : Int)) ((n : Int)) ((m : Int)))))).to.stem), .int .u8 ((winD (o).lex ((Place.mk ((i : Int)) ((n : Int)) ((m : Int)))) (wordD (o).text ((Place.mk ((i : Int)) ((n : Int)) ((m : Int)))))).to.mark)]) st62 (Enc.cons (L := LEntry) (vs := [.int .i64 (i : Int), .int .i64 (n : Int), .int .i64 (m : Int), strV wd, strV ((winD (o).lex ((Place.mk ((i : Int)) ((n : Int)) ((m : Int)))) (wordD (o).text ((Place.mk ((i : Int)) ((n : Int)) ((m : Int)))))).to.stem), .int .u8 ((winD (o).lex ((Place.mk ((i : Int)) ((n : Int)) ((m : Int)))) (wordD (o).text ((Place.mk ((i : Int)) ((n : Int)) ((m : Int)))))).to.mark)]) (x := (Entry.mk ((Place.mk ((i : Int)) ((n : Int)) ((m : Int)))) (wd) ((winD (o).lex ((Place.mk ((i : Int)) ((n : Int)) ((m : Int)))) (wordD (o).text ((Place.mk ((i : Int)) ((n : Int)) ((m : Int)))))).to))) (h := hD) (⟨rfl, zZ, zZ, t_u8⟩) Enc.nil) X X X Tryz.underlying117 Tryz.info120 X X X t_kr ?_
     intro v63 w64 h67 le68 f65 st66
     exact U ⟨_, _, rfl, st66, _, rfl, f65⟩
    refine zaf<|zaf<|zan X X X X X X ⟨t_kr, X, t_kr, X, t_kr, X, X, t_kr, (zY X (zY X cx_nil))⟩ ?_
    intro hE70 w71 _ le72 st73 _ _ gv11_0x69 gf11_0x69 _ _
    refine zP (k := 0) (nb := 64) st73 (hO_3.up (le46.trans le72)) rfl gf11_0x69 rfl rfl rfl Tryz.underlying117 Tryz.info120 rfl rfl rfl (by decide) rfl (by have q1 := flatMap_len (chapP_len ht) i; have q2 := flatMap_len (lineP_len ht i) n; have q3 := chapters_len ht; have q4 := wordsAt_len ht i n; have q5 := linesAt_len ht i; rw [linesAt_some hc] at q5; rw [wordsAt_some hc hln] at q4; simp only [List.length_append, List.length_map, List.length_range, List.length_cons, List.length_nil]; omega) (by have q1 := flatMap_len (chapP_len ht) i; have q2 := flatMap_len (lineP_len ht i) n; have q3 := chapters_len ht; have q4 := wordsAt_len ht i n; have q5 := linesAt_len ht i; rw [linesAt_some hc] at q5; rw [wordsAt_some hc hln] at q4; simp only [List.length_append, List.length_map, List.length_range, List.length_cons, List.length_nil]; omega) ?_
    intro v74 o75 w76 _ e77 f78 st79
    subst e77
    refine U ⟨_, rfl, _, _, Le.refl _, st79, ?_⟩
    intro hE81 w82 _ le83 st84 _ _ _ _ _ _ _ _ _ _ _ _ _ _ _ _ _ _ _ _ _ _ gv11_0x80 gf11_0x80
    refine Y X X (zD (v := v74) X) ?_
    refine U ⟨_, rfl, _, _, Le.refl _, st84, ?_⟩
    intro hE85 w86 _ le87 st88 _ _ _ _ _ _ _ _ _ _ _ _ _ _ _ _ _ _ _ _ _ _ gv11_0x89 gf11_0x89
    refine AllDeps.fin X<|zI<|M<|O<|Y X X (zah X X t_om)<|Y X X (zo X)<|U<|M ?_
    refine ⟨⟨m + 1, v74, o75, hE85⟩, ⟨rfl, rfl, trivial⟩, ?_, ⟨((((le36.trans le46).trans le72).trans le83).trans le87), st88.take 2, ?_, ?_⟩, ?_⟩
    ·exact zae
    ·refine OSl.to (f78.up (le83.trans le87)) ?_
     have hww := word_mk hc hln hwd
     simp only [mkP] at hww
     rw [List.range_succ]; simp only [List.map_append, List.append_assoc, List.map_cons, List.map_nil, entryAt, headAt, mkP, hww]
    ·first | omega | (simp; omega)
    ·show ln.length - ((m + 1)) < ln.length - m
     omega
   ·
    replace c39 := of_decide_eq_false c39
    refine zab<|zn<|zn<|zT<|zI<|M<|O<|Y X X (zah X X t_om)<|Y X X (zo X)<|U<|M ?_
    refine ⟨⟨n + 1, v_3, o_3, h35⟩, ⟨rfl, rfl, trivial⟩, ?_, ⟨(le25.trans le36), st37, ?_, ?_⟩, ?_⟩
    ·exact zae
    ·refine OSl.to hO_3 ?_
     rw [range_flat_succ, ← lineP_snoc hc hln (w := m) (by omega), List.append_assoc]
    ·first | omega | (simp; omega)
    ·show c.lines.length - ((n + 1)) < c.lines.length - n
     omega
  ·
   replace c28 := of_decide_eq_false c28
   refine zab<|zn<|zn<|zT<|zI<|M<|O<|Y X X (zah X X t_om)<|Y X X (zo X)<|U<|M ?_
   refine ⟨⟨i + 1, v_3, o_3, h24⟩, ⟨rfl, rfl, trivial⟩, ?_, ⟨((le2.trans le20).trans le25), st26.take 1, ?_, ?_⟩, ?_⟩
   ·exact zae
   ·refine OSl.to hO_3 ?_
    rw [range_flat_succ, ← chapP_snoc hc (n := n) (by omega)]
   ·first | omega | (simp; omega)
   ·show o.text.chapters.length - ((i + 1)) < o.text.chapters.length - i
    omega
 ·
  replace c7 := of_decide_eq_false c7
  refine zab<|zn<|zn<|zT<|M<|zd<|O<|Y X X (zy (v := v_3) X)<|Y X X (zD (v := v_3) X)<|U<|M<|zA<|zi Tryz.results56 ?_
  refine ⟨h1, _, _, rfl, le2, st3, OSl.to hO_3 ?_⟩
  rw [show i = o.text.chapters.length by omega]; rfl
end Go.Pk

namespace Go.Pk
open Go Go.RowKit Go.Proofs
set_option maxRecDepth 4000 in
theorem c_slices_Equal_Lstem_entry_stem_entry {h : Heap} {w : World} (hs : Sub h w) {a_v : Value} {a : (List Entry)} (a_f : Sl LEntry h a_v a) {b_v : Value} {b : (List Entry)} (b_f : Sl LEntry h b_v b) : Calls Tryz.prog 65 #[a_v, b_v] w (Rets h w (fun _ _ res_ => res_ = .bool (decide (a = b)))) := by
 refine zM (n := 26) (args := [a_v, b_v]) Tryz.func65 X X X ?_
 have st0 : St h w h w [] := St.start hs
 have a_f_b := a_f.le
 have b_f_b := b_f.le
 refine zd<|O<|Y X X (zJ X)<|U<|M<|zd<|zd<|O<|Y X X (zy (v := a_v) X)<|Y X X (zag a_f X Tryz.underlying117)<|Y X X (zy (v := b_v) X)<|Y X X (zag b_f X Tryz.underlying117)<|Y X X (r_neq X X)<|U<|M ?_
 refine zt rfl (fun c1 => ?_) (fun c1 => ?_)
 ·
  replace c1 := of_decide_eq_true c1
  refine zd<|O<|Y X X (zJ X)<|U<|M<|zA<|zk<|zi Tryz.results65 ?_
  refine ⟨h, _, rfl, st0.done, ?_⟩
  refine zw ?_
  have q : a ≠ b := by
   rintro rfl
   simp_all
  simp [q]
 ·
  replace c1 := of_decide_eq_false c1
  refine zz<|M<|zd<|zd<|O<|Y X X (zy (v := a_v) X)<|Y X X (zag a_f X Tryz.underlying117)<|Y X X (zo X)<|U<|M<|zF ?_
  refine zX [4, 5, 13, 14, 15, 16, 17, 18, 19, 20, 21, 22, 23, 24, 25] (G := Nat × Heap) (fun ⟨k, h2⟩ => [(13, .int .i64 (k : Int))]) (fun ⟨k, h2⟩ w' => Le h h2 ∧ St h w h2 w' [] ∧ (k ≤ a.length) ∧ (a.take k = b.take k)) (fun ⟨k, h2⟩ => a.length - k) ⟨0, h⟩ ⟨rfl, trivial⟩ ⟨Le.refl _, st0, zak, zak⟩ ?_
  rintro ⟨k, h2⟩ _ w5 ⟨le3, st4, hk, he⟩
  refine zd<|O<|Y X X (zal X X)<|U<|M<|zd ?_
  refine zt rfl (fun c6 => ?_) (fun c6 => ?_)
  ·
   replace c6 := of_decide_eq_true c6
   refine zz<|M<|zd<|zF<|zd<|O<|Y X X (zo X)<|Y X X (zx X)<|U<|M<|zd<|zai Tryz.mixed t_kr (Cls h2 _) (Cls.drew st4)<|ze X X (fun _ _ => (zy (v := a_v) X))<|ze X X (fun _ _ => (zo X)) ?_
   have hx : ∃ y_, (a)[k]? = some y_ := ⟨_, List.getElem?_eq_getElem (by omega)⟩
   obtain ⟨x, hx⟩ := hx
   obtain ⟨b7, o8, _, he10, hc9, hr_x⟩ := Sl.elem (a_f.up le3) hx
   obtain ⟨rfl, ls11, ls12, lu13⟩ := hr_x
   simp only [big] at ls11
   simp only [big] at ls12
   refine ze X X (fun _ _ => (zp he10 X X (hk := X) (hu := Tryz.underlying117) (hz := Tryz.sizeOf120)))<|ze X X (fun _ hC => (zf hC.sub hc9 X Tryz.isAgg120 Tryz.sizeOf120 X))<|ze X X (fun _ _ => (zy (v := b_v) X))<|ze X X (fun _ _ => (zo X)) ?_
   have hy : ∃ y_, (b)[k]? = some y_ := ⟨_, List.getElem?_eq_getElem (by omega)⟩
   obtain ⟨y, hy⟩ := hy
   obtain ⟨b14, o15, _, he17, hc16, hr_y⟩ := Sl.elem (b_f.up le3) hy
   obtain ⟨rfl, ls18, ls19, lu20⟩ := hr_y
   simp only [big] at ls18
   simp only [big] at ls19
   refine ze X X (fun _ _ => (zp he17 X X (hk := X) (hu := Tryz.underlying117) (hz := Tryz.sizeOf120)))<|ze X X (fun _ hC => (zf hC.sub hc16 X Tryz.isAgg120 Tryz.sizeOf120 X))<|ze X X (fun _ _ => (r_stneq X X Tryz.eqGuardType120 (Tryz.eq_Entry x y)))<|zac ?_
   rintro w21 ⟨h22, s23⟩
   have st24 := st4.call0 s23
   refine M ?_
   refine zt rfl (fun c25 => ?_) (fun c25 => ?_)
   ·
    replace c25 := of_decide_eq_true c25
    refine zd<|O<|Y X X (zJ X)<|U<|M<|zA<|zL<|zk<|zk<|zL<|zk<|zi Tryz.results65 ?_
    refine ⟨h22, _, rfl, st24.done, ?_⟩
    refine zw ?_
    have q := ne_of_get hx hy (by simpa using c25)
    simp [q]
   ·
    replace c25 := of_decide_eq_false c25
    refine zz<|zI<|M<|O<|Y X X (zah X X t_om)<|Y X X (zo X)<|U<|M ?_
    refine ⟨⟨k + 1, h22⟩, ⟨rfl, trivial⟩, ?_, ⟨(le3.trans s23.le), st24, ?_, ?_⟩, ?_⟩
    ·exact zae
    ·first | omega | (simp; omega)
    ·exact eq_take_succ he hx hy (by simpa using c25)
    ·show a.length - ((k + 1)) < a.length - k
     omega
  ·
   replace c6 := of_decide_eq_false c6
   refine zab<|zn<|zn<|zT<|M<|zd<|O<|Y X X (zJ X)<|U<|M<|zA<|zi Tryz.results65 ?_
   refine ⟨h2, _, rfl, st4.done, ?_⟩
   refine zw ?_
   have q := eq_of_take he (by omega) (by omega)
   simp [q]
set_option maxRecDepth 4000 in
theorem c_slices_Delete_Lapi_Decision_api_Decision {h0 h : Heap} {w0 w : World} {rest : Own} {s : (List Decision)} {s_o : List (Nat × Obj)} {s_v : Value} (s_f : OSl LDecision 56 h s_v s s_o) (i : Int) (j : Int) {m n : Nat} (hi : i = (m : Int)) (hj : j = (n : Int)) (hmn : m ≤ n) (hn : n ≤ s.length) (st0 : St h0 w0 h w (s_o :: rest)) : Calls Tryz.prog 63 #[s_v, .int .i64 i, .int .i64 j] w (fun e_ w' => ∃ h' s_o' v', e_ = .returned v' ∧ Le h h' ∧ St h0 w0 h' w' (s_o' :: rest) ∧ OSl LDecision 56 h' v' (s.take m ++ s.drop n) s_o') := by
 refine zM (n := 33) (args := [s_v, .int .i64 i, .int .i64 j]) Tryz.func63 X X X<|zd<|O<|Y X X (r_asL X)<|U<|M<|zd<|O<|Y X X (zy (v := s_v) X)<|Y X X (zo X)<|Y X X (zo X)<|Y X X (zy (v := s_v) X)<|Y X X (r_len_own s_f X Tryz.underlying26) ?_
 obtain ⟨p1, c2, hv3⟩ := s_f.form
 have hc4 := (s_f.cap hv3).2
 refine Y rfl rfl (r_slice_lhm_own hv3 rfl rfl rfl rfl (show _ = ((m : Nat) : Int) by omega) (show _ = ((n : Nat) : Int) by omega) (show _ = ((s.length : Nat) : Int) by omega) (by omega) (by omega) (by omega) Tryz.underlying26 Tryz.sizeOf56) ?_
 refine U<|M<|zd<|zd<|O<|Y X X (zo X)<|Y X X (zo X)<|Y X X (r_eql X X)<|U<|M ?_
 refine zt rfl (fun c5 => ?_) (fun c5 => ?_)
 ·
  replace c5 := of_decide_eq_true c5
  refine zd<|O<|Y X X (zy (v := s_v) X)<|Y X X (zD (v := s_v) X)<|U<|M<|zA<|zk<|zi Tryz.results63 ?_
  refine ⟨h, _, _, rfl, (Le.refl _), st0, OSl.to s_f ?_⟩
  obtain rfl : m = n := by have q := c5; omega
  rw [List.take_append_drop]
 ·
  replace c5 := of_decide_eq_false c5
  refine zz<|M<|zd<|O<|Y X X (zy (v := s_v) X)<|Y X X (r_len_own s_f X Tryz.underlying26)<|Y X X (zx X)<|U<|M<|zd ?_
  have f6 := OSl.take s_f (k := m) (by omega)
  refine zaa (er := ([], [0], [0, 3], [], 0)) (dsts := [20, 21, 22, 23, 24, 25, 26, 0]) st0 Tryz.mixed<|zh 0 [] X t_kr t_kr X X (fun hD wD τD hL hS hO  => (zy (v := s_v) X))<|zh 1 [] X t_kr t_kr X X (fun hD wD τD hL hS hO  => (zo X)) ?_
  refine zh 2 [1, 0] rfl t_kr t_kr rfl rfl (fun hD wD τD hL hS hO _ _ _ _ => (r_slice_to_own s_f rfl rfl (hk := (show _ = ((m : Nat) : Int) by omega)) (by omega) Tryz.underlying26 Tryz.sizeOf56)) ?_
  refine zh 3 [] X t_kr t_kr X X (fun hD wD τD hL hS hO  => (zy (v := s_v) X))<|zh 4 [] X t_kr t_kr X X (fun hD wD τD hL hS hO  => (zo X)) ?_
  refine zh 5 [1, 0] rfl t_kr t_kr rfl rfl (fun hD wD τD hL hS hO _ _ _ _ => (r_slice_from_own s_f rfl rfl (hk := (show _ = ((n : Nat) : Int) by omega)) (by omega) Tryz.underlying26 Tryz.sizeOf56)) ?_
  refine zaf<|zaf<|zan X X X X X X ⟨t_kr, X, t_kr, X, t_kr, X, X, t_kr, (zY X (zY X cx_nil))⟩ ?_
  intro hE8 w9 _ le10 st11 _ _ _ _
  refine OpsL.appendSelf (k := 0) (i := m) (j := n) st11 (s_f.up le10) rfl (by omega) (by omega) rfl rfl rfl Tryz.underlying26 Tryz.info56 rfl (by decide) ?_
  intro o12 w13 _ e14 f15 st16
  subst e14
  refine U ⟨_, rfl, _, _, Le.refl _, st16, ?_⟩
  intro hE18 w19 _ le20 st21 _ _ _ _ _ _ _ _ _ _ _ _
  refine Y X X (zD (v := (vtake s_v (m + (s.length - n)))) X) ?_
  refine U ⟨_, rfl, _, _, Le.refl _, st21, ?_⟩
  intro hE22 w23 _ le24 st25 _ _ _ _ _ _ _ _ _ _ _ _
  refine AllDeps.fin X<|M<|zd<|O<|Y X X (zy (v := (vtake s_v (m + (s.length - n)))) X)<|Y X X (zy (v := (vtake s_v (m + (s.length - n)))) X)<|Y X X (r_len_own (f15.up (le20.trans le24)) X Tryz.underlying26)<|Y X X (zo X) ?_
  obtain ⟨p27, c28, hv29⟩ := (f15.up (le20.trans le24)).form
  have hc30 := ((f15.up (le20.trans le24)).cap hv29).2
  have hc2 : s.length ≤ c28 := vtake_caps s_f _ _ _ _ hv29
  refine Y rfl rfl (r_slice_lh_own hv29 rfl rfl rfl (show _ = (((s.take m ++ s.drop n).length : Nat) : Int) by omega) (show _ = ((s.length : Nat) : Int) by omega) (by first | omega | (simp only [List.length_append, List.length_take, List.length_drop]; omega)) (by first | omega | (simp only [List.length_append, List.length_take, List.length_drop]; omega)) Tryz.underlying26 Tryz.sizeOf56) ?_
  refine OpsL.clearSub (k := 0) (l := (s.take m ++ s.drop n).length) (m := s.length) st25 (f15.up (le20.trans le24)) rfl (by first | omega | (simp only [List.length_append, List.length_take, List.length_drop]; omega)) (by intro p_ n_ c_ e_; exact vtake_caps s_f _ _ _ _ e_) rfl Tryz.underlying26 Tryz.zeroValue56 rfl (by decide) ?_
  intro o31 w32 _ e33 f34 st36
  subst e33
  have f35 := (f34 _ (by first | omega | (simp only [List.length_append, List.length_take, List.length_drop]; omega)) (Nat.le_refl _)).retake (f15.up (le20.trans le24)).form
  refine U<|M<|zd<|O<|Y X X (zy (v := (vtake s_v (m + (s.length - n)))) X)<|Y X X (zD (v := (vtake s_v (m + (s.length - n)))) X)<|U<|M<|zA<|zi Tryz.results63 ?_
  refine ⟨hE22, _, _, rfl, ((le10.trans le20).trans le24), st36, OSl.to f35 ?_⟩
  rfl
end Go.Pk

namespace Go.Pk
open Go Go.RowKit Go.Proofs
set_option maxRecDepth 4000 in
theorem c_stem_Homographs {h : Heap} {w : World} (hs : Sub h w) {t : Text} {t_v0 : Value} (t_f0 : Sl LChapter h t_v0 t.chapters) {x : Lexicon} {x_v0 : Value} (x_f0 : Sl LRule h x_v0 x.rules) {x_v1 : Value} (x_f1 : Sl LDecision h x_v1 x.decisions) (K0 : Cells h 0 0 Tryz.glob0) : Calls Tryz.prog 20 #[.agg #[t_v0], .agg #[x_v0, x_v1]] w (Rets h w (fun h' _ res_ => ∃ u0, res_ = .tuple #[u0, .int .i64 (checkN t x)] ∧ Sl LStr h' u0 ((homR t x)))) := by
 refine zM (n := 60) (args := [.agg #[t_v0], .agg #[x_v0, x_v1]]) Tryz.func20 X X X ?_
 have st0 : St h w h w [] := St.start hs
 have t_f0_b := t_f0.le
 have x_f0_b := x_f0.le
 have x_f1_b := x_f1.le
 refine zd<|O<|zr st0 (cs := [t_v0]) X X X ?_
 intro b1 w2 h3 le4 hc5 st6
 refine zr st6 (cs := [x_v0, x_v1]) X X X ?_
 intro b7 w8 h9 le10 hc11 st12
 refine Y X X (r_asL X)<|Y X X (zx X)<|U<|M<|zd<|O<|Y X X (zf st12.sub (hc5.up le10) X Tryz.isAgg24 Tryz.sizeOf24 X)<|Y X X (zf st12.sub hc11 X Tryz.isAgg28 Tryz.sizeOf28 X)<|zm st12 X X X Tryz.call40 X (c_stem_open st12.sub (t := t) (t_f0.up (le4.trans le10)) (x := x) (x_f0.up (le4.trans le10)) (x_f1.up (le4.trans le10)) (K0.up (le4.trans le10))) ?_
 intro r13 w14 h15 le16 st17 q18
 rcases Bool.eq_false_or_eq_true (decide (checkN (t) (x) = 0)) with hb19 | hb19
 ·
  simp only [hb19, if_true, if_false, Bool.false_eq_true, reduceIte] at q18
  obtain ⟨v20, rfl, f21⟩ := q18
  obtain ⟨b22, vs23, rfl, hc24, hr25⟩ := f21
  obtain ⟨v26, v28, v30, v32, rfl, f27, f29, f31, lm33⟩ := hr25
  have f27_b := f27.le
  have f29_b := f29.le
  have f31_b := f31.le
  refine Y X X (r_mvT X)<|Y X X (zH (v := (.pointer (some _))) X X)<|Y X X (zH (v := (.int _ _)) X X)<|Y X X (r_asP X)<|Y X X (zx X)<|U<|M<|zd<|zd<|O<|Y X X (zo X)<|Y X X (r_neq X X)<|U<|M ?_
  refine zt rfl (fun c34 => ?_) (fun c34 => ?_)
  ·
   replace c34 := of_decide_eq_true c34
   refine zd<|O<|Y X X (zo X)<|Y X X (r_asL X)<|Y X X (zx X)<|U<|M<|zA<|zk<|zS Tryz.results20 ?_
   refine ⟨h15, _, rfl, st17.done, ?_⟩
   refine ⟨_, tup2 rfl (zW ?_), Sl.to (Sl.nil _ _) ?_⟩
   all_goals simp_all [homR]
  ·
   replace c34 := of_decide_eq_false c34
   refine zz<|M<|zd ?_
   have hx0 : checkN t x = 0 := by simpa using c34
   have hel := entries_len (check_text hx0) x
   refine O<|OpsL.makeMap (κ := Str) (υ := Head) (ek := strV) (eu := (fun x : Head => .agg [strV x.stem, .int .u8 x.mark].toArray)) st17 X ?_
   intro v35 o36 w37 f38 st39
   obtain ⟨mb40, rfl⟩ := f38.form
   have nd41 : (([] : List (Str × Head)).map (·.1)).Nodup := by simp
   refine Y X X (zD (v := (.map (some mb40))) X)<|U<|M<|zd<|O<|Y X X (r_asL X)<|U<|M<|zd<|zd<|O<|Y X X (r_mvP X) ?_
   refine zm st39 rfl rfl rfl Tryz.call56 rfl (c_stem_office_entries st39.sub (o := (Office.mk (x) (t) (standM (x)))) f27 f29 f31 lm33 hc24 (K0.up ((le4.trans le10).trans le16)) (by exact ⟨hx0, rfl⟩)) ?_
   intro r42 w43 h44 le45 st46 q47
   obtain ⟨v48, e50, f49⟩ := q47
   rw [← e50] at f49
   have f49_b := f49.le
   have f51 := Sl.to f49 (show _ = (entriesL t x) from rfl)
   have f51_b := f51.le
   refine Y X X (zag f51 X Tryz.underlying117)<|Y X X (zo X)<|U<|M<|zF ?_
   have st55 := st46.snoc
   have f56 := OSl.nil LStr 9 h44
   refine zX [9, 11, 12, 13, 27, 28, 29, 30, 31, 32, 33, 34, 35, 36, 37, 38, 39, 40, 41, 42, 43, 44, 45, 46, 47, 48, 49, 50, 51, 52, 53, 54, 55] (G := Nat × List (Str × Head) × Value × List (Nat × Obj) × List (Nat × Obj) × Heap) (fun ⟨i, m, v_9, o_9, o_8, h52⟩ => [(9, v_9), (27, .int .i64 (i : Int))]) (fun ⟨i, m, v_9, o_9, o_8, h52⟩ w' => Le h44 h52 ∧ St h w h52 w' [o_8, o_9] ∧ (OSl LStr 9 h52 v_9 (homsN (entriesL t x) i) o_9) ∧ (OM strV (fun x : Head => .agg [strV x.stem, .int .u8 x.mark].toArray) (m) o_8 (.map (some mb40))) ∧ (((m).map (·.1)).Nodup) ∧ (i ≤ (entriesL t x).length) ∧ (∀ wd, look m wd = hdFirst ((entriesL t x).take i) wd)) (fun ⟨i, m, v_9, o_9, o_8, h52⟩ => (entriesL t x).length - i) ⟨0, [], (.slice none 0 0), [], o36, h44⟩ ⟨rfl, rfl, trivial⟩ ⟨Le.refl _, st55, (OSl.to f56 (by rfl)), (by have q := f38; exact q), (by have q := nd41; exact q), zak, (by intro wd; rfl)⟩ ?_
   rintro ⟨i, m, v_9, o_9, o_8, h52⟩ _ w57 ⟨le53, st54, hO_9, hM_8, hN_8, hi, hm⟩
   refine zd<|O<|Y X X (zal X X)<|U<|M<|zd ?_
   refine zt rfl (fun c58 => ?_) (fun c58 => ?_)
   ·
    replace c58 := of_decide_eq_true c58
    refine zz<|M<|zd<|zF<|zd<|O ?_
    have hy : ∃ y_, ((entriesL t x))[i]? = some y_ := ⟨_, List.getElem?_eq_getElem (by omega)⟩
    obtain ⟨y, hy⟩ := hy
    obtain ⟨b59, o60, _, he62, hc61, hr_y⟩ := Sl.elem (f51.up le53) hy
    obtain ⟨rfl, ls63, ls64, lu65⟩ := hr_y
    simp only [big] at ls63
    simp only [big] at ls64
    refine Y X X (zp he62 X X (hk := X) (hu := Tryz.underlying117) (hz := Tryz.sizeOf120))<|Y X X (zf st54.sub hc61 X Tryz.isAgg120 Tryz.sizeOf120 X)<|zO st54 Tryz.zeroValue120 X X ?_
    intro b66 w67 st68
    refine zB st68 (k := 2) X X X (zg X (zg X (zg X (zg X (zg X (zg X zU)))))) Tryz.sizeOf120 X X X ?_
    intro w69 st70
    obtain ⟨h71, le72, hb73, st75⟩ := st70.freeze (k := 2) rfl
    have hc74 := Cells.of hb73
    refine U<|M<|zd<|O<|Y X X (zy (v := (.map (some mb40))) X)<|Y X X (zc X Tryz.underlying120 X Tryz.sizeOf9 X)<|Y X X (zb (j := 3) st75.sub hc74 X X X Tryz.isAgg9)<|Y X X (r_look_ok (k := (y.word)) (zu := zHead) (key_str Tryz.underlying9) Tryz.underlying116 hM_8 (st75.ent (k := 0) X) Tryz.zeroValue54 X X X)<|Y X X (r_mvT X)<|Y X X (zH (v := (.agg (List.toArray _))) X X)<|Y X X (zH (v := (.bool _)) X X)<|zO st75 Tryz.zeroValue54 X X ?_
    intro b76 w77 st78
    refine zB st78 (k := 3) X X X (zg X (zg X zU)) Tryz.sizeOf54 X X X ?_
    intro w79 st80
    obtain ⟨h81, le82, hb83, st85⟩ := st80.freeze (k := 3) rfl
    have hc84 := Cells.of hb83
    refine Y X X (zJ X)<|U<|M<|zd<|O<|Y X X (zN X)<|Y X X (zN X) ?_
    refine zG (d := 39) rfl (fun g86 => ?_) (fun g86 => ?_)
    ·
     refine za X X (d := 39) X<|Y X X (zf st85.sub hc84 X Tryz.isAgg54 Tryz.sizeOf54 X)<|za X X (d := 39) X<|Y X X (zc X Tryz.underlying120 X Tryz.sizeOf54 X)<|za X X (d := 39) X<|Y X X (zR (j := 4) st85.sub (hc74.up le82) (us := [strV (y.head.stem), .int .u8 (y.head.mark)]) X X Tryz.isAgg54 Tryz.sizeOf54 X X)<|za X X (d := 39) X<|Y X X (r_stneq X X Tryz.eqGuardType54 (Tryz.eq_Head ((look m (y.word)).getD zHead) y.head))<|Y X X (zK (v := (.bool _)) X X)<|U<|M ?_
     refine zt rfl (fun c87 => ?_) (fun c87 => ?_)
     ·
      replace c87 := of_decide_eq_true c87
      refine O<|Y X X (zy (v := v_9) X)<|Y X X (zc X Tryz.underlying120 X Tryz.sizeOf9 X)<|Y X X (zb (j := 3) st85.sub (hc74.up le82) X X X Tryz.isAgg9)<|zV (L := LStr) (xs := [(y.word)]) (cs := [strV (y.word)]) st85 (Enc.cons (L := LStr) (vs := [strV (y.word)]) (x := (y.word)) (h := h81) (⟨rfl, zZ⟩) Enc.nil) X X X Tryz.underlying33 Tryz.info9 X X X t_kr ?_
      intro v88 w89 h92 le93 f90 st91
      refine zP (k := 1) (nb := 16) st91 (hO_9.up ((le72.trans le82).trans le93)) rfl f90 rfl rfl rfl Tryz.underlying33 Tryz.info9 rfl rfl rfl (by decide) rfl (by have q := homsN_len (entriesL t x) i; simp only [List.length_append, List.length_cons, List.length_nil]; omega) (by have q := homsN_len (entriesL t x) i; simp only [List.length_append, List.length_cons, List.length_nil]; omega) ?_
      intro v94 o95 w96 _ e97 f98 st99
      subst e97
      refine Y X X (zD (v := v94) X)<|U<|zI<|M<|O<|Y X X (zah X X t_om)<|Y X X (zo X)<|U<|M ?_
      refine ⟨⟨i + 1, m, v94, o95, o_8, h92⟩, ⟨rfl, rfl, trivial⟩, ?_, ⟨(((le53.trans le72).trans le82).trans le93), st99.take 2, ?_, ?_, ?_, ?_, ?_⟩, ?_⟩
      ·exact zae
      ·refine OSl.to f98 ?_
       rw [homsN_succ hy, homAt_yes hm g86 (by simpa using c87)]
      ·have q := hM_8
       exact q
      ·have q := hN_8
       exact q
      ·first | omega | (simp; omega)
      ·exact hom_keep hy hm g86
      ·show (entriesL t x).length - ((i + 1)) < (entriesL t x).length - i
       omega
     ·
      replace c87 := of_decide_eq_false c87
      refine O<|Y X X (zy (v := (.map (some mb40))) X)<|Y X X (zc X Tryz.underlying120 X Tryz.sizeOf9 X)<|Y X X (zb (j := 3) st85.sub (hc74.up le82) X X X Tryz.isAgg9)<|Y X X (zc X Tryz.underlying120 X Tryz.sizeOf54 X)<|Y X X (zR (j := 4) st85.sub (hc74.up le82) (us := [strV (y.head.stem), .int .u8 (y.head.mark)]) X X Tryz.isAgg54 Tryz.sizeOf54 X X)<|OpsL.mapUpdate (i := 0) st85 hM_8 X hN_8 (key_str Tryz.underlying9) Tryz.underlying116 X (k := (y.word)) X (u := y.head) X ?_
      intro o100 w101 _ e102 f103 nd104 st105
      subst e102
      refine U<|zI<|M<|O<|Y X X (zah X X t_om)<|Y X X (zo X)<|U<|M ?_
      refine ⟨⟨i + 1, (putM m y.word y.head), v_9, o_9, o100, h81⟩, ⟨rfl, rfl, trivial⟩, ?_, ⟨((le53.trans le72).trans le82), st105.take 2, ?_, ?_, ?_, ?_, ?_⟩, ?_⟩
      ·exact zae
      ·refine OSl.to (hO_9.up (le72.trans le82)) ?_
       rw [homsN_succ hy, homAt_no hm (fun _ => by simpa using c87), List.append_nil]
      ·have q := f103
       exact q
      ·have q := nd104
       exact q
      ·first | omega | (simp; omega)
      ·exact hom_put hy hm (fun _ => by simpa using c87)
      ·show (entriesL t x).length - ((i + 1)) < (entriesL t x).length - i
       omega
    ·
     refine E X X (d := 39) X X X<|E X X (d := 39) X X X<|E X X (d := 39) X X X<|E X X (d := 39) X X X<|Y X X (zC (v := (.bool _)) X X)<|U<|M ?_
     refine zt rfl (fun c106 => ?_) (fun c106 => ?_)
     ·
      cases c106
     ·
      refine O<|Y X X (zy (v := (.map (some mb40))) X)<|Y X X (zc X Tryz.underlying120 X Tryz.sizeOf9 X)<|Y X X (zb (j := 3) st85.sub (hc74.up le82) X X X Tryz.isAgg9)<|Y X X (zc X Tryz.underlying120 X Tryz.sizeOf54 X)<|Y X X (zR (j := 4) st85.sub (hc74.up le82) (us := [strV (y.head.stem), .int .u8 (y.head.mark)]) X X Tryz.isAgg54 Tryz.sizeOf54 X X)<|OpsL.mapUpdate (i := 0) st85 hM_8 X hN_8 (key_str Tryz.underlying9) Tryz.underlying116 X (k := (y.word)) X (u := y.head) X ?_
      intro o107 w108 _ e109 f110 nd111 st112
      subst e109
      refine U<|zI<|M<|O<|Y X X (zah X X t_om)<|Y X X (zo X)<|U<|M ?_
      refine ⟨⟨i + 1, (putM m y.word y.head), v_9, o_9, o107, h81⟩, ⟨rfl, rfl, trivial⟩, ?_, ⟨((le53.trans le72).trans le82), st112.take 2, ?_, ?_, ?_, ?_, ?_⟩, ?_⟩
      ·exact zae
      ·refine OSl.to (hO_9.up (le72.trans le82)) ?_
       rw [homsN_succ hy, homAt_no hm (fun q => by rw [g86] at q; cases q), List.append_nil]
      ·have q := f110
       exact q
      ·have q := nd111
       exact q
      ·first | omega | (simp; omega)
      ·exact hom_put hy hm (fun q => by rw [g86] at q; cases q)
      ·show (entriesL t x).length - ((i + 1)) < (entriesL t x).length - i
       omega
   ·
    replace c58 := of_decide_eq_false c58
    refine zab<|zn<|zn<|zT<|M<|zd<|O<|Y X X (zy (v := v_9) X) ?_
    have con := sort1 (L := LStr) (T := 9) (f := 57) strV (by rintro _ _ _ ⟨rfl, _⟩; rfl) rfl (fun l => l.mergeSort fun a b => decide (a ≤ b)) (fun l => List.mergeSort_perm _ _) (fun blk off cap zs w hH hb hs => Tryz.slices_Sort_string blk off cap zs w hH hb hs) (fun p cap w => Tryz.slices_Sort_string_none p cap w) (i := 1) st54 hO_9 rfl (by have q := homsN_len (entriesL t x) i; first | omega | (simp only [List.length_mergeSort]; omega))
    refine zad rfl rfl (zaj rfl Tryz.call57 rfl) (con.mono ?_)
    rintro _ w113 ⟨rfl, o114, _, e115, f116, st117⟩
    subst e115
    refine ⟨_, rfl, ?_⟩
    clear con
    refine U<|M<|zd<|O<|Y X X (zy (v := v_9) X) ?_
    have st125 := st117.sublist (own' := [o114]) (.cons _ (.cons_cons _ (.slnil)))
    have con := c_slices_Compact_Lstring_string (rest := []) f116 (by have q := homsN_len (entriesL t x) i; first | omega | (simp only [List.length_mergeSort]; omega)) st125
    refine zad rfl rfl (zaj rfl Tryz.call58 rfl) (con.mono ?_)
    rintro _ w118 ⟨h119, o120, v121, rfl, le122, st123, f124⟩
    refine ⟨_, rfl, ?_⟩
    clear con
    have f126 := OSl.to f124 (show _ = (setL sLt (homsN (entriesL t x) (entriesL t x).length)) from by rw [show i = (entriesL t x).length by omega]; exact setOf_sort _)
    refine Y X X (zD (v := v121) X)<|Y X X (zx X)<|U<|M<|zA<|zS Tryz.results20 ?_
    obtain ⟨h127, le128, f129, st130⟩ := OSl.freeze (k := 0) st123 f126 rfl (by have q := setL_len sLt_T (homsN (entriesL t x) (entriesL t x).length); have q2 := homsN_len (entriesL t x) (entriesL t x).length; omega)
    refine ⟨h127, _, rfl, st130.done, ?_⟩
    refine ⟨_, tup2 rfl (zW ?_), Sl.to f129 ?_⟩
    ·exact hx0.symm
    ·simp [homR, hx0]
 ·
  simp only [hb19, if_true, if_false, Bool.false_eq_true, reduceIte] at q18
  obtain ⟨v131, rfl, f132⟩ := q18
  obtain rfl := f132
  refine Y X X (r_mvT X)<|Y X X (zH (v := (.pointer none)) X X)<|Y X X (zH (v := (.int _ _)) X X)<|Y X X (zD X)<|Y X X (zx X)<|U<|M<|zd<|zd<|O<|Y X X (zo X)<|Y X X (r_neq X X)<|U<|M ?_
  refine zt rfl (fun c133 => ?_) (fun c133 => ?_)
  ·
   replace c133 := of_decide_eq_true c133
   refine zd<|O<|Y X X (zo X)<|Y X X (r_asL X)<|Y X X (zx X)<|U<|M<|zA<|zk<|zS Tryz.results20 ?_
   refine ⟨h15, _, rfl, st17.done, ?_⟩
   refine ⟨_, tup2 rfl (zW ?_), Sl.to (Sl.nil _ _) ?_⟩
   all_goals simp_all [homR]
  ·
   replace c133 := of_decide_eq_false c133
   exfalso
   simp_all
set_option maxRecDepth 4000 in
theorem c_stem_Idle {h : Heap} {w : World} (hs : Sub h w) {t : Text} {t_v0 : Value} (t_f0 : Sl LChapter h t_v0 t.chapters) {x : Lexicon} {x_v0 : Value} (x_f0 : Sl LRule h x_v0 x.rules) {x_v1 : Value} (x_f1 : Sl LDecision h x_v1 x.decisions) (K0 : Cells h 0 0 Tryz.glob0) : Calls Tryz.prog 22 #[.agg #[t_v0], .agg #[x_v0, x_v1]] w (Rets h w (fun h' _ res_ => ∃ u0, res_ = .tuple #[u0, .int .i64 (checkN t x)] ∧ Sl LInt h' u0 ((idleN t x)))) := by
 refine zM (n := 56) (args := [.agg #[t_v0], .agg #[x_v0, x_v1]]) Tryz.func22 X X X ?_
 have st0 : St h w h w [] := St.start hs
 have t_f0_b := t_f0.le
 have x_f0_b := x_f0.le
 have x_f1_b := x_f1.le
 refine zd<|O<|zr st0 (cs := [t_v0]) X X X ?_
 intro b1 w2 h3 le4 hc5 st6
 refine zr st6 (cs := [x_v0, x_v1]) X X X ?_
 intro b7 w8 h9 le10 hc11 st12
 refine Y X X (r_asL X)<|Y X X (zx X)<|U<|M<|zd<|O<|Y X X (zf st12.sub (hc5.up le10) X Tryz.isAgg24 Tryz.sizeOf24 X)<|Y X X (zf st12.sub hc11 X Tryz.isAgg28 Tryz.sizeOf28 X)<|zm st12 X X X Tryz.call40 X (c_stem_open st12.sub (t := t) (t_f0.up (le4.trans le10)) (x := x) (x_f0.up (le4.trans le10)) (x_f1.up (le4.trans le10)) (K0.up (le4.trans le10))) ?_
 intro r13 w14 h15 le16 st17 q18
 rcases Bool.eq_false_or_eq_true (decide (checkN (t) (x) = 0)) with hb19 | hb19
 ·
  simp only [hb19, if_true, if_false, Bool.false_eq_true, reduceIte] at q18
  obtain ⟨v20, rfl, f21⟩ := q18
  obtain ⟨b22, vs23, rfl, hc24, hr25⟩ := f21
  obtain ⟨v26, v28, v30, v32, rfl, f27, f29, f31, lm33⟩ := hr25
  have f27_b := f27.le
  have f29_b := f29.le
  have f31_b := f31.le
  refine Y X X (r_mvT X)<|Y X X (zH (v := (.pointer (some _))) X X)<|Y X X (zH (v := (.int _ _)) X X)<|Y X X (r_asP X)<|Y X X (zx X)<|U<|M<|zd<|zd<|O<|Y X X (zo X)<|Y X X (r_neq X X)<|U<|M ?_
  refine zt rfl (fun c34 => ?_) (fun c34 => ?_)
  ·
   replace c34 := of_decide_eq_true c34
   refine zd<|O<|Y X X (zo X)<|Y X X (r_asL X)<|Y X X (zx X)<|U<|M<|zA<|zk<|zS Tryz.results22 ?_
   refine ⟨h15, _, rfl, st17.done, ?_⟩
   refine ⟨_, tup2 rfl (zW ?_), Sl.to (Sl.nil _ _) ?_⟩
   all_goals simp_all [idleN]
  ·
   replace c34 := of_decide_eq_false c34
   refine zz<|M<|zd ?_
   have hx0 : checkN t x = 0 := by simpa using c34
   have hdl := lexicon_20 hx0
   refine O<|Y X X (r_mvP X) ?_
   refine zm st17 rfl rfl rfl Tryz.call56 rfl (c_stem_office_entries st17.sub (o := (Office.mk (x) (t) (standM (x)))) f27 f29 f31 lm33 hc24 (K0.up ((le4.trans le10).trans le16)) (by first | exact ⟨hx0, rfl⟩ | exact ⟨lessX_check hx0 _, rfl⟩)) ?_
   intro r35 w36 h37 le38 st39 q40
   obtain ⟨v41, e43, f42⟩ := q40
   rw [← e43] at f42
   have f42_b := f42.le
   have f44 := Sl.to f42 (show _ = (entriesL t x) from rfl)
   have f44_b := f44.le
   refine Y X X (zD (v := r35) X)<|U<|M<|zd<|O<|Y X X (r_asL X)<|U<|M<|zd<|zd<|O<|Y X X (zc X Tryz.underlying28 X Tryz.sizeOf26 X)<|Y X X (zb (j := 1) st39.sub (hc11.up (le16.trans le38)) X X X Tryz.isAgg26)<|Y X X (zag (x_f1.up (((le4.trans le10).trans le16).trans le38)) X Tryz.underlying26)<|Y X X (zo X)<|U<|M<|zF ?_
   have st48 := st39.snoc
   have f49 := OSl.nil LInt 3 h37
   refine zX [9, 10, 11, 12, 27, 28, 29, 30, 31, 32, 33, 34, 35, 36, 37, 38, 39, 40, 41, 42, 43, 44, 45, 46, 47, 48, 49, 50, 51, 52] (G := Nat × Value × List (Nat × Obj) × Heap) (fun ⟨i, v_9, o_9, h45⟩ => [(9, v_9), (27, .int .i64 (i : Int))]) (fun ⟨i, v_9, o_9, h45⟩ w' => Le h37 h45 ∧ St h w h45 w' [o_9] ∧ (OSl LInt 3 h45 v_9 (((x.decisions.take i).filter (idleP t x)).map (·.number)) o_9) ∧ (i ≤ x.decisions.length)) (fun ⟨i, v_9, o_9, h45⟩ => x.decisions.length - i) ⟨0, (.slice none 0 0), [], h37⟩ ⟨rfl, rfl, trivial⟩ ⟨Le.refl _, st48, (OSl.to f49 (by rfl)), zak⟩ ?_
   rintro ⟨i, v_9, o_9, h45⟩ _ w50 ⟨le46, st47, hO_9, hi⟩
   refine zd<|O<|Y X X (zal X X)<|U<|M<|zd ?_
   refine zt rfl (fun c51 => ?_) (fun c51 => ?_)
   ·
    replace c51 := of_decide_eq_true c51
    refine zz<|M<|zd<|zF<|zd<|O<|Y X X (zo X) ?_
    have hd : ∃ y_, (x.decisions)[i]? = some y_ := ⟨_, List.getElem?_eq_getElem (by omega)⟩
    obtain ⟨d, hd⟩ := hd
    obtain ⟨b52, o53, _, he55, hc54, hr_d⟩ := Sl.elem (x_f1.up ((((le4.trans le10).trans le16).trans le38).trans le46)) hd
    obtain ⟨rfl, lu56, ls57, ls58, lu59⟩ := hr_d
    simp only [big] at ls57
    simp only [big] at ls58
    refine Y X X (zp he55 X X (hk := X) (hu := Tryz.underlying26) (hz := Tryz.sizeOf56))<|Y X X (zf st47.sub hc54 X Tryz.isAgg56 Tryz.sizeOf56 X)<|zO st47 Tryz.zeroValue56 X X ?_
    intro b60 w61 st62
    refine Y X X (zx X)<|zB st62 (k := 1) X X X (zg X (zg X (zg X (zg X (zg X (zg X (zg X (zg X (zg X zU))))))))) Tryz.sizeOf56 X X X ?_
    intro w63 st64
    obtain ⟨h65, le66, hb67, st69⟩ := st64.freeze (k := 1) rfl
    have hc68 := Cells.of hb67
    refine U<|M<|zd<|O<|Y X X (zf st69.sub (hc11.up (((le16.trans le38).trans le46).trans le66)) X Tryz.isAgg28 Tryz.sizeOf28 X)<|zO st69 Tryz.zeroValue28 X X ?_
    intro b70 w71 st72
    refine zB st72 (k := 2) X X X (zg x_f0.one (zg x_f1.one zU)) Tryz.sizeOf28 X X X ?_
    intro w73 st74
    refine U<|M<|zd<|O<|Y X X (zc X Tryz.underlying28 X Tryz.sizeOf26 X)<|Y X X (zb (j := 1) st74.sub (hc11.up (((le16.trans le38).trans le46).trans le66)) X X X Tryz.isAgg26) ?_
    refine zad rfl rfl (zaj rfl Tryz.call64 rfl) ((zau st74.sub (x_f1.up (((((le4.trans le10).trans le16).trans le38).trans le46).trans le66)) (by first | (show (lessX x d.number).decisions.length ≤ 25; have q := lexicon_20 (lessX_check hx0 d.number); omega) | omega)).mono ?_)
    rintro _ w76 ⟨h77, v75, o80, rfl, le78, s82, f81⟩
    refine ⟨_, rfl, ?_⟩
    have st79 := st74.call s82
    refine Y X X (zo X)<|Y X X (zo X)<|Y X X (zah X X t_om) ?_
    have con := c_slices_Delete_Lapi_Decision_api_Decision (rest := [o_9, [], [(b70, .cells (List.toArray [x_v0, x_v1]) 28)]]) f81 (i : Int) ((i : Int) + 1) (m := i) (n := i + 1) (by omega) (by omega) (by omega) (by omega) (st79.perm (List.perm_append_comm (l₁ := [o_9, [], [(b70, .cells (List.toArray [x_v0, x_v1]) 28)]]) (l₂ := [o80])))
    refine zad rfl rfl (zaj rfl Tryz.call63 rfl) (con.mono ?_)
    rintro _ w83 ⟨h84, o85, v86, rfl, le87, st90, f89⟩
    refine ⟨_, rfl, ?_⟩
    clear con
    have st88 := st90.perm (List.perm_append_comm (l₁ := [o85]) (l₂ := [o_9, [], [(b70, .cells (List.toArray [x_v0, x_v1]) 28)]]))
    have f91 := OSl.to f89 (show _ = (lessX x d.number).decisions from without_at (okD_of hx0).1 hd)
    refine Y X X (zc X Tryz.underlying28 X Tryz.sizeOf26 X)<|zas st88 (k := 2) X X (v := v86) X f91.one Tryz.sizeOf26 X X X ?_
    intro w92 st93
    refine U<|M<|zd<|O<|Y X X (zf st93.sub (hc5.up ((((((le10.trans le16).trans le38).trans le46).trans le66).trans le78).trans le87)) X Tryz.isAgg24 Tryz.sizeOf24 X)<|Y X X (r_load_ball (st93.get (k := 2) X) X Tryz.isAgg28 Tryz.sizeOf28 X) ?_
    obtain ⟨h94, le95, f96, st97⟩ := OSl.freeze (k := 3) st93 f91 rfl (by first | (have q := idleK_len t x 999; exact Nat.le_trans q (by decide)) | (show (lessX x d.number).decisions.length ≤ _; have q := lexicon_20 (lessX_check hx0 d.number); omega))
    refine zm st97 rfl rfl rfl Tryz.call66 rfl (c_stem_opened st97.sub (t := t) (t_f0.up ((((((((le4.trans le10).trans le16).trans le38).trans le46).trans le66).trans le78).trans le87).trans le95)) (x := (Lexicon.mk x.rules ((lessX x d.number).decisions))) (x_f0.up ((((((((le4.trans le10).trans le16).trans le38).trans le46).trans le66).trans le78).trans le87).trans le95)) f96 (by exact okD_of (lessX_check hx0 d.number)) (by first | (show (lessX x d.number).decisions.length ≤ 25; have q := lexicon_20 (lessX_check hx0 d.number); omega) | omega)) ?_
    intro r98 w99 h100 le101 st102 q103
    obtain ⟨v104, rfl, f105⟩ := q103
    obtain ⟨b106, vs107, rfl, hc108, hr109⟩ := f105
    obtain ⟨v110, v112, v114, v116, rfl, f111, f113, f115, lm117⟩ := hr109
    have f111_b := f111.le
    have f113_b := f113.le
    have f115_b := f115.le
    refine zm st102 rfl rfl rfl Tryz.call56 rfl (c_stem_office_entries st102.sub (o := (Office.mk ((Lexicon.mk x.rules ((lessX x d.number).decisions))) (t) (standM ((Lexicon.mk x.rules ((lessX x d.number).decisions)))))) f111 f113 f115 lm117 hc108 (K0.up (((((((((le4.trans le10).trans le16).trans le38).trans le46).trans le66).trans le78).trans le87).trans le95).trans le101)) (by first | exact ⟨hx0, rfl⟩ | exact ⟨lessX_check hx0 _, rfl⟩)) ?_
    intro r118 w119 h120 le121 st122 q123
    obtain ⟨v124, e126, f125⟩ := q123
    rw [← e126] at f125
    have f125_b := f125.le
    have f127 := Sl.to f125 (show _ = (entriesL t (lessX x d.number)) from rfl)
    have f127_b := f127.le
    refine Y X X (zy (v := r35) X)<|zm st122 X X X Tryz.call65 X (c_slices_Equal_Lstem_entry_stem_entry st122.sub f127 (f44.up ((((((le46.trans le66).trans le78).trans le87).trans le95).trans le101).trans le121))) ?_
    intro r128 w129 h130 le131 st132 q133
    obtain rfl := q133
    refine U<|M ?_
    refine zt rfl (fun c134 => ?_) (fun c134 => ?_)
    ·
     refine O<|Y X X (zy (v := v_9) X)<|Y X X (zc X Tryz.underlying56 X Tryz.sizeOf3 X)<|Y X X (zb (j := 0) st132.sub (hc68.up (((((le78.trans le87).trans le95).trans le101).trans le121).trans le131)) X X X Tryz.isAgg3)<|zV (L := LInt) (xs := [(d.number)]) (cs := [.int .i64 (d.number)]) st132 (Enc.cons (L := LInt) (vs := [.int .i64 (d.number)]) (x := (d.number)) (h := h130) (X) Enc.nil) X X X Tryz.underlying39 Tryz.info3 X X X t_kr ?_
     intro v135 w136 h139 le140 f137 st138
     refine zP (k := 0) (nb := 8) st138 (hO_9.up (((((((le66.trans le78).trans le87).trans le95).trans le101).trans le121).trans le131).trans le140)) rfl f137 rfl rfl rfl Tryz.underlying39 Tryz.info3 rfl rfl rfl (by decide) rfl (by have q := List.length_filter_le (idleP t x) (x.decisions.take i); rw [List.length_take] at q; simp only [List.length_append, List.length_map, List.length_cons, List.length_nil]; omega) (by have q := List.length_filter_le (idleP t x) (x.decisions.take i); rw [List.length_take] at q; simp only [List.length_append, List.length_map, List.length_cons, List.length_nil]; omega) ?_
     intro v141 o142 w143 _ e144 f145 st146
     subst e144
     refine Y X X (zD (v := v141) X)<|U<|zI<|M<|O<|Y X X (zah X X t_om)<|Y X X (zo X)<|U<|M ?_
     refine ⟨⟨i + 1, v141, o142, h139⟩, ⟨rfl, rfl, trivial⟩, ?_, ⟨((((((((le46.trans le66).trans le78).trans le87).trans le95).trans le101).trans le121).trans le131).trans le140), st146.take 1, ?_, ?_⟩, ?_⟩
     ·exact zae
     ·refine OSl.to f145 ?_
      rw [take_snoc hd, List.filter_append, List.map_append, List.filter_cons, if_pos (by simpa [idleP] using c134)]; rfl
     ·first | omega | (simp; omega)
     ·show x.decisions.length - ((i + 1)) < x.decisions.length - i
      omega
    ·
     refine zz<|zI<|M<|O<|Y X X (zah X X t_om)<|Y X X (zo X)<|U<|M ?_
     refine ⟨⟨i + 1, v_9, o_9, h130⟩, ⟨rfl, rfl, trivial⟩, ?_, ⟨(((((((le46.trans le66).trans le78).trans le87).trans le95).trans le101).trans le121).trans le131), st132.take 1, ?_, ?_⟩, ?_⟩
     ·exact zae
     ·refine OSl.to (hO_9.up ((((((le66.trans le78).trans le87).trans le95).trans le101).trans le121).trans le131)) ?_
      rw [take_snoc hd, List.filter_append, List.map_append, List.filter_cons, if_neg (by simpa [idleP] using c134)]; simp
     ·first | omega | (simp; omega)
     ·show x.decisions.length - ((i + 1)) < x.decisions.length - i
      omega
   ·
    replace c51 := of_decide_eq_false c51
    refine zab<|zn<|zn<|zT<|M<|zd<|O<|Y X X (zy (v := v_9) X) ?_
    have con := sort1 (L := LInt) (T := 3) (f := 45) (fun n : Int => .int .i64 n) id rfl (fun l => l.mergeSort fun a b => decide (a ≤ b)) (fun l => List.mergeSort_perm _ _) (fun blk off cap zs w hH hb hs => Tryz.slices_Sort_int blk off cap zs w hH hb hs) (fun p cap w => Tryz.slices_Sort_int_none p cap w) (i := 0) st47 hO_9 rfl (by have q := List.length_filter_le (idleP t x) (x.decisions.take i); rw [List.length_take] at q; simp only [List.length_map]; omega)
    refine zad rfl rfl (zaj rfl Tryz.call45 rfl) (con.mono ?_)
    rintro _ w147 ⟨rfl, o148, _, e149, f150, st151⟩
    subst e149
    refine ⟨_, rfl, ?_⟩
    clear con
    have f152 := OSl.to f150 (show _ = (idleR t x) from by rw [List.take_of_length_le (by omega)]; exact idle_eq hx0)
    refine U<|M<|zd<|O<|Y X X (zy (v := v_9) X)<|Y X X (zD (v := v_9) X)<|Y X X (zx X)<|U<|M<|zA<|zS Tryz.results22 ?_
    obtain ⟨h153, le154, f155, st156⟩ := OSl.freeze (k := 0) st151 f152 rfl (by first | (have q := idleK_len t x 999; exact Nat.le_trans q (by decide)) | (show (lessX x d.number).decisions.length ≤ _; have q := lexicon_20 (lessX_check hx0 d.number); omega))
    refine ⟨h153, _, rfl, st156.done, ?_⟩
    refine ⟨_, tup2 rfl (zW ?_), Sl.to f155 ?_⟩
    ·exact hx0.symm
    ·simp [idleN, hx0]
 ·
  simp only [hb19, if_true, if_false, Bool.false_eq_true, reduceIte] at q18
  obtain ⟨v157, rfl, f158⟩ := q18
  obtain rfl := f158
  refine Y X X (r_mvT X)<|Y X X (zH (v := (.pointer none)) X X)<|Y X X (zH (v := (.int _ _)) X X)<|Y X X (zD X)<|Y X X (zx X)<|U<|M<|zd<|zd<|O<|Y X X (zo X)<|Y X X (r_neq X X)<|U<|M ?_
  refine zt rfl (fun c159 => ?_) (fun c159 => ?_)
  ·
   replace c159 := of_decide_eq_true c159
   refine zd<|O<|Y X X (zo X)<|Y X X (r_asL X)<|Y X X (zx X)<|U<|M<|zA<|zk<|zS Tryz.results22 ?_
   refine ⟨h15, _, rfl, st17.done, ?_⟩
   refine ⟨_, tup2 rfl (zW ?_), Sl.to (Sl.nil _ _) ?_⟩
   all_goals simp_all [idleN]
  ·
   replace c159 := of_decide_eq_false c159
   exfalso
   simp_all
set_option maxRecDepth 4000 in
theorem c_stem_Add {h : Heap} {w : World} (hs : Sub h w) {t : Text} {t_v0 : Value} (t_f0 : Sl LChapter h t_v0 t.chapters) {x : Lexicon} {x_v0 : Value} (x_f0 : Sl LRule h x_v0 x.rules) {x_v1 : Value} (x_f1 : Sl LDecision h x_v1 x.decisions) {d : Decision} (d_l2 : 0 ≤ d.kind ∧ d.kind ≤ 255) (d_l3 : d.form.length ≤ 281474976710656) (d_l7 : d.to.stem.length ≤ 281474976710656) (d_l8 : 0 ≤ d.to.mark ∧ d.to.mark ≤ 255) (K0 : Cells h 0 0 Tryz.glob0) : Calls Tryz.prog 24 #[.agg #[t_v0], .agg #[x_v0, x_v1], .agg #[.int .i64 d.number, .int .u8 d.kind, strV d.form, .int .i64 d.at_.chapter, .int .i64 d.at_.line, .int .i64 d.at_.word, strV d.to.stem, .int .u8 d.to.mark, .int .i64 d.of_]] w (fun e_ w' => ∃ h' v0_ v1_ o0_ o1_, e_ = .returned (.tuple #[.agg #[v0_, v1_], .int .i64 (addE t x d)]) ∧ Le h h' ∧ St h w h' w' [o0_, o1_] ∧ OSl LRule 70 h' v0_ (((addN t x d)).rules) o0_ ∧ OSl LDecision 56 h' v1_ (((addN t x d)).decisions) o1_) := by
 refine zM (n := 41) (args := [.agg #[t_v0], .agg #[x_v0, x_v1], .agg #[.int .i64 d.number, .int .u8 d.kind, strV d.form, .int .i64 d.at_.chapter, .int .i64 d.at_.line, .int .i64 d.at_.word, strV d.to.stem, .int .u8 d.to.mark, .int .i64 d.of_]]) Tryz.func24 X X X ?_
 have st0 : St h w h w [] := St.start hs
 have t_f0_b := t_f0.le
 have x_f0_b := x_f0.le
 have x_f1_b := x_f1.le
 refine zd<|O<|zr st0 (cs := [t_v0]) X X X ?_
 intro b1 w2 h3 le4 hc5 st6
 refine zr st6 (cs := [x_v0, x_v1]) X X X ?_
 intro b7 w8 h9 le10 hc11 st12
 refine zr st12 (cs := [.int .i64 (d.number), .int .u8 (d.kind), strV (d.form), .int .i64 (d.at_.chapter), .int .i64 (d.at_.line), .int .i64 (d.at_.word), strV (d.to.stem), .int .u8 (d.to.mark), .int .i64 (d.of_)]) X X X ?_
 intro b13 w14 h15 le16 hc17 st18
 refine zO st18 Tryz.zeroValue28 X X ?_
 intro b19 w20 st21
 refine Y X X (zx X)<|U<|M<|zd<|zd<|O<|Y X X (zf st21.sub (hc5.up (le10.trans le16)) X Tryz.isAgg24 Tryz.sizeOf24 X)<|Y X X (zf st21.sub (hc11.up le16) X Tryz.isAgg28 Tryz.sizeOf28 X)<|zm st21 X X X Tryz.call14 X (c_stem_Check st21.sub (t := t) (t_f0.up ((le4.trans le10).trans le16)) (x := x) (x_f0.up ((le4.trans le10).trans le16)) (x_f1.up ((le4.trans le10).trans le16)) (K0.up ((le4.trans le10).trans le16))) ?_
 intro r22 w23 h24 le25 st26 q27
 obtain rfl := q27
 refine Y X X (zx X)<|U<|M<|zd<|O<|Y X X (zo X)<|Y X X (r_neq X X)<|U<|M ?_
 refine zt rfl (fun c28 => ?_) (fun c28 => ?_)
 ·
  replace c28 := of_decide_eq_true c28
  refine zd<|O<|Y X X (r_build (cs := [(.slice none 0 0), (.slice none 0 0)]) t_kr)<|Y X X (zo X)<|zB st26 (k := 0) X X X (zg X (zg X zU)) Tryz.sizeOf28 X X X ?_
  intro w29 st30
  refine Y X X (zx X)<|U<|M<|zA<|zk<|zao Tryz.results24 X Tryz.isAgg28 Tryz.sizeOf28 X (st30.get (k := 0) X) ?_
  have st31 := st30.snoc
  have f32 := OSl.nil LRule 70 h24
  have st33 := st31.snoc
  have f34 := OSl.nil LDecision 56 h24
  refine ⟨h24, (.slice none 0 0), (.slice none 0 0), _, _, congrArg Ending.returned (tup2 rfl (zW ?_)), (((le4.trans le10).trans le16).trans le25), st33.sublist (own' := [[], []]) (.cons _ (.cons_cons _ (.cons_cons _ (.slnil)))), OSl.to f32 ?_, OSl.to f34 ?_⟩
  all_goals (obtain ⟨q1, q2⟩ := addE_bad (d := d) c28)
  ·exact q1.symm
  ·rw [q2]; rfl
  ·rw [q2]; rfl
 ·
  replace c28 := of_decide_eq_false c28
  refine zz<|M<|zd<|zd ?_
  have hx0 : checkN t x = 0 := by simpa using c28
  have hdl := lexicon_20 hx0
  have hrl := lexicon_12 hx0
  refine O<|Y X X (zc X Tryz.underlying28 X Tryz.sizeOf26 X)<|Y X X (zb (j := 1) st26.sub (hc11.up (le16.trans le25)) X X X Tryz.isAgg26)<|Y X X (zag (x_f1.up (((le4.trans le10).trans le16).trans le25)) X Tryz.underlying26)<|Y X X (r_eql X X)<|U<|M ?_
  refine zt rfl (fun c35 => ?_) (fun c35 => ?_)
  ·
   replace c35 := of_decide_eq_true c35
   refine zd<|O<|Y X X (r_build (cs := [(.slice none 0 0), (.slice none 0 0)]) t_kr)<|zB st26 (k := 0) X X X (zg X (zg X zU)) Tryz.sizeOf28 X X X ?_
   intro w36 st37
   refine Y X X (zx X)<|U<|M<|zA<|zk<|zao Tryz.results24 X Tryz.isAgg28 Tryz.sizeOf28 X (st37.get (k := 0) X) ?_
   have st38 := st37.snoc
   have f39 := OSl.nil LRule 70 h24
   have st40 := st38.snoc
   have f41 := OSl.nil LDecision 56 h24
   refine ⟨h24, (.slice none 0 0), (.slice none 0 0), _, _, congrArg Ending.returned (tup2 rfl (zW ?_)), (((le4.trans le10).trans le16).trans le25), st40.sublist (own' := [[], []]) (.cons _ (.cons_cons _ (.cons_cons _ (.slnil)))), OSl.to f39 ?_, OSl.to f41 ?_⟩
   all_goals (obtain ⟨q1, q2⟩ := addE_full (d := d) hx0 (by have q := c35; omega))
   ·exact q1.symm
   ·rw [q2]; rfl
   ·rw [q2]; rfl
  ·
   replace c35 := of_decide_eq_false c35
   refine zz<|M<|zd<|zaa (er := ([], [], [], [10], 4)) (dsts := [22, 23, 24, 25, 26, 27, 28, 29, 30, 31, 9]) st26 Tryz.mixed<|zh 0 [] X t_kr t_kr X X (fun hD wD τD hL hS hO  => (zc X Tryz.underlying28 X Tryz.sizeOf25 X))<|zh 1 [0] X t_kr t_kr X X (fun hD wD τD hL hS hO _ _ => (zb (j := 0) (hL.sub hS) (hc11.up (le16.trans le25)) X X X Tryz.isAgg25))<|zaf<|zh 3 [] X t_kr t_kr X X (fun hD wD τD hL hS hO  => (zc X Tryz.underlying28 X Tryz.sizeOf26 X))<|zh 4 [0] X t_kr t_kr X X (fun hD wD τD hL hS hO _ _ => (zb (j := 1) (hL.sub hS) (hc11.up (le16.trans le25)) X X X Tryz.isAgg26))<|zaf<|zh 6 [] X t_kr t_kr X X (fun hD wD τD hL hS hO  => (zf (hL.sub hS) (hc17.up le25) X Tryz.isAgg56 Tryz.sizeOf56 X)) ?_
   refine zQ 7 (.res (fun h' res_ => Sl LDecision h' res_ ([d])) (fun _ _ _ hl f => f.up hl)) [0] rfl t_kr t_kr ?_ ?_
   ·
    intro hD wD τD hL hS hO _ _
    have st42 := St.start hS
    refine zV (L := LDecision) (xs := [d]) (cs := [.int .i64 (d.number), .int .u8 (d.kind), strV (d.form), .int .i64 (d.at_.chapter), .int .i64 (d.at_.line), .int .i64 (d.at_.word), strV (d.to.stem), .int .u8 (d.to.mark), .int .i64 (d.of_)]) st42 (Enc.cons (L := LDecision) (vs := [.int .i64 (d.number), .int .u8 (d.kind), strV (d.form), .int .i64 (d.at_.chapter), .int .i64 (d.at_.line), .int .i64 (d.at_.word), strV (d.to.stem), .int .u8 (d.to.mark), .int .i64 (d.of_)]) (x := d) (h := hD) (⟨rfl, t_u8, zZ, zZ, t_u8⟩) Enc.nil) X X X Tryz.underlying26 Tryz.info56 X X X t_kr ?_
    intro v43 w44 h47 le48 f45 st46
    exact U ⟨_, _, rfl, st46, _, rfl, f45⟩
   refine zaf<|zaf<|Drw.al Tryz.zeroValue28 X<|zaf<|zan X X X X X X ⟨t_kr, X, t_kr, X, t_kr, X, X, t_kr, (zY X (zY X (zY X (zY X (zY X cx_nil)))))⟩ ?_
   intro hE50 w51 _ ls56 hl55 le52 st53 _ _
   obtain ⟨oL54, rfl⟩ := len1_iff hl55
   refine zad rfl rfl (zaj rfl Tryz.call68 rfl) ((c_slices_Clone_Lapi_Rule_api_Rule st53.sub (x_f0.up ((((le4.trans le10).trans le16).trans le25).trans le52)) (by omega)).mono ?_)
   rintro _ w58 ⟨h59, v57, o62, rfl, le60, s64, f63⟩
   refine ⟨_, rfl, ?_⟩
   have st61 := st53.call s64
   refine U ⟨_, rfl, _, [[(b19, .cells (List.toArray [(.slice none 0 0), (.slice none 0 0)]) 28)]], [o62], le60, st61, ?_⟩
   intro hE66 w67 _ ls72 hl71 le68 st69 _ _
   obtain ⟨oL70, rfl⟩ := len1_iff hl71
   refine zad rfl rfl (zaj rfl Tryz.call64 rfl) ((zau st69.sub (x_f1.up ((((((le4.trans le10).trans le16).trans le25).trans le52).trans le60).trans le68)) (by omega)).mono ?_)
   rintro _ w74 ⟨h75, v73, o78, rfl, le76, s80, f79⟩
   refine ⟨_, rfl, ?_⟩
   have st77 := st69.call s80
   refine U ⟨_, rfl, _, [[(b19, .cells (List.toArray [(.slice none 0 0), (.slice none 0 0)]) 28)]], [o62, o78], le76, st77, ?_⟩
   intro hE82 w83 _ ls88 hl87 le84 st85 gv7_0x81 gf7_0x81
   obtain ⟨oL86, rfl⟩ := len1_iff hl87
   refine zP (k := 3) (nb := 88) st85 (f79.up le84) rfl gf7_0x81 rfl rfl rfl Tryz.underlying26 Tryz.info56 rfl rfl rfl (by decide) rfl (by first | omega | (simp only [List.length_append, List.length_cons, List.length_nil]; omega)) (by first | omega | (simp only [List.length_append, List.length_cons, List.length_nil]; omega)) ?_
   intro v89 o90 w91 _ e92 f93 st94
   subst e92
   refine U ⟨_, rfl, _, [[(b19, .cells (List.toArray [(.slice none 0 0), (.slice none 0 0)]) 28)]], [o62, o90], Le.refl _, st94, ?_⟩
   intro hE96 w97 _ ls102 hl101 le98 st99 
   obtain ⟨oL100, rfl⟩ := len1_iff hl101
   refine Y rfl rfl (r_build (cs := [v57, v89]) (by obtain ⟨_, _, rfl⟩ := OSl.form f63; obtain ⟨_, _, rfl⟩ := OSl.form f93; kernel_rfl)) ?_
   refine U ⟨_, rfl, _, [[(b19, .cells (List.toArray [(.slice none 0 0), (.slice none 0 0)]) 28)]], [o62, o90], Le.refl _, st99, ?_⟩
   intro b104
   intro hE105 w106 _ le107 st108 _ _ _ _ _ _ _ _ _ _ gv7_0x103 gf7_0x103
   refine zB st108 (k := 1) X X X (zg f63.one (zg f93.one zU)) Tryz.sizeOf28 X X X ?_
   intro w109 st110
   obtain ⟨h111, le112, hb113, st115⟩ := st110.freeze (k := 1) rfl
   have hc114 := Cells.of hb113
   refine U ⟨undef, rfl, _, _, le112, st115, ?_⟩
   intro hE116 w117 _ le118 st119 _ _ _ _ _ _ _ _ _ _ gv7_0x120 gf7_0x120
   refine AllDeps.fin X<|M<|zd<|zd<|O<|Y X X (zf st119.sub (hc5.up (((((((((((le10.trans le16).trans le25).trans le52).trans le60).trans le68).trans le76).trans le84).trans le98).trans le107).trans le112).trans le118)) X Tryz.isAgg24 Tryz.sizeOf24 X)<|Y X X (zf st119.sub (hc114.up le118) X Tryz.isAgg28 Tryz.sizeOf28 X) ?_
   have ha121 := heapOf_le st119.sub
   have f122 := (OSl.whole (k := 2) st119 (f63.up ((((((le68.trans le76).trans le84).trans le98).trans le107).trans le112).trans le118)) rfl t_om).2
   have f123 := (OSl.whole (k := 3) st119 (f93.up (((le98.trans le107).trans le112).trans le118)) rfl t_om).2
   refine zm st119 X X X Tryz.call14 X (Rets.thaw st119.sub (c_stem_Check (heapOf_sub _) (t := t) (t_f0.up (((((((((((((le4.trans le10).trans le16).trans le25).trans le52).trans le60).trans le68).trans le76).trans le84).trans le98).trans le107).trans le112).trans le118).trans ha121)) (x := (Lexicon.mk ((x.rules)) (((x.decisions)) ++ ([d])))) f122 f123 (K0.up (((((((((((((le4.trans le10).trans le16).trans le25).trans le52).trans le60).trans le68).trans le76).trans le84).trans le98).trans le107).trans le112).trans le118).trans ha121)))) ?_
   intro r124 w125 h126 le127 st128 q129
   obtain rfl := q129
   refine Y X X (r_neq X X)<|U<|M ?_
   refine zt rfl (fun c130 => ?_) (fun c130 => ?_)
   ·
    replace c130 := of_decide_eq_true c130
    refine zd<|O<|Y X X (r_build (cs := [(.slice none 0 0), (.slice none 0 0)]) t_kr)<|zB st128 (k := 0) X X X (zg X (zg X zU)) Tryz.sizeOf28 X X X ?_
    intro w131 st132
    refine Y X X (zx X)<|U<|M<|zA<|zk<|zao Tryz.results24 X Tryz.isAgg28 Tryz.sizeOf28 X (st132.get (k := 0) X) ?_
    have st133 := st132.snoc
    have f134 := OSl.nil LRule 70 h126
    have st135 := st133.snoc
    have f136 := OSl.nil LDecision 56 h126
    refine ⟨h126, (.slice none 0 0), (.slice none 0 0), _, _, congrArg Ending.returned (tup2 rfl (zW ?_)), (((((((((((((le4.trans le10).trans le16).trans le25).trans le52).trans le60).trans le68).trans le76).trans le84).trans le98).trans le107).trans le112).trans le118).trans le127), st135.sublist (own' := [[], []]) (.cons _ (.cons _ (.cons _ (.cons _ (.cons_cons _ (.cons_cons _ (.slnil))))))), OSl.to f134 ?_, OSl.to f136 ?_⟩
    all_goals (obtain ⟨q1, q2⟩ := addE_err (d := d) hx0 (by have q := c35; omega) c130)
    ·exact q1.symm
    ·rw [q2]; rfl
    ·rw [q2]; rfl
   ·
    replace c130 := of_decide_eq_false c130
    refine zz<|M<|zd ?_
    have hx1 : checkN t (moreX x d) = 0 := by simpa [moreX] using c130
    refine O<|Y X X (zc X Tryz.underlying28 X Tryz.sizeOf26 X)<|Y X X (zb (j := 1) st128.sub (hc114.up (le118.trans le127)) X X X Tryz.isAgg26) ?_
    have con := sortFunc (L := LDecision) (T := 56) Tryz.sort_api_Decision Tryz.isAgg56 Tryz.sizeOf56 (by decide) (fun x : Decision => [.int .i64 x.number, .int .u8 x.kind, strV x.form, .int .i64 x.at_.chapter, .int .i64 x.at_.line, .int .i64 x.at_.word, strV x.to.stem, .int .u8 x.to.mark, .int .i64 x.of_]) (by rintro _ _ _ ⟨rfl, _⟩; rfl) (fun a b : Decision => a.number - b.number) (swo_asc _) (g := 70) (caps := []) (i := 3) st128 (f93.up ((((le98.trans le107).trans le112).trans le118).trans le127)) rfl (by simp only [List.length_append, List.length_cons, List.length_nil]; omega) Tryz.call70 ?_
    rotate_left
    ·intro a_ ha_ b_ hb_ w_ hs_
     obtain ⟨_, rfl, p0, p1, p2, p3⟩ := OSl.memR (f93.up ((((le98.trans le107).trans le112).trans le118).trans le127)) ha_
     obtain ⟨_, rfl, q0, q1, q2, q3⟩ := OSl.memR (f93.up ((((le98.trans le107).trans le112).trans le118).trans le127)) hb_
     simp only [big] at *
     exact c_stem_Add_1 hs_ (a := a_) p0 p1 p2 p3 (b := b_) q0 q1 q2 q3 (by have q := ((okD_of hx1).2 a_ ha_); omega) (by have q := ((okD_of hx1).2 b_ hb_); omega)
    refine zad rfl rfl (zaj rfl Tryz.call69 rfl) (con.mono ?_)
    rintro _ w137 ⟨rfl, ys138, o139, _, e140, hp141, hw142, f143, st144⟩
    subst e140
    refine ⟨_, rfl, ?_⟩
    clear con
    have f145 := OSl.to f143 (show ys138 = (ascD (x.decisions ++ [d])) from ascD_eq hp141 (hw142.imp fun h => by omega) (okD_of hx1).1)
    refine U<|M<|zd<|O<|Y X X (zf st144.sub (hc114.up (le118.trans le127)) X Tryz.isAgg28 Tryz.sizeOf28 X)<|zB st144 (k := 0) X X X (zg f63.one (zg f145.one zU)) Tryz.sizeOf28 X X X ?_
    intro w146 st147
    refine Y X X (zx X)<|U<|M<|zA<|zao Tryz.results24 X Tryz.isAgg28 Tryz.sizeOf28 X (st147.get (k := 0) X) ?_
    refine ⟨h126, v57, v89, _, _, congrArg Ending.returned (tup2 rfl (zW ?_)), (((((((((((((le4.trans le10).trans le16).trans le25).trans le52).trans le60).trans le68).trans le76).trans le84).trans le98).trans le107).trans le112).trans le118).trans le127), st147.sublist (own' := [o62, o139]) (.cons _ (.cons _ (.cons_cons _ (.cons_cons _ (.slnil))))), OSl.to (f63.up (((((((le68.trans le76).trans le84).trans le98).trans le107).trans le112).trans le118).trans le127)) ?_, OSl.to f145 ?_⟩
    all_goals (obtain ⟨q1, q2⟩ := addE_ok (d := d) hx0 (by have q := c35; omega) hx1)
    ·exact q1.symm
    ·rw [q2]; rfl
    ·rw [q2]; rfl
set_option maxRecDepth 4000 in
theorem c_stem_Changes {h : Heap} {w : World} (hs : Sub h w) {t : Text} {t_v0 : Value} (t_f0 : Sl LChapter h t_v0 t.chapters) {x : Lexicon} {x_v0 : Value} (x_f0 : Sl LRule h x_v0 x.rules) {x_v1 : Value} (x_f1 : Sl LDecision h x_v1 x.decisions) {d : Decision} (d_l2 : 0 ≤ d.kind ∧ d.kind ≤ 255) (d_l3 : d.form.length ≤ 281474976710656) (d_l7 : d.to.stem.length ≤ 281474976710656) (d_l8 : 0 ≤ d.to.mark ∧ d.to.mark ≤ 255) (K0 : Cells h 0 0 Tryz.glob0) : Calls Tryz.prog 26 #[.agg #[t_v0], .agg #[x_v0, x_v1], .agg #[.int .i64 d.number, .int .u8 d.kind, strV d.form, .int .i64 d.at_.chapter, .int .i64 d.at_.line, .int .i64 d.at_.word, strV d.to.stem, .int .u8 d.to.mark, .int .i64 d.of_]] w (Rets h w (fun h' _ res_ => ∃ u0, res_ = .tuple #[u0, .int .i64 (addE t x d)] ∧ Sl LPlace h' u0 ((changesR t x d)))) := by
 refine zM (n := 53) (args := [.agg #[t_v0], .agg #[x_v0, x_v1], .agg #[.int .i64 d.number, .int .u8 d.kind, strV d.form, .int .i64 d.at_.chapter, .int .i64 d.at_.line, .int .i64 d.at_.word, strV d.to.stem, .int .u8 d.to.mark, .int .i64 d.of_]]) Tryz.func26 X X X ?_
 have st0 : St h w h w [] := St.start hs
 have t_f0_b := t_f0.le
 have x_f0_b := x_f0.le
 have x_f1_b := x_f1.le
 refine zd<|O<|zr st0 (cs := [t_v0]) X X X ?_
 intro b1 w2 h3 le4 hc5 st6
 refine zr st6 (cs := [x_v0, x_v1]) X X X ?_
 intro b7 w8 h9 le10 hc11 st12
 refine zr st12 (cs := [.int .i64 (d.number), .int .u8 (d.kind), strV (d.form), .int .i64 (d.at_.chapter), .int .i64 (d.at_.line), .int .i64 (d.at_.word), strV (d.to.stem), .int .u8 (d.to.mark), .int .i64 (d.of_)]) X X X ?_
 intro b13 w14 h15 le16 hc17 st18
 refine Y X X (r_asL X)<|Y X X (zx X)<|U<|M<|zd<|O<|Y X X (zf st18.sub (hc5.up (le10.trans le16)) X Tryz.isAgg24 Tryz.sizeOf24 X)<|Y X X (zf st18.sub (hc11.up le16) X Tryz.isAgg28 Tryz.sizeOf28 X)<|Y X X (zf st18.sub hc17 X Tryz.isAgg56 Tryz.sizeOf56 X) ?_
 refine zad rfl rfl (zaj rfl Tryz.call24 rfl) ((c_stem_Add st18.sub (t := t) (t_f0.up ((le4.trans le10).trans le16)) (x := x) (x_f0.up ((le4.trans le10).trans le16)) (x_f1.up ((le4.trans le10).trans le16)) (d := d) t_u8 zZ zZ t_u8 (K0.up ((le4.trans le10).trans le16))).mono ?_)
 rintro _ w19 ⟨h20, v24, v27, o25, o28, rfl, le21, s23, f26, f29⟩
 refine ⟨_, rfl, ?_⟩
 have st22 := st18.call s23
 refine Y X X (r_mvT X)<|Y X X (zH (v := (.agg (List.toArray _))) X X)<|Y X X (zH (v := (.int _ _)) X X)<|zO st22 Tryz.zeroValue28 X X ?_
 intro b30 w31 st32
 refine zB st32 (k := 2) X X X (zg f26.one (zg f29.one zU)) Tryz.sizeOf28 X X X ?_
 intro w33 st34
 obtain ⟨h35, le36, hb37, st39⟩ := st34.freeze (k := 2) rfl
 have hc38 := Cells.of hb37
 refine Y X X (zx X)<|U<|M<|zd<|zd<|O<|Y X X (zo X)<|Y X X (r_neq X X)<|U<|M ?_
 refine zt rfl (fun c40 => ?_) (fun c40 => ?_)
 ·
  replace c40 := of_decide_eq_true c40
  refine zd<|O<|Y X X (zo X)<|Y X X (r_asL X)<|Y X X (zx X)<|U<|M<|zA<|zk<|zS Tryz.results26 ?_
  refine ⟨h35, _, rfl, st39.done, ?_⟩
  refine ⟨_, tup2 rfl (zW ?_), Sl.to (Sl.nil _ _) ?_⟩
  all_goals simp_all [changesR]
 ·
  replace c40 := of_decide_eq_false c40
  refine zz<|M<|zd ?_
  have hz0 : addE t x d = 0 := by simpa using c40
  have han : addN t x d = addX x d := by rw [addN, if_pos hz0]
  have hx0 := (addE_zero hz0).1
  have hx1 := addX_check (addE_zero hz0).2.2
  have hpl := places_len (check_text hx0)
  have hl1 := entries_length t x
  have hl2 := entries_length t (addX x d)
  obtain ⟨h41, le42, f43, st44⟩ := OSl.freeze (k := 0) st39 (f26.up le36) rfl (by first | (rw [han]; have q := lexicon_20 hx1; have q2 := lexicon_12 hx1; omega) | (have q := List.length_filter_le (fun p => decide (headAt t (addX x d) p ≠ headAt t x p)) ((placesT t).take i); rw [List.length_take] at q; omega))
  obtain ⟨h45, le46, f47, st48⟩ := OSl.freeze (k := 1) st44 (f29.up (le36.trans le42)) rfl (by first | (rw [han]; have q := lexicon_20 hx1; have q2 := lexicon_12 hx1; omega) | (have q := List.length_filter_le (fun p => decide (headAt t (addX x d) p ≠ headAt t x p)) ((placesT t).take i); rw [List.length_take] at q; omega))
  refine zaa (er := ([], [], [], [], 0)) (dsts := [25, 26, 27, 28, 29, 30, 31, 32, 10, 11]) st48 Tryz.mixed<|zh 0 [] X t_kr t_kr X X (fun hD wD τD hL hS hO  => (zf (hL.sub hS) (hc5.up (((((le10.trans le16).trans le21).trans le36).trans le42).trans le46)) X Tryz.isAgg24 Tryz.sizeOf24 X))<|zh 1 [] X t_kr t_kr X X (fun hD wD τD hL hS hO  => (zf (hL.sub hS) (hc11.up ((((le16.trans le21).trans le36).trans le42).trans le46)) X Tryz.isAgg28 Tryz.sizeOf28 X)) ?_
  refine zQ 2 (.res (fun h' res_ => Box LOffice h' true (Office.mk (x) (t) (standM (x))) res_) (fun _ _ _ hl f => f.up hl)) [1, 0] rfl t_kr t_kr ?_ ?_
  ·
   intro hD wD τD hL hS hO _ _ _ _
   have st49 := St.start hS
   refine zm st49 rfl rfl rfl Tryz.call66 rfl (c_stem_opened st49.sub (t := t) (t_f0.up (((((((le4.trans le10).trans le16).trans le21).trans le36).trans le42).trans le46).trans hL)) (x := x) (x_f0.up (((((((le4.trans le10).trans le16).trans le21).trans le36).trans le42).trans le46).trans hL)) (x_f1.up (((((((le4.trans le10).trans le16).trans le21).trans le36).trans le42).trans le46).trans hL)) (by first | exact okD_of hx0 | (rw [han]; exact okD_of hx1)) (by first | (have q := lexicon_20 hx0; omega) | (rw [han]; have q := lexicon_20 hx1; omega))) ?_
   intro r50 w51 h52 le53 st54 q55
   obtain ⟨_, rfl, q55_x⟩ := q55
   exact U ⟨_, _, rfl, st54, _, rfl, q55_x⟩
  refine zQ 3 (.res (fun h' res_ => Sl LEntry h' res_ ((entriesL t x))) (fun _ _ _ hl f => f.up hl)) [0] rfl t_kr t_kr ?_ ?_
  ·
   intro hD wD τD hL hS hO gv2_ gf2_
   obtain ⟨gb2, _, rfl, gc2, gv2_0, gv2_1, gv2_2, gv2_3, rfl, gf2_0, gf2_1, gf2_2, gf2_3⟩ := gf2_
   have st56 := St.start hS
   refine zm st56 rfl rfl rfl Tryz.call56 rfl (c_stem_office_entries st56.sub (o := (Office.mk (x) (t) (standM (x)))) gf2_0 gf2_1 gf2_2 gf2_3 gc2 (K0.up (((((((le4.trans le10).trans le16).trans le21).trans le36).trans le42).trans le46).trans hL)) (by first | exact ⟨hx0, rfl⟩ | (rw [han]; exact ⟨hx1, rfl⟩))) ?_
   intro r57 w58 h59 le60 st61 q62
   obtain ⟨v63, e65, f64⟩ := q62
   rw [← e65] at f64
   have f64_b := f64.le
   have f66 := Sl.to f64 (show _ = (entriesL t x) from rfl)
   have f66_b := f66.le
   exact U ⟨_, _, rfl, st61, _, rfl, f66⟩
  refine zh 4 [] X t_kr t_kr X X (fun hD wD τD hL hS hO  => (zf (hL.sub hS) (hc5.up (((((le10.trans le16).trans le21).trans le36).trans le42).trans le46)) X Tryz.isAgg24 Tryz.sizeOf24 X))<|zh 5 [] X t_kr t_kr X X (fun hD wD τD hL hS hO  => (zf (hL.sub hS) (hc38.up (le42.trans le46)) X Tryz.isAgg28 Tryz.sizeOf28 X)) ?_
  refine zQ 6 (.res (fun h' res_ => Box LOffice h' true (Office.mk (((addN (t) (x) (d)))) (t) (standM (((addN (t) (x) (d)))))) res_) (fun _ _ _ hl f => f.up hl)) [1, 0, 2] rfl t_kr t_kr ?_ ?_
  ·
   intro hD wD τD hL hS hO _ _ _ _ gv3_0 gf3_0
   have st67 := St.start hS
   refine zm st67 rfl rfl rfl Tryz.call66 rfl (c_stem_opened st67.sub (t := t) (t_f0.up (((((((le4.trans le10).trans le16).trans le21).trans le36).trans le42).trans le46).trans hL)) (x := ((addN (t) (x) (d)))) (f43.up (le46.trans hL)) (f47.up hL) (by first | exact okD_of hx0 | (rw [han]; exact okD_of hx1)) (by first | (have q := lexicon_20 hx0; omega) | (rw [han]; have q := lexicon_20 hx1; omega))) ?_
   intro r68 w69 h70 le71 st72 q73
   obtain ⟨_, rfl, q73_x⟩ := q73
   exact U ⟨_, _, rfl, st72, _, rfl, q73_x⟩
  refine zQ 7 (.res (fun h' res_ => Sl LEntry h' res_ ((entriesL t (addX x d)))) (fun _ _ _ hl f => f.up hl)) [0] rfl t_kr t_kr ?_ ?_
  ·
   intro hD wD τD hL hS hO gv6_ gf6_
   obtain ⟨gb6, _, rfl, gc6, gv6_0, gv6_1, gv6_2, gv6_3, rfl, gf6_0, gf6_1, gf6_2, gf6_3⟩ := gf6_
   have st74 := St.start hS
   refine zm st74 rfl rfl rfl Tryz.call56 rfl (c_stem_office_entries st74.sub (o := (Office.mk (((addN (t) (x) (d)))) (t) (standM (((addN (t) (x) (d))))))) gf6_0 gf6_1 gf6_2 gf6_3 gc6 (K0.up (((((((le4.trans le10).trans le16).trans le21).trans le36).trans le42).trans le46).trans hL)) (by first | exact ⟨hx0, rfl⟩ | (rw [han]; exact ⟨hx1, rfl⟩))) ?_
   intro r75 w76 h77 le78 st79 q80
   obtain ⟨v81, e83, f82⟩ := q80
   rw [← e83] at f82
   have f82_b := f82.le
   have f84 := Sl.to f82 (show _ = (entriesL t (addX x d)) from by rw [han])
   have f84_b := f84.le
   exact U ⟨_, _, rfl, st79, _, rfl, f84⟩
  refine zQ 8 (.res (fun h' res_ => Sl LEntry h' res_ (((entriesL t x)))) (fun _ _ _ hl f => f.up hl)) [0, 7, 6, 5, 4] rfl t_kr t_kr ?_ ?_
  ·
   intro hD wD τD hL hS hO gv7_0 gf7_0 _ _ _ _ gv2_ gf2_ gv3_0 gf3_0
   obtain ⟨gb2, _, rfl, gc2, gv2_0, gv2_1, gv2_2, gv2_3, rfl, gf2_0, gf2_1, gf2_2, gf2_3⟩ := gf2_
   have st85 := St.start hS
   refine Y X X (zD (v := gv3_0) X) ?_
   exact U ⟨_, _, rfl, st85, _, rfl, gf3_0⟩
  refine zQ 9 (.res (fun h' res_ => Sl LEntry h' res_ (((entriesL t (addX x d))))) (fun _ _ _ hl f => f.up hl)) [8, 7, 6, 5, 4, 3, 2, 1, 0] rfl t_kr t_kr ?_ ?_
  ·
   intro hD wD τD hL hS hO _ _ _ _ gv2_ gf2_ gv3_0 gf3_0 _ _ _ _ gv6_ gf6_ gv7_0 gf7_0 gv8_0 gf8_0
   obtain ⟨gb2, _, rfl, gc2, gv2_0, gv2_1, gv2_2, gv2_3, rfl, gf2_0, gf2_1, gf2_2, gf2_3⟩ := gf2_
   obtain ⟨gb6, _, rfl, gc6, gv6_0, gv6_1, gv6_2, gv6_3, rfl, gf6_0, gf6_1, gf6_2, gf6_3⟩ := gf6_
   have st86 := St.start hS
   refine Y X X (zD (v := gv7_0) X) ?_
   exact U ⟨_, _, rfl, st86, _, rfl, gf7_0⟩
  refine zan X X X X X X ⟨t_kr, X, t_kr, X, t_kr, X, X, t_kr, cx_nil⟩ ?_
  intro hE87 w88 _ le89 st90 _ _ _ _ gv2_x91 gf2_x91 gv3_0x91 gf3_0x91 _ _ _ _ gv6_x91 gf6_x91 gv7_0x91 gf7_0x91 gv8_0x91 gf8_0x91 gv9_0x91 gf9_0x91
  obtain ⟨gb2x91, _, rfl, gc2x91, gv2_0x91, gv2_1x91, gv2_2x91, gv2_3x91, rfl, gf2_0x91, gf2_1x91, gf2_2x91, gf2_3x91⟩ := gf2_x91
  obtain ⟨gb6x91, _, rfl, gc6x91, gv6_0x91, gv6_1x91, gv6_2x91, gv6_3x91, rfl, gf6_0x91, gf6_1x91, gf6_2x91, gf6_3x91⟩ := gf6_x91
  refine AllDeps.fin X<|M<|zd<|O<|Y X X (r_asL X)<|U<|M<|zd<|zd<|O<|Y X X (zy (v := gv9_0x91) X)<|Y X X (zag gf9_0x91 X Tryz.underlying117)<|Y X X (zo X)<|U<|M<|zF ?_
  have st95 := st90.snoc
  have f96 := OSl.nil LPlace 52 hE87
  refine zX [12, 13, 14, 35, 36, 37, 38, 39, 40, 41, 42, 43, 44, 45, 46, 47, 48, 49, 50, 51] (G := Nat × Value × List (Nat × Obj) × Heap) (fun ⟨i, v_12, o_12, h92⟩ => [(12, v_12), (35, .int .i64 (i : Int))]) (fun ⟨i, v_12, o_12, h92⟩ w' => Le hE87 h92 ∧ St h w h92 w' [[], [], [], o_12] ∧ (OSl LPlace 52 h92 v_12 (((placesT t).take i).filter fun p => decide (headAt t (addX x d) p ≠ headAt t x p)) o_12) ∧ (i ≤ (entriesL t (addX x d)).length)) (fun ⟨i, v_12, o_12, h92⟩ => (entriesL t (addX x d)).length - i) ⟨0, (.slice none 0 0), [], hE87⟩ ⟨rfl, rfl, trivial⟩ ⟨Le.refl _, st95, (OSl.to f96 (by rfl)), zak⟩ ?_
  rintro ⟨i, v_12, o_12, h92⟩ _ w97 ⟨le93, st94, hO_12, hi⟩
  refine zd<|O<|Y X X (zal X X)<|U<|M<|zd ?_
  refine zt rfl (fun c98 => ?_) (fun c98 => ?_)
  ·
   replace c98 := of_decide_eq_true c98
   refine zz<|M<|zd<|zF<|zd<|O<|Y X X (zo X) ?_
   have hy : ∃ y_, ((((entriesL t (addX x d)))))[i]? = some y_ := ⟨_, List.getElem?_eq_getElem (by omega)⟩
   obtain ⟨y, hy⟩ := hy
   obtain ⟨b99, o100, _, he102, hc101, hr_y⟩ := Sl.elem (gf9_0x91.up le93) hy
   obtain ⟨rfl, ls103, ls104, lu105⟩ := hr_y
   simp only [big] at ls103
   simp only [big] at ls104
   refine Y X X (zp he102 X X (hk := X) (hu := Tryz.underlying117) (hz := Tryz.sizeOf120))<|Y X X (zf st94.sub hc101 X Tryz.isAgg120 Tryz.sizeOf120 X)<|zO st94 Tryz.zeroValue120 X X ?_
   intro b106 w107 st108
   refine Y X X (zx X)<|zB st108 (k := 4) X X X (zg X (zg X (zg X (zg X (zg X (zg X zU)))))) Tryz.sizeOf120 X X X ?_
   intro w109 st110
   obtain ⟨h111, le112, hb113, st115⟩ := st110.freeze (k := 4) rfl
   have hc114 := Cells.of hb113
   refine U<|M<|zd<|zai Tryz.mixed t_kr (Cls h111 _) (Cls.drew st115)<|ze X X (fun _ hC => (zf hC.sub hc114 X Tryz.isAgg120 Tryz.sizeOf120 X))<|ze X X (fun _ _ => (zy (v := gv8_0x91) X))<|ze X X (fun _ _ => (zo X)) ?_
   have hz : ∃ y_, ((((entriesL t x))))[i]? = some y_ := ⟨_, List.getElem?_eq_getElem (by omega)⟩
   obtain ⟨z, hz⟩ := hz
   obtain ⟨b116, o117, _, he119, hc118, hr_z⟩ := Sl.elem (gf8_0x91.up (le93.trans le112)) hz
   obtain ⟨rfl, ls120, ls121, lu122⟩ := hr_z
   simp only [big] at ls120
   simp only [big] at ls121
   refine ze X X (fun _ _ => (zp he119 X X (hk := X) (hu := Tryz.underlying117) (hz := Tryz.sizeOf120)))<|ze X X (fun _ hC => (zf hC.sub hc118 X Tryz.isAgg120 Tryz.sizeOf120 X))<|ze X X (fun _ _ => (r_stneq X X Tryz.eqGuardType120 (Tryz.eq_Entry y z)))<|zac ?_
   rintro w123 ⟨h124, s125⟩
   have st126 := st115.call0 s125
   refine M ?_
   refine zt rfl (fun c127 => ?_) (fun c127 => ?_)
   ·
    replace c127 := of_decide_eq_true c127
    refine O<|Y X X (zy (v := v_12) X)<|Y X X (zc X Tryz.underlying120 X Tryz.sizeOf52 X)<|Y X X (zR (j := 0) st126.sub (hc114.up s125.le) (us := [.int .i64 (y.at_.chapter), .int .i64 (y.at_.line), .int .i64 (y.at_.word)]) X X Tryz.isAgg52 Tryz.sizeOf52 X X)<|zV (L := LPlace) (xs := [y.at_]) (cs := [.int .i64 (y.at_.chapter), .int .i64 (y.at_.line), .int .i64 (y.at_.word)]) st126 (Enc.cons (L := LPlace) (vs := [.int .i64 (y.at_.chapter), .int .i64 (y.at_.line), .int .i64 (y.at_.word)]) (x := y.at_) (h := h124) (X) Enc.nil) X X X Tryz.underlying63 Tryz.info52 X X X t_kr ?_
    intro v128 w129 h132 le133 f130 st131
    refine zP (k := 3) (nb := 24) st131 (hO_12.up ((le112.trans s125.le).trans le133)) rfl f130 rfl rfl rfl Tryz.underlying63 Tryz.info52 rfl rfl rfl (by decide) rfl (by have q := List.length_filter_le (fun p => decide (headAt t (addX x d) p ≠ headAt t x p)) ((placesT t).take i); rw [List.length_take] at q; first | omega | (simp only [List.length_append, List.length_cons, List.length_nil]; omega)) (by have q := List.length_filter_le (fun p => decide (headAt t (addX x d) p ≠ headAt t x p)) ((placesT t).take i); rw [List.length_take] at q; first | omega | (simp only [List.length_append, List.length_cons, List.length_nil]; omega)) ?_
    intro v134 o135 w136 _ e137 f138 st139
    subst e137
    refine Y X X (zD (v := v134) X)<|U<|zI<|M<|O<|Y X X (zah X X t_om)<|Y X X (zo X)<|U<|M ?_
    refine ⟨⟨i + 1, v134, o135, h132⟩, ⟨rfl, rfl, trivial⟩, ?_, ⟨(((le93.trans le112).trans s125.le).trans le133), st139.take 4, ?_, ?_⟩, ?_⟩
    ·exact zae
    ·refine OSl.to f138 ?_
     obtain ⟨p, hp, e1, e2⟩ := change_at hy hz
     rw [take_snoc hp, List.filter_append, List.filter_cons, if_pos (by simpa [e2] using c127), e1]; rfl
    ·first | omega | (simp; omega)
    ·show (entriesL t (addX x d)).length - ((i + 1)) < (entriesL t (addX x d)).length - i
     omega
   ·
    replace c127 := of_decide_eq_false c127
    refine zz<|zI<|M<|O<|Y X X (zah X X t_om)<|Y X X (zo X)<|U<|M ?_
    refine ⟨⟨i + 1, v_12, o_12, h124⟩, ⟨rfl, rfl, trivial⟩, ?_, ⟨((le93.trans le112).trans s125.le), st126.take 4, ?_, ?_⟩, ?_⟩
    ·exact zae
    ·refine OSl.to (hO_12.up (le112.trans s125.le)) ?_
     obtain ⟨p, hp, e1, e2⟩ := change_at hy hz
     rw [take_snoc hp, List.filter_append, List.filter_cons, if_neg (by simpa [e2] using c127)]; simp
    ·first | omega | (simp; omega)
    ·show (entriesL t (addX x d)).length - ((i + 1)) < (entriesL t (addX x d)).length - i
     omega
  ·
   replace c98 := of_decide_eq_false c98
   refine zab<|zn<|zn<|zT<|M<|zd<|O<|Y X X (zy (v := v_12) X)<|Y X X (zD (v := v_12) X)<|Y X X (zx X)<|U<|M<|zA<|zS Tryz.results26 ?_
   obtain ⟨h140, le141, f142, st143⟩ := OSl.freeze (k := 3) st94 hO_12 rfl (by first | (rw [han]; have q := lexicon_20 hx1; have q2 := lexicon_12 hx1; omega) | (have q := List.length_filter_le (fun p => decide (headAt t (addX x d) p ≠ headAt t x p)) ((placesT t).take i); rw [List.length_take] at q; omega))
   refine ⟨h140, _, rfl, st143.done, ?_⟩
   refine ⟨_, tup2 rfl (zW ?_), Sl.to f142 ?_⟩
   ·exact hz0.symm
   ·rw [List.take_of_length_le (by omega), changesR, if_pos hz0]; rfl
end Go.Pk
