/- A PART OF THE PROOF: contracts of functions, each walked once (much of it printed by a program of the author's own). -/
import Derived.Test.YtngmpkoobdkeiaaGreatDoorT9
import Derived.Test.YtngmpkoobdkeiaaGreatDoorT3
import Derived.Test.YtngmpkoobdkeiaaGreatDoorT8
import Derived.Test.YtngmpkoobdkeiaaGreatDoorT2
import Derived.Test.YtngmpkoobdkeiaaGreatDoorT4
namespace Go.Pk
open Go Go.RowKit Go.Proofs
set_option maxRecDepth 4000 in
theorem c_postilref04_HeadOf {h : Heap} {w : World} (hs : Sub h w) {t : Text} {t_v0 : Value} (t_f0 : Sl LChapter h t_v0 t.chapters) {x : Lexicon} {x_v0 : Value} (x_f0 : Sl LRule h x_v0 x.rules) {x_v1 : Value} (x_f1 : Sl LDecision h x_v1 x.decisions) {p : Place} : Calls Tryz.prog 30 #[.agg #[t_v0], .agg #[x_v0, x_v1], .agg #[.int .i64 p.chapter, .int .i64 p.line, .int .i64 p.word]] w (Rets h w (fun _ _ res_ => res_ = .tuple #[.agg #[strV ((askR t x p).to).stem, .int .u8 ((askR t x p).to).mark], .int .i64 (askE t x p)])) := by
 refine zM (n := 33) (args := [.agg #[t_v0], .agg #[x_v0, x_v1], .agg #[.int .i64 p.chapter, .int .i64 p.line, .int .i64 p.word]]) Tryz.func30 X X X ?_
 have st0 : St h w h w [] := St.start hs
 have t_f0_b := t_f0.le
 have x_f0_b := x_f0.le
 have x_f1_b := x_f1.le
 refine zd<|O<|zp st0 (cs := [t_v0]) X X X ?_
 intro b1 w2 h3 le4 hc5 st6
 refine zp st6 (cs := [x_v0, x_v1]) X X X ?_
 intro b7 w8 h9 le10 hc11 st12
 refine zp st12 (cs := [.int .i64 (p.chapter), .int .i64 (p.line), .int .i64 (p.word)]) X X X ?_
 intro b13 w14 h15 le16 hc17 st18
 refine zR st18 Tryz.zeroValue54 X X ?_
 intro b19 w20 st21
 refine Y X X (zz X)<|E<|M<|zd<|zd<|O<|Y X X (zf st21.sub (hc5.up (le10.trans le16)) X Tryz.isAgg24 Tryz.sizeOf24 X)<|Y X X (zf st21.sub (hc11.up le16) X Tryz.isAgg28 Tryz.sizeOf28 X)<|zm st21 X X X Tryz.call15 X (c_postilref04_Check st21.sub (t := t) (t_f0.up ((le4.trans le10).trans le16)) (x := x) (x_f0.up ((le4.trans le10).trans le16)) (x_f1.up ((le4.trans le10).trans le16))) ?_
 intro r22 w23 h24 le25 st26 q27
 obtain rfl := q27
 refine Y X X (zz X)<|E<|M<|zd<|O<|Y X X (zo X)<|Y X X (r_neq X X)<|E<|M ?_
 refine zr rfl (fun c28 => ?_) (fun c28 => ?_)
 ·
  replace c28 := of_decide_eq_true c28
  refine zd<|O<|Y X X (r_build (cs := [strV [], .int .u8 0]) t_kr)<|Y X X (zo X)<|zI st26 (k := 0) X X X (zg X (zg X zX)) Tryz.sizeOf54 X X X ?_
  intro w29 st30
  refine Y X X (zz X)<|E<|M<|zy<|zj<|Post.retcell2 Tryz.results30 X Tryz.isAgg54 Tryz.sizeOf54 X (st30.get (k := 0) X) ?_
  refine ⟨h24, _, rfl, st30.done, ?_⟩
  refine tup2 ?_ (zV ?_)
  ·rw [show askR t x p = zDecision from by simp_all [askR]]; rfl
  ·simp_all [askE]
 ·
  replace c28 := of_decide_eq_false c28
  refine zB<|M<|zd<|zd<|O<|Y X X (zf st26.sub (hc5.up ((le10.trans le16).trans le25)) X Tryz.isAgg24 Tryz.sizeOf24 X)<|Y X X (zf st26.sub (hc17.up le25) X Tryz.isAgg52 Tryz.sizeOf52 X)<|zm st26 X X X Tryz.call72 X (c_postilref01_Place st26.sub (t := t) (t_f0.up (((le4.trans le10).trans le16).trans le25)) (p := p)) ?_
  intro r31 w32 h33 le34 st35 q36
  obtain rfl := q36
  refine Y X X (r_not X)<|E<|M ?_
  refine zr rfl (fun c37 => ?_) (fun c37 => ?_)
  ·
   refine zd<|O<|Y X X (r_build (cs := [strV [], .int .u8 0]) t_kr)<|zI st35 (k := 0) X X X (zg X (zg X zX)) Tryz.sizeOf54 X X X ?_
   intro w38 st39
   refine Y X X (zz X)<|E<|M<|zy<|zj<|Post.retcell2 Tryz.results30 X Tryz.isAgg54 Tryz.sizeOf54 X (st39.get (k := 0) X) ?_
   refine ⟨h33, _, rfl, st39.done, ?_⟩
   refine tup2 ?_ (zV ?_)
   ·rw [show askR t x p = zDecision from by simp_all [askR]]; rfl
   ·simp_all [askE]
  ·
   refine zB<|M<|zd ?_
   have hx0 : checkN t x = 0 := by simpa using c28
   have hp0 : placeB t p = true := by simpa using c37
   refine zac (er := ([], [], [], [], 0)) (dsts := [24, 25, 26, 27, 28, 29, 23, 30, 31, 9, 10]) st35 Tryz.mixed<|zi 0 [] X t_kr t_kr X X (fun hD wD τD hL hS hO  => (zf (hL.sub hS) (hc5.up (((le10.trans le16).trans le25).trans le34)) X Tryz.isAgg24 Tryz.sizeOf24 X))<|zi 1 [] X t_kr t_kr X X (fun hD wD τD hL hS hO  => (zf (hL.sub hS) (hc11.up ((le16.trans le25).trans le34)) X Tryz.isAgg28 Tryz.sizeOf28 X))<|zi 2 [] X t_kr t_kr X X (fun hD wD τD hL hS hO  => (zf (hL.sub hS) (hc11.up ((le16.trans le25).trans le34)) X Tryz.isAgg28 Tryz.sizeOf28 X)) ?_
   refine zS 3 (.res (fun h' res_ => Sl LDecision h' res_ (standingR (x))) (fun _ _ _ hl f => f.up hl)) [0] rfl t_kr t_kr ?_ ?_
   ·
    intro hD wD τD hL hS hO _ _
    have st40 := St.start hS
    refine zm st40 rfl rfl rfl Tryz.call46 rfl (c_postilref04_standing st40.sub (x := x) (x_f0.up (((((le4.trans le10).trans le16).trans le25).trans le34).trans hL)) (x_f1.up (((((le4.trans le10).trans le16).trans le25).trans le34).trans hL)) (by exact lexicon_v hx0) (by exact lexicon_v1 hx0) (by exact lexicon_20 hx0)) ?_
    intro r41 w42 h43 le44 st45 q46
    obtain ⟨v47, e49, f48⟩ := q46
    rw [← e49] at f48
    have f48_b := f48.le
    exact E ⟨_, _, rfl, st45, _, rfl, f48⟩
   refine zi 4 [] X t_kr t_kr X X (fun hD wD τD hL hS hO  => (zf (hL.sub hS) (hc17.up (le25.trans le34)) X Tryz.isAgg52 Tryz.sizeOf52 X)) ?_
   refine zS 5 (.det (.tuple #[.agg (List.toArray [strV ((headR (x) ((standingR (x))) (p) (wordD (t) (p))).to.stem), .int .u8 ((headR (x) ((standingR (x))) (p) (wordD (t) (p))).to.mark)]), .int .i64 ((headR (x) ((standingR (x))) (p) (wordD (t) (p))).number)])) [4, 3, 0, 1] rfl t_kr t_kr ?_ ?_
   ·
    intro hD wD τD hL hS hO _ _ _ _ _ _ gv3_0 gf3_0
    have st50 := St.start hS
    refine zm st50 rfl rfl rfl Tryz.call73 rfl (c_postilref04_head st50.sub (t := t) (t_f0.up (((((le4.trans le10).trans le16).trans le25).trans le34).trans hL)) (x := x) (x_f0.up (((((le4.trans le10).trans le16).trans le25).trans le34).trans hL)) (x_f1.up (((((le4.trans le10).trans le16).trans le25).trans le34).trans hL)) gf3_0 (p := p) (by exact hx0) (by exact hp0)) ?_
    intro r51 w52 h53 le54 st55 q56
    obtain rfl := q56
    exact E ⟨_, _, rfl, st55, (), rfl, trivial⟩
   refine zi 6 [0] X t_kr t_kr X X (fun hD wD τD hL hS hO _ _ => (r_mvT X))<|zi 7 [0] X t_kr t_kr X X (fun hD wD τD hL hS hO _ _ => (zC (v := (.agg (List.toArray _))) X X))<|zi 8 [1] X t_kr t_kr X X (fun hD wD τD hL hS hO _ _ => (zC (v := (.int _ _)) X X))<|Drw.al Tryz.zeroValue54 X<|zaf<|zi 11 [10, 9, 8, 7, 6, 5, 4, 3, 2, 1, 0] X t_kr t_kr X X (fun hD wD τD hL hS hO _ _ _ _ _ _ gv3_0 gf3_0 _ _ _ _ _ _ _ _ _ _ => (zz X))<|zaq X X X X X X ⟨t_kr, X, t_kr, X, t_kr, X, X, t_kr, (zY X cx_nil)⟩ ?_
   intro b57
   intro hE59 w60 _ le61 st62 _ _ _ _ _ _ gv3_0x58 gf3_0x58 _ _ _ _ _ _ _ _
   refine zI st62 (k := 1) X X X (zg X (zg X zX)) Tryz.sizeOf54 X X X ?_
   intro w63 st64
   obtain ⟨h65, le66, hb67, st69⟩ := st64.freeze (k := 1) rfl
   have hc68 := Cells.of hb67
   refine E ⟨undef, rfl, _, _, le66, st69, ?_⟩
   intro hE70 w71 _ le72 st73 _ _ _ _ _ _ gv3_0x74 gf3_0x74 _ _ _ _ _ _ _ _ _ _ _ _
   refine AllDeps.fin X<|M<|zd<|O<|Y X X (zf st73.sub (hc68.up le72) X Tryz.isAgg54 Tryz.sizeOf54 X)<|zI st73 (k := 0) X X X (zg X (zg X zX)) Tryz.sizeOf54 X X X ?_
   intro w75 st76
   refine Y X X (zz X)<|E<|M<|zy<|Post.retcell2 Tryz.results30 X Tryz.isAgg54 Tryz.sizeOf54 X (st76.get (k := 0) X) ?_
   refine ⟨hE70, _, rfl, st76.done, ?_⟩
   refine tup2 ?_ (zV ?_)
   ·rw [headR_eq hx0]; simp only [askR, hx0, hp0, and_self, if_true]; rfl
   ·simp [askE, hx0, hp0]
set_option maxRecDepth 4000 in
theorem c_postilref04_By {h : Heap} {w : World} (hs : Sub h w) {t : Text} {t_v0 : Value} (t_f0 : Sl LChapter h t_v0 t.chapters) {x : Lexicon} {x_v0 : Value} (x_f0 : Sl LRule h x_v0 x.rules) {x_v1 : Value} (x_f1 : Sl LDecision h x_v1 x.decisions) {p : Place} : Calls Tryz.prog 32 #[.agg #[t_v0], .agg #[x_v0, x_v1], .agg #[.int .i64 p.chapter, .int .i64 p.line, .int .i64 p.word]] w (Rets h w (fun _ _ res_ => res_ = .tuple #[.int .i64 ((askR t x p).number), .int .i64 (askE t x p)])) := by
 refine zM (n := 31) (args := [.agg #[t_v0], .agg #[x_v0, x_v1], .agg #[.int .i64 p.chapter, .int .i64 p.line, .int .i64 p.word]]) Tryz.func32 X X X ?_
 have st0 : St h w h w [] := St.start hs
 have t_f0_b := t_f0.le
 have x_f0_b := x_f0.le
 have x_f1_b := x_f1.le
 refine zd<|O<|zp st0 (cs := [t_v0]) X X X ?_
 intro b1 w2 h3 le4 hc5 st6
 refine zp st6 (cs := [x_v0, x_v1]) X X X ?_
 intro b7 w8 h9 le10 hc11 st12
 refine zp st12 (cs := [.int .i64 (p.chapter), .int .i64 (p.line), .int .i64 (p.word)]) X X X ?_
 intro b13 w14 h15 le16 hc17 st18
 refine Y X X (zz X)<|Y X X (zz X)<|E<|M<|zd<|zd<|O<|Y X X (zf st18.sub (hc5.up (le10.trans le16)) X Tryz.isAgg24 Tryz.sizeOf24 X)<|Y X X (zf st18.sub (hc11.up le16) X Tryz.isAgg28 Tryz.sizeOf28 X)<|zm st18 X X X Tryz.call15 X (c_postilref04_Check st18.sub (t := t) (t_f0.up ((le4.trans le10).trans le16)) (x := x) (x_f0.up ((le4.trans le10).trans le16)) (x_f1.up ((le4.trans le10).trans le16))) ?_
 intro r19 w20 h21 le22 st23 q24
 obtain rfl := q24
 refine Y X X (zz X)<|E<|M<|zd<|O<|Y X X (zo X)<|Y X X (r_neq X X)<|E<|M ?_
 refine zr rfl (fun c25 => ?_) (fun c25 => ?_)
 ·
  replace c25 := of_decide_eq_true c25
  refine zd<|O<|Y X X (zo X)<|Y X X (zz X)<|Y X X (zz X)<|E<|M<|zy<|zj<|zP Tryz.results32 ?_
  refine ⟨h21, _, rfl, st23.done, ?_⟩
  refine tup2 (zV ?_) (zV ?_)
  ·rw [show askR t x p = zDecision from by simp_all [askR]]; rfl
  ·simp_all [askE]
 ·
  replace c25 := of_decide_eq_false c25
  refine zB<|M<|zd<|zd<|O<|Y X X (zf st23.sub (hc5.up ((le10.trans le16).trans le22)) X Tryz.isAgg24 Tryz.sizeOf24 X)<|Y X X (zf st23.sub (hc17.up le22) X Tryz.isAgg52 Tryz.sizeOf52 X)<|zm st23 X X X Tryz.call72 X (c_postilref01_Place st23.sub (t := t) (t_f0.up (((le4.trans le10).trans le16).trans le22)) (p := p)) ?_
  intro r26 w27 h28 le29 st30 q31
  obtain rfl := q31
  refine Y X X (r_not X)<|E<|M ?_
  refine zr rfl (fun c32 => ?_) (fun c32 => ?_)
  ·
   refine zd<|O<|Y X X (zz X)<|Y X X (zz X)<|E<|M<|zy<|zj<|zP Tryz.results32 ?_
   refine ⟨h28, _, rfl, st30.done, ?_⟩
   refine tup2 (zV ?_) (zV ?_)
   ·rw [show askR t x p = zDecision from by simp_all [askR]]; rfl
   ·simp_all [askE]
  ·
   refine zB<|M<|zd ?_
   have hx0 : checkN t x = 0 := by simpa using c25
   have hp0 : placeB t p = true := by simpa using c32
   refine zac (er := ([], [], [], [], 0)) (dsts := [22, 23, 24, 25, 26, 27, 21, 28, 29, 9, 10]) st30 Tryz.mixed<|zi 0 [] X t_kr t_kr X X (fun hD wD τD hL hS hO  => (zf (hL.sub hS) (hc5.up (((le10.trans le16).trans le22).trans le29)) X Tryz.isAgg24 Tryz.sizeOf24 X))<|zi 1 [] X t_kr t_kr X X (fun hD wD τD hL hS hO  => (zf (hL.sub hS) (hc11.up ((le16.trans le22).trans le29)) X Tryz.isAgg28 Tryz.sizeOf28 X))<|zi 2 [] X t_kr t_kr X X (fun hD wD τD hL hS hO  => (zf (hL.sub hS) (hc11.up ((le16.trans le22).trans le29)) X Tryz.isAgg28 Tryz.sizeOf28 X)) ?_
   refine zS 3 (.res (fun h' res_ => Sl LDecision h' res_ (standingR (x))) (fun _ _ _ hl f => f.up hl)) [0] rfl t_kr t_kr ?_ ?_
   ·
    intro hD wD τD hL hS hO _ _
    have st33 := St.start hS
    refine zm st33 rfl rfl rfl Tryz.call46 rfl (c_postilref04_standing st33.sub (x := x) (x_f0.up (((((le4.trans le10).trans le16).trans le22).trans le29).trans hL)) (x_f1.up (((((le4.trans le10).trans le16).trans le22).trans le29).trans hL)) (by exact lexicon_v hx0) (by exact lexicon_v1 hx0) (by exact lexicon_20 hx0)) ?_
    intro r34 w35 h36 le37 st38 q39
    obtain ⟨v40, e42, f41⟩ := q39
    rw [← e42] at f41
    have f41_b := f41.le
    exact E ⟨_, _, rfl, st38, _, rfl, f41⟩
   refine zi 4 [] X t_kr t_kr X X (fun hD wD τD hL hS hO  => (zf (hL.sub hS) (hc17.up (le22.trans le29)) X Tryz.isAgg52 Tryz.sizeOf52 X)) ?_
   refine zS 5 (.det (.tuple #[.agg (List.toArray [strV ((headR (x) ((standingR (x))) (p) (wordD (t) (p))).to.stem), .int .u8 ((headR (x) ((standingR (x))) (p) (wordD (t) (p))).to.mark)]), .int .i64 ((headR (x) ((standingR (x))) (p) (wordD (t) (p))).number)])) [4, 3, 0, 1] rfl t_kr t_kr ?_ ?_
   ·
    intro hD wD τD hL hS hO _ _ _ _ _ _ gv3_0 gf3_0
    have st43 := St.start hS
    refine zm st43 rfl rfl rfl Tryz.call73 rfl (c_postilref04_head st43.sub (t := t) (t_f0.up (((((le4.trans le10).trans le16).trans le22).trans le29).trans hL)) (x := x) (x_f0.up (((((le4.trans le10).trans le16).trans le22).trans le29).trans hL)) (x_f1.up (((((le4.trans le10).trans le16).trans le22).trans le29).trans hL)) gf3_0 (p := p) (by exact hx0) (by exact hp0)) ?_
    intro r44 w45 h46 le47 st48 q49
    obtain rfl := q49
    exact E ⟨_, _, rfl, st48, (), rfl, trivial⟩
   refine zi 6 [0] X t_kr t_kr X X (fun hD wD τD hL hS hO _ _ => (r_mvT X))<|zi 7 [0] X t_kr t_kr X X (fun hD wD τD hL hS hO _ _ => (zC (v := (.agg (List.toArray _))) X X))<|zi 8 [1] X t_kr t_kr X X (fun hD wD τD hL hS hO _ _ => (zC (v := (.int _ _)) X X))<|Drw.al Tryz.zeroValue54 X<|zaf<|zi 11 [10, 9, 8, 7, 6, 5, 4, 3, 2, 1, 0] X t_kr t_kr X X (fun hD wD τD hL hS hO _ _ _ _ _ _ gv3_0 gf3_0 _ _ _ _ _ _ _ _ _ _ => (zz X))<|zaq X X X X X X ⟨t_kr, X, t_kr, X, t_kr, X, X, t_kr, (zY X cx_nil)⟩ ?_
   intro b50
   intro hE52 w53 _ le54 st55 _ _ _ _ _ _ gv3_0x51 gf3_0x51 _ _ _ _ _ _ _ _
   refine zI st55 (k := 0) X X X (zg X (zg X zX)) Tryz.sizeOf54 X X X ?_
   intro w56 st57
   obtain ⟨h58, le59, hb60, st62⟩ := st57.freeze (k := 0) rfl
   have hc61 := Cells.of hb60
   refine E ⟨undef, rfl, _, _, le59, st62, ?_⟩
   intro hE63 w64 _ le65 st66 _ _ _ _ _ _ gv3_0x67 gf3_0x67 _ _ _ _ _ _ _ _ _ _ _ _
   refine AllDeps.fin X<|M<|zd<|O<|Y X X (zo X)<|Y X X (zz X)<|Y X X (zz X)<|E<|M<|zy<|zP Tryz.results32 ?_
   refine ⟨hE63, _, rfl, st66.done, ?_⟩
   refine tup2 (zV ?_) (zV ?_)
   ·rw [headR_eq hx0]; simp [askR, hx0, hp0]
   ·simp [askE, hx0, hp0]
set_option maxRecDepth 4000 in
theorem c_postilref04_All {h : Heap} {w : World} (hs : Sub h w) {t : Text} {t_v0 : Value} (t_f0 : Sl LChapter h t_v0 t.chapters) {x : Lexicon} {x_v0 : Value} (x_f0 : Sl LRule h x_v0 x.rules) {x_v1 : Value} (x_f1 : Sl LDecision h x_v1 x.decisions) (hx : checkN t x = 0) : Calls Tryz.prog 60 #[.agg #[t_v0], .agg #[x_v0, x_v1]] w (Rets h w (fun h' _ res_ => ∃ u0, res_ = u0 ∧ Sl LHead h' u0 ((headsL t x)))) := by
 refine zM (n := 37) (args := [.agg #[t_v0], .agg #[x_v0, x_v1]]) Tryz.func60 X X X ?_
 have st0 : St h w h w [] := St.start hs
 have t_f0_b := t_f0.le
 have x_f0_b := x_f0.le
 have x_f1_b := x_f1.le
 refine zd<|O<|zp st0 (cs := [t_v0]) X X X ?_
 intro b1 w2 h3 le4 hc5 st6
 refine zp st6 (cs := [x_v0, x_v1]) X X X ?_
 intro b7 w8 h9 le10 hc11 st12
 refine Y X X (r_asL X)<|E<|M<|zd<|O<|Y X X (r_asL X)<|E<|M<|zd ?_
 have hx0 := hx
 have ht0 := check_text hx
 refine zac (er := ([], [], [], [], 0)) (dsts := [11, 12, 13, 14, 6, 7]) st12 Tryz.mixed<|zi 0 [] X t_kr t_kr X X (fun hD wD τD hL hS hO  => (zf (hL.sub hS) (hc5.up le10) X Tryz.isAgg24 Tryz.sizeOf24 X)) ?_
 refine zS 1 (.res (fun h' res_ => Sl LPlace h' res_ ((placesT (t)))) (fun _ _ _ hl f => f.up hl)) [0] rfl t_kr t_kr ?_ ?_
 ·
  intro hD wD τD hL hS hO _ _
  have st13 := St.start hS
  refine zm st13 rfl rfl rfl Tryz.call59 rfl (c_postilref01_All st13.sub (t := t) (t_f0.up ((le4.trans le10).trans hL)) (by exact ht0)) ?_
  intro r14 w15 h16 le17 st18 q19
  obtain ⟨v20, e22, f21⟩ := q19
  rw [← e22] at f21
  have f21_b := f21.le
  exact E ⟨_, _, rfl, st18, _, rfl, f21⟩
 refine zi 2 [] X t_kr t_kr X X (fun hD wD τD hL hS hO  => (zf (hL.sub hS) hc11 X Tryz.isAgg28 Tryz.sizeOf28 X)) ?_
 refine zS 3 (.res (fun h' res_ => Sl LDecision h' res_ (standingR (x))) (fun _ _ _ hl f => f.up hl)) [0, 1] rfl t_kr t_kr ?_ ?_
 ·
  intro hD wD τD hL hS hO _ _ gv1_0 gf1_0
  have st23 := St.start hS
  refine zm st23 rfl rfl rfl Tryz.call46 rfl (c_postilref04_standing st23.sub (x := x) (x_f0.up ((le4.trans le10).trans hL)) (x_f1.up ((le4.trans le10).trans hL)) (by exact lexicon_v hx0) (by exact lexicon_v1 hx0) (by exact lexicon_20 hx0)) ?_
  intro r24 w25 h26 le27 st28 q29
  obtain ⟨v30, e32, f31⟩ := q29
  rw [← e32] at f31
  have f31_b := f31.le
  exact E ⟨_, _, rfl, st28, _, rfl, f31⟩
 refine zS 4 (.res (fun h' res_ => Sl LPlace h' res_ (((placesT (t))))) (fun _ _ _ hl f => f.up hl)) [0, 3, 2] rfl t_kr t_kr ?_ ?_
 ·
  intro hD wD τD hL hS hO gv3_0 gf3_0 _ _ gv1_0 gf1_0
  have st33 := St.start hS
  refine Y X X (zG (v := gv1_0) X) ?_
  exact E ⟨_, _, rfl, st33, _, rfl, gf1_0⟩
 refine zS 5 (.res (fun h' res_ => Sl LDecision h' res_ ((standingR (x)))) (fun _ _ _ hl f => f.up hl)) [4, 3, 2, 1, 0] rfl t_kr t_kr ?_ ?_
 ·
  intro hD wD τD hL hS hO _ _ gv1_0 gf1_0 _ _ gv3_0 gf3_0 gv4_0 gf4_0
  have st34 := St.start hS
  refine Y X X (zG (v := gv3_0) X) ?_
  exact E ⟨_, _, rfl, st34, _, rfl, gf3_0⟩
 refine zaq X X X X X X ⟨t_kr, X, t_kr, X, t_kr, X, X, t_kr, cx_nil⟩ ?_
 intro hE35 w36 _ le37 st38 _ _ gv1_0x39 gf1_0x39 _ _ gv3_0x39 gf3_0x39 gv4_0x39 gf4_0x39 gv5_0x39 gf5_0x39
 refine AllDeps.fin X ?_
 have hpl := places_len ht0
 refine M<|zd<|zd<|O<|Y X X (zz X)<|E<|M<|zF ?_
 have st43 := st38.snoc
 have f44 := OSl.nil LHead 54 hE35
 refine zW [5, 8, 9, 10, 15, 16, 17, 18, 19, 20, 21, 22, 23, 24, 25, 26, 27, 28, 29, 30, 31, 32, 33, 34, 35] (G := Nat × Value × List (Nat × Obj) × Heap) (fun ⟨k, v_5, o_5, h40⟩ => [(5, v_5), (8, .int .i64 (k : Int))]) (fun ⟨k, v_5, o_5, h40⟩ w' => Le hE35 h40 ∧ St h w h40 w' [o_5] ∧ (OSl LHead 54 h40 v_5 (((placesT t).take k).map (headAt t x)) o_5) ∧ (k ≤ (placesT t).length)) (fun ⟨k, v_5, o_5, h40⟩ => (placesT t).length - k) ⟨0, (.slice none 0 0), [], hE35⟩ ⟨rfl, rfl, trivial⟩ ⟨Le.refl _, st43, (OSl.to f44 (by rfl)), zak⟩ ?_
 rintro ⟨k, v_5, o_5, h40⟩ _ w45 ⟨le41, st42, hO_5, hk⟩
 refine zd<|zd<|O<|Y X X (zo X)<|Y X X (zA (v := gv4_0x39) X)<|Y X X (zae (gf4_0x39.up le41) X Tryz.underlying63)<|Y X X (zam X X)<|E<|M ?_
 refine zr rfl (fun c46 => ?_) (fun c46 => ?_)
 ·
  replace c46 := of_decide_eq_true c46
  refine zB<|M<|zd<|zF<|zd ?_
  have hp : ∃ y, ((((placesT (t)))))[k]? = some y := ⟨_, List.getElem?_eq_getElem (by omega)⟩
  obtain ⟨p, hp⟩ := hp
  obtain ⟨b47, o48, _, he50, hc49, hr_p⟩ := Sl.elem (gf4_0x39.up le41) hp
  obtain rfl := hr_p
  have hp0 : placeB t p = true := placesT_mem (List.mem_of_getElem? hp)
  have hhd := winD_ok hx0 hp0
  rw [← headR_eq hx0] at hhd
  refine zac (er := ([], [], [], [], 0)) (dsts := [22, 23, 24, 25, 26, 27, 28, 29, 21, 30, 31, 9, 10]) st42 Tryz.mixed<|zi 0 [] X t_kr t_kr X X (fun hD wD τD hL hS hO  => (zf (hL.sub hS) (hc5.up ((le10.trans le37).trans le41)) X Tryz.isAgg24 Tryz.sizeOf24 X))<|zi 1 [] X t_kr t_kr X X (fun hD wD τD hL hS hO  => (zf (hL.sub hS) (hc11.up (le37.trans le41)) X Tryz.isAgg28 Tryz.sizeOf28 X))<|zi 2 [] X t_kr t_kr X X (fun hD wD τD hL hS hO  => (zA (v := gv5_0x39) X))<|zi 3 [] X t_kr t_kr X X (fun hD wD τD hL hS hO  => (zA (v := gv4_0x39) X))<|zi 4 [] X t_kr t_kr X X (fun hD wD τD hL hS hO  => (zo X))<|zi 5 [1, 0] X t_kr t_kr X X (fun hD wD τD hL hS hO _ _ _ _ => (zq he50 X X (hk := X) (hu := Tryz.underlying63) (hz := Tryz.sizeOf52)))<|zi 6 [0] X t_kr t_kr X X (fun hD wD τD hL hS hO _ _ => (zf (hL.sub hS) hc49 X Tryz.isAgg52 Tryz.sizeOf52 X)) ?_
  refine zS 7 (.det (.tuple #[.agg (List.toArray [strV ((headR (x) (((standingR (x)))) (p) (wordD (t) (p))).to.stem), .int .u8 ((headR (x) (((standingR (x)))) (p) (wordD (t) (p))).to.mark)]), .int .i64 ((headR (x) (((standingR (x)))) (p) (wordD (t) (p))).number)])) [6, 5, 4, 0] rfl t_kr t_kr ?_ ?_
  ·
   intro hD wD τD hL hS hO _ _ _ _ _ _ _ _
   have st51 := St.start hS
   refine zm st51 rfl rfl rfl Tryz.call73 rfl (c_postilref04_head st51.sub (t := t) (t_f0.up ((((le4.trans le10).trans le37).trans le41).trans hL)) (x := x) (x_f0.up ((((le4.trans le10).trans le37).trans le41).trans hL)) (x_f1.up ((((le4.trans le10).trans le37).trans le41).trans hL)) (gf5_0x39.up (le41.trans hL)) (p := p) (by exact hx0) (by exact hp0)) ?_
   intro r52 w53 h54 le55 st56 q57
   obtain rfl := q57
   exact E ⟨_, _, rfl, st56, (), rfl, trivial⟩
  refine zi 8 [0] X t_kr t_kr X X (fun hD wD τD hL hS hO _ _ => (r_mvT X))<|zi 9 [0] X t_kr t_kr X X (fun hD wD τD hL hS hO _ _ => (zC (v := (.agg (List.toArray _))) X X))<|zi 10 [1] X t_kr t_kr X X (fun hD wD τD hL hS hO _ _ => (zC (v := (.int _ _)) X X))<|Drw.al Tryz.zeroValue54 X<|zaf<|zi 13 [12, 11, 10, 9, 8, 7, 6, 5, 4, 3, 2, 1, 0] X t_kr t_kr X X (fun hD wD τD hL hS hO _ _ _ _ _ _ _ _ _ _ _ _ _ _ _ _ _ _ _ _ _ _ => (zz X))<|zaq X X X X X X ⟨t_kr, X, t_kr, X, t_kr, X, X, t_kr, (zY X cx_nil)⟩ ?_
  intro b58
  intro hE60 w61 _ le62 st63 _ _ _ _ _ _ _ _ _ _ _ _ _ _ _ _ _ _ _ _
  refine zI st63 (k := 1) X X X (zg X (zg X zX)) Tryz.sizeOf54 X X X ?_
  intro w64 st65
  obtain ⟨h66, le67, hb68, st70⟩ := st65.freeze (k := 1) rfl
  have hc69 := Cells.of hb68
  refine E ⟨undef, rfl, _, _, le67, st70, ?_⟩
  intro hE71 w72 _ le73 st74 _ _ _ _ _ _ _ _ _ _ _ _ _ _ _ _ _ _ _ _ _ _ _ _
  refine AllDeps.fin X<|M<|O<|Y X X (zA (v := v_5) X)<|Y X X (zf st74.sub (hc69.up le73) X Tryz.isAgg54 Tryz.sizeOf54 X)<|zU (L := LHead) (xs := [(headR (x) (((standingR (x)))) (p) (wordD (t) (p))).to]) (cs := [strV ((headR (x) (((standingR (x)))) (p) (wordD (t) (p))).to.stem), .int .u8 ((headR (x) (((standingR (x)))) (p) (wordD (t) (p))).to.mark)]) st74 (Enc.cons (L := LHead) (vs := [strV ((headR (x) (((standingR (x)))) (p) (wordD (t) (p))).to.stem), .int .u8 ((headR (x) (((standingR (x)))) (p) (wordD (t) (p))).to.mark)]) (x := (headR (x) (((standingR (x)))) (p) (wordD (t) (p))).to) (h := hE71) (⟨rfl, zZ, t_u8⟩) Enc.nil) X X X Tryz.underlying80 Tryz.info54 X X X t_kr ?_
  intro v76 w77 h80 le81 f78 st79
  refine zQ (k := 0) (nb := 24) st79 (hO_5.up (((le62.trans le67).trans le73).trans le81)) rfl f78 rfl rfl rfl Tryz.underlying80 Tryz.info54 rfl rfl rfl (by decide) rfl (by have q := places_len ht0; have q2 := List.length_take_le k (placesT t); simp only [List.length_map, List.length_append, List.length_cons, List.length_nil]; omega) (by have q := places_len ht0; have q2 := List.length_take_le k (placesT t); simp only [List.length_map, List.length_append, List.length_cons, List.length_nil]; omega) ?_
  intro v82 o83 w84 _ e85 f86 st87
  subst e85
  refine Y X X (zG (v := v82) X)<|E<|zL<|M<|O<|Y X X (zo X)<|Y X X (zai X X t_om)<|Y X X (zz X)<|E<|M ?_
  refine ⟨⟨k + 1, v82, o83, h80⟩, ⟨rfl, rfl, trivial⟩, ?_, ⟨((((le41.trans le62).trans le67).trans le73).trans le81), st87.take 1, ?_, ?_⟩, ?_⟩
  ·exact zag
  ·refine OSl.to f86 ?_
   rw [take_snoc hp, List.map_append, headR_eq hx0]; rfl
  ·first | omega | (simp; omega)
  ·show (placesT t).length - ((k + 1)) < (placesT t).length - k
   omega
 ·
  replace c46 := of_decide_eq_false c46
  refine zab<|zn<|zn<|zT<|M<|zd<|O<|Y X X (zA (v := v_5) X)<|Y X X (zG (v := v_5) X)<|E<|M<|zy<|zh Tryz.results60 ?_
  obtain ⟨h88, le89, f90, st91⟩ := OSl.freeze (k := 0) st42 hO_5 rfl (by have q := places_len ht0; have q2 := List.length_take_le k (placesT t); simp only [List.length_map, List.length_append, List.length_cons, List.length_nil]; omega)
  refine ⟨h88, _, rfl, st91.done, ?_⟩
  refine ⟨_, rfl, Sl.to f90 ?_⟩
  rw [List.take_of_length_le (by omega)]; rfl
end Go.Pk

namespace Go.Pk
open Go Go.RowKit Go.Proofs
set_option maxRecDepth 4000 in
theorem c_stem_asked {h : Heap} {w : World} (hs : Sub h w) {t : Text} {t_v0 : Value} (t_f0 : Sl LChapter h t_v0 t.chapters) {x : Lexicon} {x_v0 : Value} (x_f0 : Sl LRule h x_v0 x.rules) {x_v1 : Value} (x_f1 : Sl LDecision h x_v1 x.decisions) {p : Place} (K0 : Cells h 0 0 Tryz.glob0) : Calls Tryz.prog 71 #[.agg #[t_v0], .agg #[x_v0, x_v1], .agg #[.int .i64 p.chapter, .int .i64 p.line, .int .i64 p.word]] w (Rets h w (fun _ _ res_ => res_ = .tuple #[.agg #[.int .i64 ((askR t x p)).number, .int .u8 ((askR t x p)).kind, strV ((askR t x p)).form, .int .i64 ((askR t x p)).at_.chapter, .int .i64 ((askR t x p)).at_.line, .int .i64 ((askR t x p)).at_.word, strV ((askR t x p)).to.stem, .int .u8 ((askR t x p)).to.mark, .int .i64 ((askR t x p)).of_], .int .i64 (askE t x p)])) := by
 refine zM (n := 35) (args := [.agg #[t_v0], .agg #[x_v0, x_v1], .agg #[.int .i64 p.chapter, .int .i64 p.line, .int .i64 p.word]]) Tryz.func71 X X X ?_
 have st0 : St h w h w [] := St.start hs
 have t_f0_b := t_f0.le
 have x_f0_b := x_f0.le
 have x_f1_b := x_f1.le
 refine zd<|O<|zp st0 (cs := [t_v0]) X X X ?_
 intro b1 w2 h3 le4 hc5 st6
 refine zp st6 (cs := [x_v0, x_v1]) X X X ?_
 intro b7 w8 h9 le10 hc11 st12
 refine zp st12 (cs := [.int .i64 (p.chapter), .int .i64 (p.line), .int .i64 (p.word)]) X X X ?_
 intro b13 w14 h15 le16 hc17 st18
 refine zR st18 Tryz.zeroValue56 X X ?_
 intro b19 w20 st21
 refine Y X X (zz X)<|E<|M<|zd<|O<|Y X X (zf st21.sub (hc5.up (le10.trans le16)) X Tryz.isAgg24 Tryz.sizeOf24 X)<|Y X X (zf st21.sub (hc11.up le16) X Tryz.isAgg28 Tryz.sizeOf28 X)<|zm st21 X X X Tryz.call40 X (c_stem_open st21.sub (t := t) (t_f0.up ((le4.trans le10).trans le16)) (x := x) (x_f0.up ((le4.trans le10).trans le16)) (x_f1.up ((le4.trans le10).trans le16)) (K0.up ((le4.trans le10).trans le16))) ?_
 intro r22 w23 h24 le25 st26 q27
 rcases Bool.eq_false_or_eq_true (decide (checkN (t) (x) = 0)) with hb28 | hb28
 ·
  simp only [hb28, if_true, if_false, Bool.false_eq_true, reduceIte] at q27
  obtain ⟨v29, rfl, f30⟩ := q27
  obtain ⟨b31, vs32, rfl, hc33, hr34⟩ := f30
  obtain ⟨v35, v37, v39, v41, rfl, f36, f38, f40, lm42⟩ := hr34
  have f36_b := f36.le
  have f38_b := f38.le
  have f40_b := f40.le
  refine Y X X (r_mvT X)<|Y X X (zC (v := (.pointer (some _))) X X)<|Y X X (zC (v := (.int _ _)) X X)<|Y X X (r_asP X)<|Y X X (zz X)<|E<|M<|zd<|zd<|O<|Y X X (zo X)<|Y X X (r_neq X X)<|E<|M ?_
  refine zr rfl (fun c43 => ?_) (fun c43 => ?_)
  ·
   replace c43 := of_decide_eq_true c43
   refine zd<|O<|Y X X (r_build (cs := [.int .i64 0, .int .u8 0, strV [], .int .i64 0, .int .i64 0, .int .i64 0, strV [], .int .u8 0, .int .i64 0]) t_kr)<|Y X X (zo X)<|zI st26 (k := 0) X X X (zg X (zg X (zg X (zg X (zg X (zg X (zg X (zg X (zg X zX))))))))) Tryz.sizeOf56 X X X ?_
   intro w44 st45
   refine Y X X (zz X)<|E<|M<|zy<|zj<|Post.retcell2 Tryz.results71 X Tryz.isAgg56 Tryz.sizeOf56 X (st45.get (k := 0) X) ?_
   refine ⟨h24, _, rfl, st45.done, ?_⟩
   refine tup2 ?_ (zV ?_)
   ·rw [show askR t x p = zDecision from by simp_all [askR]]; rfl
   ·simp_all [askE]
  ·
   replace c43 := of_decide_eq_false c43
   refine zB<|M<|zd<|zd<|O<|Y X X (zf st26.sub (hc5.up ((le10.trans le16).trans le25)) X Tryz.isAgg24 Tryz.sizeOf24 X)<|Y X X (zf st26.sub (hc17.up le25) X Tryz.isAgg52 Tryz.sizeOf52 X)<|zm st26 X X X Tryz.call99 X (c_leaf_At st26.sub (t := t) (t_f0.up (((le4.trans le10).trans le16).trans le25)) (p := p)) ?_
   intro r46 w47 h48 le49 st50 q51
   obtain rfl := q51
   refine Y X X (r_mvT X)<|Y X X (zC (v := (strV _)) X X)<|Y X X (zC (v := (.int _ _)) X X)<|Y X X (r_asS X)<|Y X X (zz X)<|E<|M<|zd<|O<|Y X X (zo X)<|Y X X (r_neq X X)<|E<|M ?_
   refine zr rfl (fun c52 => ?_) (fun c52 => ?_)
   ·
    replace c52 := of_decide_eq_true c52
    refine zd<|O<|Y X X (r_build (cs := [.int .i64 0, .int .u8 0, strV [], .int .i64 0, .int .i64 0, .int .i64 0, strV [], .int .u8 0, .int .i64 0]) t_kr)<|Y X X (zo X)<|zI st50 (k := 0) X X X (zg X (zg X (zg X (zg X (zg X (zg X (zg X (zg X (zg X zX))))))))) Tryz.sizeOf56 X X X ?_
    intro w53 st54
    refine Y X X (zz X)<|E<|M<|zy<|zj<|Post.retcell2 Tryz.results71 X Tryz.isAgg56 Tryz.sizeOf56 X (st54.get (k := 0) X) ?_
    have hx0 : checkN t x = 0 := by simpa using c43
    have hp0 : ¬ placeB t p = true := by
     intro e
     have q1 := c52
     simp [check_text hx0, e] at q1
    refine ⟨h48, _, rfl, st54.done, ?_⟩
    refine tup2 ?_ (zV ?_)
    ·rw [show askR t x p = zDecision from by simp [askR, hp0]]; rfl
    ·simp [askE, hx0, hp0, check_text hx0]
   ·
    replace c52 := of_decide_eq_false c52
    refine zB<|M<|zd ?_
    have hx0 : checkN t x = 0 := by simpa using c43
    have hp0 : placeB t p = true := by
     have q := c52
     rw [check_text hx0] at q
     cases e : placeB t p with
     | true => rfl
     | false => rw [e] at q; simp at q
    refine O<|Y X X (r_mvP X)<|Y X X (zf st50.sub (hc17.up (le25.trans le49)) X Tryz.isAgg52 Tryz.sizeOf52 X) ?_
    refine zm st50 rfl rfl rfl Tryz.call104 rfl (c_stem_office_wins st50.sub (o := (Office.mk (x) (t) (standM (x)))) (f36.up le49) (f38.up le49) (f40.up le49) (lm42.up le49) (hc33.up le49) (p := p) (K0.up ((((le4.trans le10).trans le16).trans le25).trans le49)) (by exact ⟨by simpa using c43, rfl⟩) (by exact hp0)) ?_
    intro r55 w56 h57 le58 st59 q60
    obtain rfl := q60
    refine zI st59 (k := 0) X X X (zg X (zg X (zg X (zg X (zg X (zg X (zg X (zg X (zg X zX))))))))) Tryz.sizeOf56 X X X ?_
    intro w61 st62
    refine Y X X (zz X)<|E<|M<|zy<|Post.retcell2 Tryz.results71 X Tryz.isAgg56 Tryz.sizeOf56 X (st62.get (k := 0) X) ?_
    refine ⟨h57, _, rfl, st62.done, ?_⟩
    refine tup2 ?_ (zV ?_)
    ·rw [show askR t x p = winD x p (wordD t p) from by simp [askR, hx0, hp0]]; rfl
    ·simp [askE, hx0, hp0]
 ·
  simp only [hb28, if_true, if_false, Bool.false_eq_true, reduceIte] at q27
  obtain ⟨v63, rfl, f64⟩ := q27
  obtain rfl := f64
  refine Y X X (r_mvT X)<|Y X X (zC (v := (.pointer none)) X X)<|Y X X (zC (v := (.int _ _)) X X)<|Y X X (zG X)<|Y X X (zz X)<|E<|M<|zd<|zd<|O<|Y X X (zo X)<|Y X X (r_neq X X)<|E<|M ?_
  refine zr rfl (fun c65 => ?_) (fun c65 => ?_)
  ·
   replace c65 := of_decide_eq_true c65
   refine zd<|O<|Y X X (r_build (cs := [.int .i64 0, .int .u8 0, strV [], .int .i64 0, .int .i64 0, .int .i64 0, strV [], .int .u8 0, .int .i64 0]) t_kr)<|Y X X (zo X)<|zI st26 (k := 0) X X X (zg X (zg X (zg X (zg X (zg X (zg X (zg X (zg X (zg X zX))))))))) Tryz.sizeOf56 X X X ?_
   intro w66 st67
   refine Y X X (zz X)<|E<|M<|zy<|zj<|Post.retcell2 Tryz.results71 X Tryz.isAgg56 Tryz.sizeOf56 X (st67.get (k := 0) X) ?_
   refine ⟨h24, _, rfl, st67.done, ?_⟩
   refine tup2 ?_ (zV ?_)
   ·rw [show askR t x p = zDecision from by simp_all [askR]]; rfl
   ·simp_all [askE]
  ·
   replace c65 := of_decide_eq_false c65
   exfalso
   simp_all
set_option maxRecDepth 4000 in
theorem c_stem_HeadOf {h : Heap} {w : World} (hs : Sub h w) {t : Text} {t_v0 : Value} (t_f0 : Sl LChapter h t_v0 t.chapters) {x : Lexicon} {x_v0 : Value} (x_f0 : Sl LRule h x_v0 x.rules) {x_v1 : Value} (x_f1 : Sl LDecision h x_v1 x.decisions) {p : Place} (K0 : Cells h 0 0 Tryz.glob0) : Calls Tryz.prog 29 #[.agg #[t_v0], .agg #[x_v0, x_v1], .agg #[.int .i64 p.chapter, .int .i64 p.line, .int .i64 p.word]] w (Rets h w (fun _ _ res_ => res_ = .tuple #[.agg #[strV ((askR t x p).to).stem, .int .u8 ((askR t x p).to).mark], .int .i64 (askE t x p)])) := by
 refine zM (n := 20) (args := [.agg #[t_v0], .agg #[x_v0, x_v1], .agg #[.int .i64 p.chapter, .int .i64 p.line, .int .i64 p.word]]) Tryz.func29 X X X ?_
 have st0 : St h w h w [] := St.start hs
 have t_f0_b := t_f0.le
 have x_f0_b := x_f0.le
 have x_f1_b := x_f1.le
 refine zd<|O<|zp st0 (cs := [t_v0]) X X X ?_
 intro b1 w2 h3 le4 hc5 st6
 refine zp st6 (cs := [x_v0, x_v1]) X X X ?_
 intro b7 w8 h9 le10 hc11 st12
 refine zp st12 (cs := [.int .i64 (p.chapter), .int .i64 (p.line), .int .i64 (p.word)]) X X X ?_
 intro b13 w14 h15 le16 hc17 st18
 refine zR st18 Tryz.zeroValue54 X X ?_
 intro b19 w20 st21
 refine Y X X (zz X)<|E<|M<|zd<|O<|Y X X (zf st21.sub (hc5.up (le10.trans le16)) X Tryz.isAgg24 Tryz.sizeOf24 X)<|Y X X (zf st21.sub (hc11.up le16) X Tryz.isAgg28 Tryz.sizeOf28 X)<|Y X X (zf st21.sub hc17 X Tryz.isAgg52 Tryz.sizeOf52 X)<|zm st21 X X X Tryz.call71 X (c_stem_asked st21.sub (t := t) (t_f0.up ((le4.trans le10).trans le16)) (x := x) (x_f0.up ((le4.trans le10).trans le16)) (x_f1.up ((le4.trans le10).trans le16)) (p := p) (K0.up ((le4.trans le10).trans le16))) ?_
 intro r22 w23 h24 le25 st26 q27
 obtain rfl := q27
 refine Y X X (r_mvT X)<|Y X X (zC (v := (.agg (List.toArray _))) X X)<|Y X X (zC (v := (.int _ _)) X X)<|zR st26 Tryz.zeroValue56 X X ?_
 intro b28 w29 st30
 refine zI st30 (k := 1) X X X (zg X (zg X (zg X (zg X (zg X (zg X (zg X (zg X (zg X zX))))))))) Tryz.sizeOf56 X X X ?_
 intro w31 st32
 obtain ⟨h33, le34, hb35, st37⟩ := st32.freeze (k := 1) rfl
 have hc36 := Cells.of hb35
 refine Y X X (zz X)<|E<|M<|zd<|O<|Y X X (zc X Tryz.underlying56 X Tryz.sizeOf54 X)<|Y X X (zO (j := 6) st37.sub hc36 (us := [strV ((askR (t) (x) (p)).to.stem), .int .u8 ((askR (t) (x) (p)).to.mark)]) X X Tryz.isAgg54 Tryz.sizeOf54 X X)<|Y X X (zo X)<|zI st37 (k := 0) X X X (zg X (zg X zX)) Tryz.sizeOf54 X X X ?_
 intro w38 st39
 obtain ⟨h40, le41, hb42, st44⟩ := st39.freeze (k := 0) rfl
 have hc43 := Cells.of hb42
 refine Y X X (zz X)<|E<|M<|zy<|Post.retcell2F Tryz.results29 X Tryz.isAgg54 Tryz.sizeOf54 X st44.sub hc43 ?_
 refine ⟨h40, _, rfl, st44.done, ?_⟩
 refine tup2 ?_ (zV ?_)
 all_goals rfl
set_option maxRecDepth 4000 in
theorem c_stem_By {h : Heap} {w : World} (hs : Sub h w) {t : Text} {t_v0 : Value} (t_f0 : Sl LChapter h t_v0 t.chapters) {x : Lexicon} {x_v0 : Value} (x_f0 : Sl LRule h x_v0 x.rules) {x_v1 : Value} (x_f1 : Sl LDecision h x_v1 x.decisions) {p : Place} (K0 : Cells h 0 0 Tryz.glob0) : Calls Tryz.prog 31 #[.agg #[t_v0], .agg #[x_v0, x_v1], .agg #[.int .i64 p.chapter, .int .i64 p.line, .int .i64 p.word]] w (Rets h w (fun _ _ res_ => res_ = .tuple #[.int .i64 ((askR t x p).number), .int .i64 (askE t x p)])) := by
 refine zM (n := 20) (args := [.agg #[t_v0], .agg #[x_v0, x_v1], .agg #[.int .i64 p.chapter, .int .i64 p.line, .int .i64 p.word]]) Tryz.func31 X X X ?_
 have st0 : St h w h w [] := St.start hs
 have t_f0_b := t_f0.le
 have x_f0_b := x_f0.le
 have x_f1_b := x_f1.le
 refine zd<|O<|zp st0 (cs := [t_v0]) X X X ?_
 intro b1 w2 h3 le4 hc5 st6
 refine zp st6 (cs := [x_v0, x_v1]) X X X ?_
 intro b7 w8 h9 le10 hc11 st12
 refine zp st12 (cs := [.int .i64 (p.chapter), .int .i64 (p.line), .int .i64 (p.word)]) X X X ?_
 intro b13 w14 h15 le16 hc17 st18
 refine Y X X (zz X)<|Y X X (zz X)<|E<|M<|zd<|O<|Y X X (zf st18.sub (hc5.up (le10.trans le16)) X Tryz.isAgg24 Tryz.sizeOf24 X)<|Y X X (zf st18.sub (hc11.up le16) X Tryz.isAgg28 Tryz.sizeOf28 X)<|Y X X (zf st18.sub hc17 X Tryz.isAgg52 Tryz.sizeOf52 X)<|zm st18 X X X Tryz.call71 X (c_stem_asked st18.sub (t := t) (t_f0.up ((le4.trans le10).trans le16)) (x := x) (x_f0.up ((le4.trans le10).trans le16)) (x_f1.up ((le4.trans le10).trans le16)) (p := p) (K0.up ((le4.trans le10).trans le16))) ?_
 intro r19 w20 h21 le22 st23 q24
 obtain rfl := q24
 refine Y X X (r_mvT X)<|Y X X (zC (v := (.agg (List.toArray _))) X X)<|Y X X (zC (v := (.int _ _)) X X)<|zR st23 Tryz.zeroValue56 X X ?_
 intro b25 w26 st27
 refine zI st27 (k := 0) X X X (zg X (zg X (zg X (zg X (zg X (zg X (zg X (zg X (zg X zX))))))))) Tryz.sizeOf56 X X X ?_
 intro w28 st29
 obtain ⟨h30, le31, hb32, st34⟩ := st29.freeze (k := 0) rfl
 have hc33 := Cells.of hb32
 refine Y X X (zz X)<|E<|M<|zd<|O<|Y X X (zc X Tryz.underlying56 X Tryz.sizeOf3 X)<|Y X X (zb (j := 0) st34.sub hc33 X X X Tryz.isAgg3)<|Y X X (zo X)<|Y X X (zz X)<|Y X X (zz X)<|E<|M<|zy<|zP Tryz.results31 ?_
 refine ⟨h30, _, rfl, st34.done, ?_⟩
 refine tup2 (zV ?_) (zV ?_)
 all_goals rfl
end Go.Pk

namespace Go.Pk
open Go Go.RowKit Go.Proofs
set_option maxRecDepth 4000 in
theorem c_stem_office_entries {h : Heap} {w : World} (hs : Sub h w) {o_b : Nat} {o : Office} {o_v0 : Value} (o_f0 : Sl LRule h o_v0 o.lex.rules) {o_v1 : Value} (o_f1 : Sl LDecision h o_v1 o.lex.decisions) {o_v2 : Value} (o_f2 : Sl LChapter h o_v2 o.text.chapters) {o_v3 : Value} (o_f3 : FML (fun n : Int => .int .i64 n) (fun x : Decision => [.int .i64 x.number, .int .u8 x.kind, strV x.form, .int .i64 x.at_.chapter, .int .i64 x.at_.line, .int .i64 x.at_.word, strV x.to.stem, .int .u8 x.to.mark, .int .i64 x.of_]) LDecision h o.stands o_v3) (o_c : Cells h o_b 0 [o_v0, o_v1, o_v2, o_v3]) (K0 : Cells h 0 0 Tryz.glob0) (ho : OkO o) : Calls Tryz.prog 56 #[.pointer (some ⟨o_b, 0, none⟩)] w (Rets h w (fun h' _ res_ => ∃ u0, res_ = u0 ∧ Sl LEntry h' u0 ((entriesL o.text o.lex)))) := by
 refine zM (n := 55) (args := [.pointer (some ⟨o_b, 0, none⟩)]) Tryz.func56 X X X ?_
 have st0 : St h w h w [] := St.start hs
 have o_f0_b := o_f0.le
 have o_f1_b := o_f1.le
 have o_f2_b := o_f2.le
 have ht := check_text ho.1
 have hchl := chapters_len ht
 refine zd<|O<|Y X X (r_asL X)<|E<|M<|zd<|O<|Y X X (r_asL X)<|E<|M<|zd<|zd<|O<|Y X X (r_mvP X)<|Y X X (r_nil_check X)<|Y X X (zc X Tryz.underlying103 X Tryz.sizeOf24 X)<|Y X X (zc X Tryz.underlying24 X Tryz.sizeOf22 X)<|Y X X (zb (j := 2) st0.sub o_c X X X Tryz.isAgg22)<|Y X X (zae o_f2 X Tryz.underlying22)<|Y X X (zo X)<|E<|M<|zF ?_
 have st4 := st0.snoc
 have f5 := OSl.nil LEntry 120 h
 refine zW [3, 4, 5, 6, 7, 8, 9, 16, 17, 18, 19, 20, 21, 22, 23, 24, 25, 26, 27, 28, 29, 30, 31, 32, 33, 34, 35, 36, 37, 38, 39, 40, 41, 42, 43, 44, 45, 46, 47, 48, 49, 50, 51, 52, 53] (G := Nat × Value × List (Nat × Obj) × Heap) (fun ⟨i, v_3, o_3, h1⟩ => [(3, v_3), (16, .int .i64 (i : Int))]) (fun ⟨i, v_3, o_3, h1⟩ w' => Le h h1 ∧ St h w h1 w' [o_3] ∧ (OSl LEntry 120 h1 v_3 (((List.range i).flatMap (chapP o.text)).map (entryAt o.text o.lex)) o_3) ∧ (i ≤ o.text.chapters.length)) (fun ⟨i, v_3, o_3, h1⟩ => o.text.chapters.length - i) ⟨0, (.slice none 0 0), [], h⟩ ⟨rfl, rfl, trivial⟩ ⟨Le.refl _, st4, (OSl.to f5 (by rfl)), zak⟩ ?_
 rintro ⟨i, v_3, o_3, h1⟩ _ w6 ⟨le2, st3, hO_3, hi⟩
 refine zd<|O<|Y X X (zam X X)<|E<|M<|zd ?_
 refine zr rfl (fun c7 => ?_) (fun c7 => ?_)
 ·
  replace c7 := of_decide_eq_true c7
  refine zB<|M<|zd<|zF<|zd<|O<|Y X X (zo X) ?_
  have hc : ∃ y, (o.text.chapters)[i]? = some y := ⟨_, List.getElem?_eq_getElem (by omega)⟩
  obtain ⟨c, hc⟩ := hc
  obtain ⟨b8, o9, _, he11, hc10, hr_c⟩ := Sl.elem (o_f2.up le2) hc
  obtain ⟨v12, rfl, f13⟩ := hr_c
  have f13_b := f13.le
  refine Y X X (zq he11 X X (hk := X) (hu := Tryz.underlying22) (hz := Tryz.sizeOf93))<|Y X X (zf st3.sub hc10 X Tryz.isAgg93 Tryz.sizeOf93 X)<|zR st3 Tryz.zeroValue93 X X ?_
  intro b14 w15 st16
  refine Y X X (zz X)<|zI st16 (k := 1) X X X (zg X (zg f13.one zX)) Tryz.sizeOf93 X X X ?_
  intro w17 st18
  obtain ⟨h19, le20, hb21, st23⟩ := st18.freeze (k := 1) rfl
  have hc22 := Cells.of hb21
  refine E ?_
  have q5 := linesAt_len ht i
  rw [linesAt_some hc] at q5
  refine M<|zd<|O<|Y X X (zc X Tryz.underlying93 X Tryz.sizeOf91 X)<|Y X X (zb (j := 1) st23.sub hc22 X X X Tryz.isAgg91)<|Y X X (zae (f13.up le20) X Tryz.underlying91)<|Y X X (zo X)<|E<|M<|zF ?_
  refine zW [3, 6, 7, 8, 9, 24, 25, 26, 27, 28, 29, 30, 31, 32, 33, 34, 35, 36, 37, 38, 39, 40, 41, 42, 43, 44, 45, 46, 47, 48, 49, 50, 51, 52] (G := Nat × Value × List (Nat × Obj) × Heap) (fun ⟨n, v_3, o_3, h24⟩ => [(3, v_3), (24, .int .i64 (n : Int))]) (fun ⟨n, v_3, o_3, h24⟩ w' => Le h19 h24 ∧ St h w h24 w' [o_3, []] ∧ (OSl LEntry 120 h24 v_3 (((List.range i).flatMap (chapP o.text) ++ (List.range n).flatMap (lineP o.text i)).map (entryAt o.text o.lex)) o_3) ∧ (n ≤ c.lines.length)) (fun ⟨n, v_3, o_3, h24⟩ => c.lines.length - n) ⟨0, v_3, o_3, h19⟩ ⟨rfl, rfl, trivial⟩ ⟨Le.refl _, st23, (OSl.to (hO_3.up le20) (by simp)), zak⟩ ?_
  rintro ⟨n, v_3, o_3, h24⟩ _ w27 ⟨le25, st26, hO_3, hn⟩
  refine zd<|O<|Y X X (zam X X)<|E<|M<|zd ?_
  refine zr rfl (fun c28 => ?_) (fun c28 => ?_)
  ·
   replace c28 := of_decide_eq_true c28
   refine zB<|M<|zd<|zF<|zd<|O<|Y X X (zo X) ?_
   have hln : ∃ y, (c.lines)[n]? = some y := ⟨_, List.getElem?_eq_getElem (by omega)⟩
   obtain ⟨ln, hln⟩ := hln
   obtain ⟨b29, o30, _, he32, hc31, hr_ln⟩ := Sl.elem (f13.up (le20.trans le25)) hln
   obtain ⟨v33, rfl, f34⟩ := hr_ln
   have f34_b := f34.le
   refine Y X X (zq he32 X X (hk := X) (hu := Tryz.underlying91) (hz := Tryz.sizeOf33))<|Y X X (zb (j := 0) st26.sub hc31 X X X Tryz.isAgg33)<|Y X X (zz X)<|Y X X (zG (v := v33) X)<|E ?_
   have q4 := wordsAt_len ht i n
   rw [wordsAt_some hc hln] at q4
   refine M<|zd<|O<|Y X X (zA (v := v33) X)<|Y X X (zae f34 X Tryz.underlying33)<|Y X X (zo X)<|E<|M<|zF ?_
   refine zW [3, 8, 9, 31, 32, 33, 34, 35, 36, 37, 38, 39, 40, 41, 42, 43, 44, 45, 46, 47, 48, 49, 50, 51] (G := Nat × Value × List (Nat × Obj) × Heap) (fun ⟨m, v_3, o_3, h35⟩ => [(3, v_3), (31, .int .i64 (m : Int))]) (fun ⟨m, v_3, o_3, h35⟩ w' => Le h24 h35 ∧ St h w h35 w' [o_3, []] ∧ (OSl LEntry 120 h35 v_3 (((List.range i).flatMap (chapP o.text) ++ (List.range n).flatMap (lineP o.text i) ++ (List.range m).map (mkP i n)).map (entryAt o.text o.lex)) o_3) ∧ (m ≤ ln.length)) (fun ⟨m, v_3, o_3, h35⟩ => ln.length - m) ⟨0, v_3, o_3, h24⟩ ⟨rfl, rfl, trivial⟩ ⟨Le.refl _, st26, (OSl.to hO_3 (by simp)), zak⟩ ?_
   rintro ⟨m, v_3, o_3, h35⟩ _ w38 ⟨le36, st37, hO_3, hm⟩
   refine zd<|O<|Y X X (zam X X)<|E<|M<|zd ?_
   refine zr rfl (fun c39 => ?_) (fun c39 => ?_)
   ·
    replace c39 := of_decide_eq_true c39
    refine zB<|M<|zd<|zF<|zd<|O<|Y X X (zo X)<|Y X X (zz X)<|E<|M<|zd<|O<|Y X X (zo X)<|Y X X (zo X)<|Y X X (zo X)<|Y X X (r_build (cs := [.int .i64 (i : Int), .int .i64 (n : Int), .int .i64 (m : Int)]) t_kr)<|zR st37 Tryz.zeroValue52 X X ?_
    intro b40 w41 st42
    refine zI st42 (k := 2) X X X (zg X (zg X (zg X zX))) Tryz.sizeOf52 X X X ?_
    intro w43 st44
    obtain ⟨h45, le46, hb47, st49⟩ := st44.freeze (k := 2) rfl
    have hc48 := Cells.of hb47
    refine E<|M ?_
    have hp0 := place_mk (w := m) hc hln (by omega)
    have hhd := winD_ok ho.1 hp0
    simp only [mkP] at hp0 hhd
    have hwd : ∃ y, (ln)[m]? = some y := ⟨_, List.getElem?_eq_getElem (by omega)⟩
    obtain ⟨wd, hwd⟩ := hwd
    obtain ⟨b50, o51, _, he53, hc52, hr_wd⟩ := Sl.elem (f34.up (le36.trans le46)) hwd
    obtain ⟨rfl, ls54⟩ := hr_wd
    simp only [big] at ls54
    refine zac (er := ([], [3], [0], [], 0)) (dsts := [38, 39, 40, 41, 42, 43, 44, 45, 46, 47, 48, 49, 50, 3]) st49 Tryz.mixed<|zi 0 [] X t_kr t_kr X X (fun hD wD τD hL hS hO  => (zA (v := v_3) X))<|zi 1 [] X t_kr t_kr X X (fun hD wD τD hL hS hO  => (zf (hL.sub hS) hc48 X Tryz.isAgg52 Tryz.sizeOf52 X))<|zi 2 [] X t_kr t_kr X X (fun hD wD τD hL hS hO  => (zA (v := v33) X))<|zi 3 [] X t_kr t_kr X X (fun hD wD τD hL hS hO  => (zo X))<|zi 4 [1, 0] X t_kr t_kr X X (fun hD wD τD hL hS hO _ _ _ _ => (zq he53 X X (hk := X) (hu := Tryz.underlying33) (hz := Tryz.sizeOf9)))<|zi 5 [0] X t_kr t_kr X X (fun hD wD τD hL hS hO _ _ => (zb (j := 0) (hL.sub hS) hc52 X X X Tryz.isAgg9))<|zi 6 [] X t_kr t_kr X X (fun hD wD τD hL hS hO  => (r_mvP X))<|zi 7 [] X t_kr t_kr X X (fun hD wD τD hL hS hO  => (zf (hL.sub hS) hc48 X Tryz.isAgg52 Tryz.sizeOf52 X)) ?_
    refine zS 8 (.det (.agg (List.toArray [.int .i64 ((winD (o).lex ((Place.mk ((i : Int)) ((n : Int)) ((m : Int)))) (wordD (o).text ((Place.mk ((i : Int)) ((n : Int)) ((m : Int)))))).number), .int .u8 ((winD (o).lex ((Place.mk ((i : Int)) ((n : Int)) ((m : Int)))) (wordD (o).text ((Place.mk ((i : Int)) ((n : Int)) ((m : Int)))))).kind), strV ((winD (o).lex ((Place.mk ((i : Int)) ((n : Int)) ((m : Int)))) (wordD (o).text ((Place.mk ((i : Int)) ((n : Int)) ((m : Int)))))).form), .int .i64 ((winD (o).lex ((Place.mk ((i : Int)) ((n : Int)) ((m : Int)))) (wordD (o).text ((Place.mk ((i : Int)) ((n : Int)) ((m : Int)))))).at_.chapter), .int .i64 ((winD (o).lex ((Place.mk ((i : Int)) ((n : Int)) ((m : Int)))) (wordD (o).text ((Place.mk ((i : Int)) ((n : Int)) ((m : Int)))))).at_.line), .int .i64 ((winD (o).lex ((Place.mk ((i : Int)) ((n : Int)) ((m : Int)))) (wordD (o).text ((Place.mk ((i : Int)) ((n : Int)) ((m : Int)))))).at_.word), strV ((winD (o).lex ((Place.mk ((i : Int)) ((n : Int)) ((m : Int)))) (wordD (o).text ((Place.mk ((i : Int)) ((n : Int)) ((m : Int)))))).to.stem), .int .u8 ((winD (o).lex ((Place.mk ((i : Int)) ((n : Int)) ((m : Int)))) (wordD (o).text ((Place.mk ((i : Int)) ((n : Int)) ((m : Int)))))).to.mark), .int .i64 ((winD (o).lex ((Place.mk ((i : Int)) ((n : Int)) ((m : Int)))) (wordD (o).text ((Place.mk ((i : Int)) ((n : Int)) ((m : Int)))))).of_)]))) [1, 0] rfl t_kr t_kr ?_ ?_
    ·
     intro hD wD τD hL hS hO _ _ _ _
     have st55 := St.start hS
     refine zm st55 rfl rfl rfl Tryz.call104 rfl (c_stem_office_wins st55.sub (o := o) (o_f0.up (((((le2.trans le20).trans le25).trans le36).trans le46).trans hL)) (o_f1.up (((((le2.trans le20).trans le25).trans le36).trans le46).trans hL)) (o_f2.up (((((le2.trans le20).trans le25).trans le36).trans le46).trans hL)) (o_f3.up (((((le2.trans le20).trans le25).trans le36).trans le46).trans hL)) (o_c.up (((((le2.trans le20).trans le25).trans le36).trans le46).trans hL)) (p := (Place.mk ((i : Int)) ((n : Int)) ((m : Int)))) (K0.up (((((le2.trans le20).trans le25).trans le36).trans le46).trans hL)) (by exact ho) (by exact hp0)) ?_
     intro r56 w57 h58 le59 st60 q61
     obtain rfl := q61
     exact E ⟨_, _, rfl, st60, (), rfl, trivial⟩
    refine zi 9 [0] X t_kr t_kr X X (fun hD wD τD hL hS hO _ _ => (r_fieldN (us := [strV ((winD (o).lex ((Place.mk ((i : Int)) ((n : Int)) ((m : Int)))) (wordD (o).text ((Place.mk ((i : Int)) ((n : Int)) ((m : Int)))))).to.stem), .int .u8 ((winD (o).lex ((Place.mk ((i : Int)) ((n : Int)) ((m : Int)))) (wordD (o).text ((Place.mk ((i : Int)) ((n : Int)) ((m : Int)))))).to.mark)]) X Tryz.underlying56 X Tryz.isAgg54 Tryz.sizeOf54 X X))<|zi 10 [8, 4, 0] X t_kr t_kr X X (fun hD wD τD hL hS hO _ _ _ _ _ _ => (r_build (cs := [.int .i64 (i : Int), .int .i64 (n : Int), .int .i64 (m : Int), strV wd, strV ((winD (o).lex ((Place.mk ((i : Int)) ((n : Int)) ((m : Int)))) (wordD (o).text ((Place.mk ((i : Int)) ((n : Int)) ((m : Int)))))).to.stem), .int .u8 ((winD (o).lex ((Place.mk ((i : Int)) ((n : Int)) ((m : Int)))) (wordD (o).text ((Place.mk ((i : Int)) ((n : Int)) ((m : Int)))))).to.mark)]) t_kr)) ?_
    refine zS 11 (.res (fun h' res_ => Sl LEntry h' res_ ([(Entry.mk ((Place.mk ((i : Int)) ((n : Int)) ((m : Int)))) (wd) ((winD (o).lex ((Place.mk ((i : Int)) ((n : Int)) ((m : Int)))) (wordD (o).text ((Place.mk ((i : Int)) ((n : Int)) ((m : Int)))))).to))])) (fun _ _ _ hl f => f.up hl)) [0] rfl t_kr t_kr ?_ ?_
    ·
     intro hD wD τD hL hS hO _ _
     have st62 := St.start hS
     refine zU (L := LEntry) (xs := [(Entry.mk ((Place.mk ((i : Int)) ((n : Int)) ((m : Int)))) (wd) ((winD (o).lex ((Place.mk ((i : Int)) ((n : Int)) ((m : Int)))) (wordD (o).text ((Place.mk ((i : Int)) ((n : Int)) ((m : Int)))))).to))]) (cs := [.int .i64 (i : Int), .int .i64 (n : Int), .int .i64 (m : Int), strV wd, strV ((winD (o).lex ((Place.mk ((i : Int)) ((n : Int)) ((m : Int)))) (wordD (o).text ((Place.mk ((i : Int)) ((n : Int)) ((m : Int)))))).to.stem), .int .u8 ((winD (o).lex ((Place.mk ((i : Int)) ((n : Int)) ((m : Int)))) (wordD (o).text ((Place.mk ((i : Int)) ((n : Int)) ((m : Int)))))).to.mark)]) st62 (Enc.cons (L := LEntry) (vs := [.int .i64 (i : Int), .int .i64 (n : Int), .int .i64 (m : Int), strV wd, strV ((winD (o).lex ((Place.mk ((i : Int)) ((n : Int)) ((m : Int)))) (wordD (o).text ((Place.mk ((i : Int)) ((n : Int)) ((m : Int)))))).to.stem), .int .u8 ((winD (o).lex ((Place.mk ((i : Int)) ((n : Int)) ((m : Int)))) (wordD (o).text ((Place.mk ((i : Int)) ((n : Int)) ((m : Int)))))).to.mark)]) (x := (Entry.mk ((Place.mk ((i : Int)) ((n : Int)) ((m : Int)))) (wd) ((winD (o).lex ((Place.mk ((i : Int)) ((n : Int)) ((m : Int)))) (wordD (o).text ((Place.mk ((i : Int)) ((n : Int)) ((m : Int)))))).to))) (h := hD) (⟨rfl, zZ, zZ, t_u8⟩) Enc.nil) X X X Tryz.underlying117 Tryz.info120 X X X t_kr ?_
     intro v63 w64 h67 le68 f65 st66
     exact E ⟨_, _, rfl, st66, _, rfl, f65⟩
    refine zaf<|zaf<|zaq X X X X X X ⟨t_kr, X, t_kr, X, t_kr, X, X, t_kr, (zY X (zY X cx_nil))⟩ ?_
    intro hE70 w71 _ le72 st73 _ _ gv11_0x69 gf11_0x69 _ _
    refine zQ (k := 0) (nb := 64) st73 (hO_3.up (le46.trans le72)) rfl gf11_0x69 rfl rfl rfl Tryz.underlying117 Tryz.info120 rfl rfl rfl (by decide) rfl (by have q1 := flatMap_len (chapP_len ht) i; have q2 := flatMap_len (lineP_len ht i) n; have q3 := chapters_len ht; have q4 := wordsAt_len ht i n; have q5 := linesAt_len ht i; rw [linesAt_some hc] at q5; rw [wordsAt_some hc hln] at q4; simp only [List.length_append, List.length_map, List.length_range, List.length_cons, List.length_nil]; omega) (by have q1 := flatMap_len (chapP_len ht) i; have q2 := flatMap_len (lineP_len ht i) n; have q3 := chapters_len ht; have q4 := wordsAt_len ht i n; have q5 := linesAt_len ht i; rw [linesAt_some hc] at q5; rw [wordsAt_some hc hln] at q4; simp only [List.length_append, List.length_map, List.length_range, List.length_cons, List.length_nil]; omega) ?_
    intro v74 o75 w76 _ e77 f78 st79
    subst e77
    refine E ⟨_, rfl, _, _, Le.refl _, st79, ?_⟩
    intro hE81 w82 _ le83 st84 _ _ _ _ _ _ _ _ _ _ _ _ _ _ _ _ _ _ _ _ _ _ gv11_0x80 gf11_0x80
    refine Y X X (zG (v := v74) X) ?_
    refine E ⟨_, rfl, _, _, Le.refl _, st84, ?_⟩
    intro hE85 w86 _ le87 st88 _ _ _ _ _ _ _ _ _ _ _ _ _ _ _ _ _ _ _ _ _ _ gv11_0x89 gf11_0x89
    refine AllDeps.fin X<|zL<|M<|O<|Y X X (zai X X t_om)<|Y X X (zo X)<|E<|M ?_
    refine ⟨⟨m + 1, v74, o75, hE85⟩, ⟨rfl, rfl, trivial⟩, ?_, ⟨((((le36.trans le46).trans le72).trans le83).trans le87), st88.take 2, ?_, ?_⟩, ?_⟩
    ·exact zag
    ·refine OSl.to (f78.up (le83.trans le87)) ?_
     have hww := word_mk hc hln hwd
     simp only [mkP] at hww
     rw [List.range_succ]; simp only [List.map_append, List.append_assoc, List.map_cons, List.map_nil, entryAt, headAt, mkP, hww]
    ·first | omega | (simp; omega)
    ·show ln.length - ((m + 1)) < ln.length - m
     omega
   ·
    replace c39 := of_decide_eq_false c39
    refine zab<|zn<|zn<|zT<|zL<|M<|O<|Y X X (zai X X t_om)<|Y X X (zo X)<|E<|M ?_
    refine ⟨⟨n + 1, v_3, o_3, h35⟩, ⟨rfl, rfl, trivial⟩, ?_, ⟨(le25.trans le36), st37, ?_, ?_⟩, ?_⟩
    ·exact zag
    ·refine OSl.to hO_3 ?_
     rw [range_flat_succ, ← lineP_snoc hc hln (w := m) (by omega), List.append_assoc]
    ·first | omega | (simp; omega)
    ·show c.lines.length - ((n + 1)) < c.lines.length - n
     omega
  ·
   replace c28 := of_decide_eq_false c28
   refine zab<|zn<|zn<|zT<|zL<|M<|O<|Y X X (zai X X t_om)<|Y X X (zo X)<|E<|M ?_
   refine ⟨⟨i + 1, v_3, o_3, h24⟩, ⟨rfl, rfl, trivial⟩, ?_, ⟨((le2.trans le20).trans le25), st26.take 1, ?_, ?_⟩, ?_⟩
   ·exact zag
   ·refine OSl.to hO_3 ?_
    rw [range_flat_succ, ← chapP_snoc hc (n := n) (by omega)]
   ·first | omega | (simp; omega)
   ·show o.text.chapters.length - ((i + 1)) < o.text.chapters.length - i
    omega
 ·
  replace c7 := of_decide_eq_false c7
  refine zab<|zn<|zn<|zT<|M<|zd<|O<|Y X X (zA (v := v_3) X)<|Y X X (zG (v := v_3) X)<|E<|M<|zy<|zh Tryz.results56 ?_
  obtain ⟨h90, le91, f92, st93⟩ := OSl.freeze (k := 0) st3 hO_3 rfl (by have q1 := flatMap_len (chapP_len ht) i; have q3 := chapters_len ht; rw [List.length_map]; omega)
  refine ⟨h90, _, rfl, st93.done, ?_⟩
  refine ⟨_, rfl, Sl.to f92 ?_⟩
  rw [show i = o.text.chapters.length by omega]; rfl
end Go.Pk

namespace Go.Pk
open Go Go.RowKit Go.Proofs
set_option maxRecDepth 4000 in
theorem c_slices_IndexFunc_Lstem_entry_stem_entry_st {xs : List Entry} {v : Value} {g : FuncId} {caps : List Value} (S : Nat → Heap → World → Prop) (p : Nat → Bool)
  (hS : ∀ k h w, S k h w → Sub h w ∧ Sl LEntry h v xs)
  (hf : ∀ k x h w vs, S k h w → xs[k]? = some x → LEntry.R h vs x → ∀ u, u = .agg vs.toArray → Calls Tryz.prog g (u :: caps).toArray w (fun e w' => ∃ h', e = .returned (.bool (p k)) ∧ S (k + 1) h' w'))
  (hg : ∀ a w, (callFunc g a).run Tryz.prog w = .ok (.enter g a) w) {h : Heap} {w : World} (h0 : S 0 h w) :
  Calls Tryz.prog 169 #[v, .func (.func g) #[] caps.toArray] w (fun e w' => ∃ h' k, e = .returned (.int .i64 (if k < xs.length then (k : Int) else -1)) ∧ k ≤ xs.length ∧ (∀ j, j < k → p j = false) ∧ (k < xs.length → p k = true) ∧ S (if k < xs.length then k + 1 else k) h' w') := by
 refine zM (n := 19) (args := [v, .func (.func g) #[] caps.toArray]) Tryz.func169 X X X ?_
 have hb := (hS 0 h w h0).2.le
 refine zd<|O<|Y X X (zz X)<|E<|M<|zd<|zd<|O<|Y X X (zA (v := v) X)<|Y X X (zae (hS 0 h w h0).2 X Tryz.underlying117)<|Y X X (zo X)<|E<|M<|zF ?_
 refine zW [4, 5, 8, 9, 10, 11, 12, 13, 14, 15, 16, 17, 18] (G := Nat × Heap) (fun ⟨k, _⟩ => [(8, .int .i64 (k : Int))]) (fun ⟨k, h'⟩ w' => S k h' w' ∧ k ≤ xs.length ∧ ∀ j, j < k → p j = false) (fun ⟨k, _⟩ => xs.length - k) ⟨0, h⟩ ⟨rfl, trivial⟩ ⟨h0, by omega, by intros; omega⟩ ?_
 rintro ⟨k, h1⟩ _ w1 ⟨hS1, hk, hp⟩
 obtain ⟨hsub, hsl⟩ := hS k h1 w1 hS1
 refine zd<|O<|Y X X (zam X X)<|E<|M<|zd ?_
 refine zr rfl (fun c1 => ?_) (fun c1 => ?_)
 ·replace c1 := of_decide_eq_true c1
  refine zB<|M<|zd<|zF<|zd<|O<|Y X X (zo X)<|Y X X (zz X)<|E<|M<|zd<|O<|Y X X (r_mvF X)<|Y X X (zA (v := v) X)<|Y X X (zo X) ?_
  have hy : ∃ y, xs[k]? = some y := ⟨_, List.getElem?_eq_getElem (by omega)⟩
  obtain ⟨y, hy⟩ := hy
  obtain ⟨b, o, vs, he, hc, hr⟩ := Sl.elem hsl hy
  refine Y X X (zq he X X (hk := X) (hu := Tryz.underlying117) (hz := Tryz.sizeOf120))<|Y X X (zf hsub hc X Tryz.isAgg120 Tryz.sizeOf120 (LEntry.len hr)) ?_
  refine zaa rfl rfl (zao (fs := []) (cs := caps) rfl rfl hg rfl) ((hf k y h1 w1 _ hS1 hy hr _ rfl).mono ?_)
  rintro e w2 ⟨h2, rfl, hS2⟩
  refine ⟨_, rfl, ?_⟩
  refine E<|M ?_
  refine zr rfl (fun c2 => ?_) (fun c2 => ?_)
  ·refine zd ?_
   refine O<|Y X X (zo X)<|Y X X (zz X)<|E<|M<|zy ?_
   repeat (first | refine zK ?_ | refine zj ?_)
   refine zh Tryz.results169 ?_
   have hlt : k < xs.length := by omega
   exact ⟨h2, k, by rw [if_pos hlt]; rfl, hk, hp, fun _ => c2, by rw [if_pos hlt]; exact hS2⟩
  ·refine zB ?_
   refine zL<|M<|O ?_
   refine Y rfl rfl (zai rfl rfl (by omega)) ?_
   refine Y X X (zo X)<|E<|M ?_
   refine ⟨⟨k + 1, h2⟩, ⟨rfl, trivial⟩, ?_, ⟨hS2, by omega, ?_⟩, ?_⟩
   ·exact zag
   ·intro j hj
    rcases Nat.lt_or_ge j k with h3 | h3
    ·exact hp j h3
    ·obtain rfl : j = k := by omega
     exact c2
   ·show xs.length - (k + 1) < xs.length - k
    omega
 ·replace c1 := of_decide_eq_false c1
  refine zab<|zn<|zn<|zT<|M<|zd<|O<|Y X X (zz X)<|E<|M<|zy<|zh Tryz.results169 ?_
  have hlt : ¬ k < xs.length := by omega
  exact ⟨h1, k, by rw [if_neg hlt]; rfl, hk, hp, fun q => absurd q hlt, by rw [if_neg hlt]; exact hS1⟩

theorem c_slices_IndexFunc_Lstem_entry_stem_entry_own {xs : List Entry} {v : Value} {o : List (Nat × Obj)} {g : FuncId} {caps : List Value} {h0 h : Heap} {w0 w : World} {own : Own} {i : Nat} (st : St h0 w0 h w own) (hO : OSl LEntry 120 h v xs o) (hi : own[i]? = some o) (hb : xs.length ≤ 281474976710656) (q : Entry → Bool)
  (hg : ∀ a w, (callFunc g a).run Tryz.prog w = .ok (.enter g a) w)
  (hf : ∀ x h' w' vs, Le h h' → Sub h' w' → x ∈ xs → LEntry.R h' vs x → ∀ u, u = .agg vs.toArray → Calls Tryz.prog g (u :: caps).toArray w' (Rets h' w' fun _ _ r => r = .bool (q x))) :
  Calls Tryz.prog 169 #[v, .func (.func g) #[] caps.toArray] w (fun e w' => ∃ k, e = .returned (.int .i64 (if k < xs.length then (k : Int) else -1)) ∧ k ≤ xs.length ∧ (∀ j x, j < k → xs[j]? = some x → q x = false) ∧ (∀ x, xs[k]? = some x → q x = true) ∧ St h0 w0 h w' own) := by
 obtain ⟨hall, hx⟩ := OSl.whole st hO hi hb
 refine (c_slices_IndexFunc_Lstem_entry_stem_entry_st (fun k h' w' => St (heapOf w) w h' w' [] ∧ k ≤ xs.length) (fun k => ((xs[k]?).map q).getD false) (fun k h' w' hk => ⟨hk.1.sub, hx.up hk.1.le⟩) ?_ hg ⟨St.start (heapOf_sub w), Nat.zero_le _⟩).mono ?_
 ·rintro k x h' w' vs ⟨st', _⟩ hk hr u hu
  refine (hf x h' w' vs (hall.trans st'.le) st'.sub (List.mem_of_getElem? hk) hr u hu).mono ?_
  rintro e w'' ⟨h'', r, rfl, s, rfl⟩
  obtain ⟨hlt, _⟩ := List.getElem?_eq_some_iff.1 hk
  exact ⟨h'', by simp [hk], st'.call0 s, hlt⟩
 ·rintro e w' ⟨h', k, rfl, q1, q2, q3, q4⟩
  refine ⟨k, rfl, q1, fun j x hj hx => ?_, fun x hx => ?_, st.call0 (St.thaw q4.1 st.sub)⟩
  ·have := q2 j hj; simpa [hx] using this
  ·obtain ⟨hlt, _⟩ := List.getElem?_eq_some_iff.1 hx
   have := q3 hlt; simpa [hx] using this
set_option maxRecDepth 4000 in
theorem c_slices_DeleteFunc_Lstem_entry_stem_entry {h0 h : Heap} {w0 w : World} {rest : Own} {s : (List Entry)} {s_o : List (Nat × Obj)} {s_v : Value} (s_f : OSl LEntry 120 h s_v s s_o) {g : FuncId} {caps : List Value} (q : Entry → Bool) (hb : s.length ≤ 281474976710656) (hg : ∀ a w, (callFunc g a).run Tryz.prog w = .ok (.enter g a) w) (hf : ∀ x h' w' vs, Le h h' → Sub h' w' → x ∈ s → LEntry.R h' vs x → ∀ u, u = .agg vs.toArray → Calls Tryz.prog g (u :: caps).toArray w' (Rets h' w' fun _ _ r => r = .bool (q x))) (st0 : St h0 w0 h w (s_o :: rest)) : Calls Tryz.prog 113 #[s_v, .func (.func g) #[] caps.toArray] w (fun e_ w' => ∃ h' s_o' v', e_ = .returned v' ∧ Le h h' ∧ St h0 w0 h' w' (s_o' :: rest) ∧ OSl LEntry 120 h' v' (s.filter fun x => !q x) s_o') := by
 refine zM (n := 42) (args := [s_v, .func (.func g) #[] caps.toArray]) Tryz.func113 X X X<|zd<|O<|Y X X (r_asL X)<|E<|M<|zd<|O<|Y X X (zA (v := s_v) X)<|Y X X (zA X) ?_
 refine zaa rfl rfl (zah rfl Tryz.call169 rfl) ((c_slices_IndexFunc_Lstem_entry_stem_entry_own (i := 0) st0 s_f rfl hb q hg (fun x h1 w1 vs le_ => hf x h1 w1 vs ((Le.refl _).trans le_))).mono ?_)
 rintro _ w1 ⟨kq, rfl, hk1, hk2, hk3, st6⟩
 refine ⟨_, rfl, ?_⟩
 obtain ⟨rq, hrq⟩ : ∃ r : Int, r = if kq < s.length then (kq : Int) else -1 := ⟨_, rfl⟩
 rw [← hrq]
 refine Y X X (zz X)<|E<|M<|zd<|zd<|O<|Y X X (zo X)<|Y X X (r_eql X X)<|E<|M ?_
 refine zr rfl (fun c9 => ?_) (fun c9 => ?_)
 ·
  replace c9 := of_decide_eq_true c9
  refine zd<|O<|Y X X (zA (v := s_v) X)<|Y X X (zG (v := s_v) X)<|E<|M<|zy<|zj<|zh Tryz.results113 ?_
  refine ⟨h, _, _, rfl, (Le.refl _), st6, OSl.to s_f ?_⟩
  exact (filter_none (fun j x hj hx => hk2 j x (by by_cases q : kq < s.length; (rw [if_pos q] at hrq; have q2 := c9; omega); omega) hx)).symm
 ·
  replace c9 := of_decide_eq_false c9
  refine zB<|M<|zd<|zd ?_
  have hk : kq < s.length := by
   by_cases q : kq < s.length
   ·exact q
   ·rw [if_neg q] at hrq; exact absurd hrq c9
  rw [if_pos hk] at hrq
  refine O<|Y X X (zo X)<|Y X X (zai X X t_om)<|Y X X (zz X)<|E<|M<|zF ?_
  refine zW [0, 5, 6, 7, 16, 17, 18, 19, 20, 21, 22, 23, 24, 25, 26, 27, 28, 29, 30, 31, 32, 33, 34, 35] (G := Nat × Nat × List Entry × Value × List (Nat × Obj) × Heap) (fun ⟨i, j, ys, v_0, o_0, h10⟩ => [(0, v_0), (5, .int .i64 (i : Int)), (6, .int .i64 (j : Int))]) (fun ⟨i, j, ys, v_0, o_0, h10⟩ w' => Le h h10 ∧ St h0 w0 h10 w' (o_0 :: rest) ∧ (OSl LEntry 120 h10 v_0 (ys) o_0) ∧ (DelF q s ys i j) ∧ (ys.length = s.length ∧ i ≤ j ∧ j ≤ s.length)) (fun ⟨i, j, ys, v_0, o_0, h10⟩ => s.length - j) ⟨kq, kq + 1, s, s_v, s_o, h⟩ ⟨rfl, (zV (by omega)), (zV (by omega)), trivial⟩ ⟨Le.refl _, st6, (OSl.to s_f (by rfl)), (by exact DelF.start hk2 hk3 hk), (by exact ⟨rfl, by omega, by omega⟩)⟩ ?_
  rintro ⟨i, j, ys, v_0, o_0, h10⟩ _ w13 ⟨le11, st12, hO_0, hD, hyl⟩
  refine zd<|zd<|O<|Y X X (zo X)<|Y X X (zA (v := v_0) X)<|Y X X (r_len_own hO_0 X Tryz.underlying117)<|Y X X (zam X X)<|E<|M ?_
  refine zr rfl (fun c14 => ?_) (fun c14 => ?_)
  ·
   replace c14 := of_decide_eq_true c14
   refine zB<|M<|zd<|zF<|zd<|O<|Y X X (zA (v := v_0) X)<|Y X X (zo X) ?_
   have hy : ∃ y, (ys)[j]? = some y := ⟨_, List.getElem?_eq_getElem (by omega)⟩
   obtain ⟨y, hy⟩ := hy
   obtain ⟨b15, o16, cur17, _, e20, he18, hr_y, hc19⟩ := OSl.elem hO_0 hy
   subst e20
   obtain ⟨rfl, ls21, ls22, lu23⟩ := hr_y
   simp only [big] at ls21
   simp only [big] at ls22
   refine Y X X (zq he18 X X (hk := X) (hu := Tryz.underlying117) (hz := Tryz.sizeOf120))<|Y X X (r_load_curN (st12.get (k := 0) X) hc19 X Tryz.isAgg120 Tryz.sizeOf120 X)<|OpsL.allocSt st12 Tryz.zeroValue120 X X X (us := [.int .i64 (y.at_.chapter), .int .i64 (y.at_.line), .int .i64 (y.at_.word), strV (y.word), strV (y.head.stem), .int .u8 (y.head.mark)]) (fun _ => X) (zg X (zg X (zg X (zg X (zg X (zg X zX)))))) Tryz.sizeOf120 X ?_
   intro b24 w25 h26 le27 hc28 st29
   refine E<|M<|zd<|O<|Y X X (zA X)<|Y X X (zf st29.sub hc28 X Tryz.isAgg120 Tryz.sizeOf120 X) ?_
   refine zaa rfl rfl (zao (fs := []) (cs := caps) rfl rfl hg rfl) ((hf y _ _ _ (le11.trans le27) st29.sub (List.mem_of_getElem? (hD.get hy)) ⟨rfl, zZ, zZ, t_u8⟩ _ rfl).mono ?_)
   rintro _ w30 ⟨h31, _, rfl, s32, rfl⟩
   refine ⟨_, rfl, ?_⟩
   have st33 := st29.call0 s32
   have le34 := s32.le
   refine Y X X (r_not X)<|E<|M ?_
   refine zr rfl (fun c35 => ?_) (fun c35 => ?_)
   ·
    refine zd<|O<|Y X X (zA (v := v_0) X)<|Y X X (zo X)<|Y X X (zf st33.sub (hc28.up le34) X Tryz.isAgg120 Tryz.sizeOf120 X) ?_
    have hy2 : ∃ y, (ys)[i]? = some y := ⟨_, List.getElem?_eq_getElem (by omega)⟩
    obtain ⟨y2, hy2⟩ := hy2
    obtain ⟨b36, o37, cur38, _, e41, he39, hr_y2, hc40⟩ := OSl.elem (hO_0.up (le27.trans le34)) hy2
    obtain ⟨hb42, hc43⟩ : b15 = b36 ∧ cur17 = cur38 := by cases e41; exact ⟨rfl, rfl⟩
    subst hb42
    subst hc43
    obtain ⟨rfl, ls44, ls45, lu46⟩ := hr_y2
    simp only [big] at ls44
    simp only [big] at ls45
    refine Y rfl rfl (zq he39 rfl rfl (hk := (show _ = ((i : Nat) : Int) by omega)) (hu := Tryz.underlying117) (hz := Tryz.sizeOf120)) ?_
    refine OpsL.storeEl (k := 0) st33 (hO_0.up (le27.trans le34)) rfl (by omega) he39 rfl rfl (⟨rfl, zZ, zZ, t_u8⟩) Tryz.sizeOf120 ?_
    intro o47 w48 _ e49 f50 st51
    subst e49
    refine E<|M<|O<|Y X X (zo X)<|Y X X (zai X X t_om)<|Y X X (zz X)<|E<|zL<|M<|O<|Y X X (zo X)<|Y X X (zai X X t_om)<|Y X X (zz X)<|E<|M ?_
    refine ⟨⟨i + 1, j + 1, (ys.set i y), v_0, o47, h31⟩, ⟨rfl, rfl, rfl, trivial⟩, ?_, ⟨((le11.trans le27).trans le34), st51, ?_, ?_, ?_⟩, ?_⟩
    ·exact zag
    ·refine OSl.to f50 ?_
     rfl
    ·exact hD.keep hy (by simpa using c35)
    ·refine ⟨by first | (rw [List.length_set]; exact hyl.1) | exact hyl.1, by omega, by omega⟩
    ·show s.length - ((j + 1)) < s.length - j
     omega
   ·
    refine zB<|zL<|M<|O<|Y X X (zo X)<|Y X X (zai X X t_om)<|Y X X (zz X)<|E<|M ?_
    refine ⟨⟨i, j + 1, ys, v_0, [(b15, .cells cur17 120)], h31⟩, ⟨rfl, rfl, rfl, trivial⟩, ?_, ⟨((le11.trans le27).trans le34), st33, ?_, ?_, ?_⟩, ?_⟩
    ·exact zag
    ·refine OSl.to (hO_0.up (le27.trans le34)) ?_
     rfl
    ·exact hD.skip hy (by simpa using c35)
    ·refine ⟨by first | (rw [List.length_set]; exact hyl.1) | exact hyl.1, by omega, by omega⟩
    ·show s.length - ((j + 1)) < s.length - j
     omega
  ·
   replace c14 := of_decide_eq_false c14
   refine zab<|zn<|zn<|zT<|M<|zd<|O<|Y X X (zA (v := v_0) X)<|Y X X (zo X) ?_
   refine Y rfl rfl (r_slice_from_own hO_0 rfl rfl (hk := (show _ = ((i : Nat) : Int) by omega)) (by omega) Tryz.underlying117 Tryz.sizeOf120) ?_
   refine OpsL.clearTail (k := 0) (j := i) st12 hO_0 rfl (by omega) rfl Tryz.underlying117 Tryz.zeroValue120 rfl (by decide) ?_
   intro o52 w53 _ e54 f55 st56
   subst e54
   refine E<|M<|zd<|O<|Y X X (zA (v := v_0) X)<|Y X X (zo X) ?_
   refine Y rfl rfl (r_slice_to_own hO_0 rfl rfl (hk := (show _ = ((i : Nat) : Int) by omega)) (by omega) Tryz.underlying117 Tryz.sizeOf120) ?_
   refine Y X X (zG (v := (vtake v_0 (i))) X)<|E<|M<|zy<|zh Tryz.results113 ?_
   refine ⟨h10, _, _, rfl, le11, st56, OSl.to f55 ?_⟩
   exact hD.fin (by omega)
end Go.Pk

namespace Go.Pk
open Go Go.RowKit Go.Proofs
set_option maxRecDepth 4000 in
theorem c_slices_Compact_Lapi_Head_api_Head {h0 h : Heap} {w0 w : World} {rest : Own} {s : (List Head)} {s_o : List (Nat × Obj)} {s_v : Value} (s_f : OSl LHead 54 h s_v s s_o) (hb : s.length ≤ 281474976710656) (st0 : St h0 w0 h w (s_o :: rest)) : Calls Tryz.prog 77 #[s_v] w (fun e_ w' => ∃ h' s_o' v', e_ = .returned v' ∧ Le h h' ∧ St h0 w0 h' w' (s_o' :: rest) ∧ OSl LHead 54 h' v' (compactL s) s_o') := by
 refine zM (n := 61) (args := [s_v]) Tryz.func77 X X X<|zd<|O<|Y X X (r_asL X)<|E<|M<|zd<|zd<|O<|Y X X (zA (v := s_v) X)<|Y X X (r_len_own s_f X Tryz.underlying80)<|Y X X (zam X X)<|E<|M ?_
 refine zr rfl (fun c1 => ?_) (fun c1 => ?_)
 ·
  replace c1 := of_decide_eq_true c1
  refine zd<|O<|Y X X (zA (v := s_v) X)<|Y X X (zG (v := s_v) X)<|E<|M<|zy<|zj<|zh Tryz.results77 ?_
  refine ⟨h, _, _, rfl, (Le.refl _), st0, OSl.to s_f ?_⟩
  exact (comp_short (by omega)).symm
 ·
  replace c1 := of_decide_eq_false c1
  refine zB<|M<|zd<|zd<|O<|Y X X (zz X)<|E<|M<|zF ?_
  refine zW [2, 3, 4, 5, 10, 11, 12, 13, 14, 15, 16, 17, 18, 19, 20, 21, 22, 23, 24, 25, 26, 27, 28, 29, 30, 31, 32, 33, 34, 35, 36, 37, 38, 39, 40, 41, 42, 43, 44, 45, 46, 47, 48, 49, 50, 51, 52, 53, 54, 55, 56, 57, 58, 59] (G := Nat × List (Nat × Obj) × Heap) (fun ⟨k, o_0, h2⟩ => [(3, .int .i64 (k : Int))]) (fun ⟨k, o_0, h2⟩ w' => Le h h2 ∧ St h0 w0 h2 w' (o_0 :: rest) ∧ (OSl LHead 54 h2 s_v (s) o_0) ∧ (1 ≤ k ∧ k ≤ s.length) ∧ (compactL (s.take k) = s.take k)) (fun ⟨k, o_0, h2⟩ => s.length - k) ⟨1, s_o, h⟩ ⟨rfl, trivial⟩ ⟨Le.refl _, st0, (OSl.to s_f (by rfl)), (by exact ⟨by omega, by omega⟩), (by exact comp_one (by omega))⟩ ?_
  rintro ⟨k, o_0, h2⟩ _ w5 ⟨le3, st4, hO_0, hk, hc⟩
  refine zd<|zd<|O<|Y X X (zo X)<|Y X X (zA (v := s_v) X)<|Y X X (r_len_own hO_0 X Tryz.underlying80)<|Y X X (zam X X)<|E<|M ?_
  refine zr rfl (fun c6 => ?_) (fun c6 => ?_)
  ·
   replace c6 := of_decide_eq_true c6
   refine zB<|M<|zd<|zF<|zd<|zaj Tryz.mixed t_kr (Cls h2 _) (Cls.drew st4)<|ze X X (fun _ _ => (zA (v := s_v) X))<|ze X X (fun _ _ => (zo X)) ?_
   have hy : ∃ y, (s)[k]? = some y := ⟨_, List.getElem?_eq_getElem (by omega)⟩
   obtain ⟨y, hy⟩ := hy
   obtain ⟨b7, o8, cur9, _, e12, he10, hr_y, hc11⟩ := OSl.elem hO_0 hy
   subst e12
   obtain ⟨rfl, ls13, lu14⟩ := hr_y
   simp only [big] at ls13
   refine ze X X (fun _ _ => (zq he10 X X (hk := X) (hu := Tryz.underlying80) (hz := Tryz.sizeOf54)))<|ze X X (fun _ hC => (r_load_curN (hC.block (st4.get (k := 0) X)) hc11 X Tryz.isAgg54 Tryz.sizeOf54 X))<|ze X X (fun _ _ => (zA (v := s_v) X))<|ze X X (fun _ _ => (zo X))<|ze X X (fun _ _ => (r_sub X X t_om)) ?_
   have hz : ∃ y, (s)[k - 1]? = some y := ⟨_, List.getElem?_eq_getElem (by omega)⟩
   obtain ⟨z, hz⟩ := hz
   obtain ⟨b15, o16, cur17, _, e20, he18, hr_z, hc19⟩ := OSl.elem hO_0 hz
   obtain ⟨hb21, hc22⟩ : b7 = b15 ∧ cur9 = cur17 := by cases e20; exact ⟨rfl, rfl⟩
   subst hb21
   subst hc22
   obtain ⟨rfl, ls23, lu24⟩ := hr_z
   simp only [big] at ls23
   refine ze rfl rfl (fun _ _ => (zq he18 rfl rfl (hk := (show _ = ((k - 1 : Nat) : Int) by omega)) (hu := Tryz.underlying80) (hz := Tryz.sizeOf54))) ?_
   refine ze X X (fun _ hC => (r_load_curN (hC.block (st4.get (k := 0) X)) hc19 X Tryz.isAgg54 Tryz.sizeOf54 X))<|ze X X (fun _ _ => (r_steql X X Tryz.eqGuardType54 (Tryz.eq_Head y z)))<|zad ?_
   rintro w25 ⟨h26, s27⟩
   have st28 := st4.call0 s27
   refine M ?_
   refine zr rfl (fun c29 => ?_) (fun c29 => ?_)
   ·
    replace c29 := of_decide_eq_true c29
    refine zd<|O<|Y X X (zA (v := s_v) X)<|Y X X (zo X) ?_
    refine Y rfl rfl (r_slice_from_own (hO_0.up s27.le) rfl rfl (hk := (show _ = ((k : Nat) : Int) by omega)) (by omega) Tryz.underlying80 Tryz.sizeOf54) ?_
    refine Y X X (zG (v := (vdrop 2 s_v (k))) X)<|E<|M<|zd<|zd<|O<|Y X X (zz X)<|E<|M<|zF ?_
    refine zW [3, 5, 29, 30, 31, 32, 33, 34, 35, 36, 37, 38, 39, 40, 41, 42, 43, 44, 45, 46, 47, 48, 49, 50, 51, 52, 53] (G := Nat × Nat × List Head × List (Nat × Obj) × Heap) (fun ⟨i, k2, ys, o_0, h30⟩ => [(3, .int .i64 (i : Int)), (5, .int .i64 (k2 : Int))]) (fun ⟨i, k2, ys, o_0, h30⟩ w' => Le h26 h30 ∧ St h0 w0 h30 w' (o_0 :: rest) ∧ (OSl LHead 54 h30 s_v (ys) o_0) ∧ (1 ≤ k2 ∧ k + k2 ≤ s.length ∧ ys.length = s.length ∧ i + 1 ≤ k + k2) ∧ (Comp s ys i (k + k2))) (fun ⟨i, k2, ys, o_0, h30⟩ => s.length - (k + k2)) ⟨k, 1, s, [(b7, .cells cur9 54)], h26⟩ ⟨rfl, rfl, trivial⟩ ⟨Le.refl _, st28, (OSl.to (hO_0.up s27.le) (by rfl)), (by exact ⟨by omega, by omega, rfl, by omega⟩), (by exact Comp.start hz hy hk.1 hc (by simpa using c29))⟩ ?_
    rintro ⟨i, k2, ys, o_0, h30⟩ _ w33 ⟨le31, st32, hO_0, hk2, hD⟩
    refine zd<|zd<|O<|Y X X (zo X)<|Y X X (zA (v := (vdrop 2 s_v (k))) X)<|Y X X (r_len_vdrop X (OSl.form hO_0) Tryz.underlying80)<|Y X X (zam X X)<|E<|M ?_
    refine zr rfl (fun c34 => ?_) (fun c34 => ?_)
    ·
     replace c34 := of_decide_eq_true c34
     refine zB<|M<|zd<|zF<|zd<|zaj Tryz.mixed t_kr (Cls h30 _) (Cls.drew st32)<|ze X X (fun _ _ => (zA (v := (vdrop 2 s_v (k))) X))<|ze X X (fun _ _ => (zo X)) ?_
     have hy2 : ∃ y, (ys)[k + k2]? = some y := ⟨_, List.getElem?_eq_getElem (by omega)⟩
     obtain ⟨y2, hy2⟩ := hy2
     obtain ⟨b35, o36, cur37, _, e40, he38, hr_y2, hc39⟩ := OSl.elem hO_0 hy2
     subst e40
     obtain ⟨rfl, ls41, lu42⟩ := hr_y2
     simp only [big] at ls41
     refine ze rfl rfl (fun _ _ => (zq (Elem.drop' (k := k) (j := k2) he38 (by omega) (OSl.caps hO_0)) rfl rfl (hk := rfl) (hu := Tryz.underlying80) (hz := Tryz.sizeOf54))) ?_
     refine ze X X (fun _ hC => (r_load_curN (hC.block (st32.get (k := 0) X)) hc39 X Tryz.isAgg54 Tryz.sizeOf54 X))<|ze X X (fun _ _ => (zA (v := (vdrop 2 s_v (k))) X))<|ze X X (fun _ _ => (zo X))<|ze X X (fun _ _ => (r_sub X X t_om)) ?_
     have hz2 : ∃ y, (ys)[k + k2 - 1]? = some y := ⟨_, List.getElem?_eq_getElem (by omega)⟩
     obtain ⟨z2, hz2⟩ := hz2
     obtain ⟨b43, o44, cur45, _, e48, he46, hr_z2, hc47⟩ := OSl.elem hO_0 hz2
     obtain ⟨hb49, hc50⟩ : b35 = b43 ∧ cur37 = cur45 := by cases e48; exact ⟨rfl, rfl⟩
     subst hb49
     subst hc50
     obtain ⟨rfl, ls51, lu52⟩ := hr_z2
     simp only [big] at ls51
     refine ze rfl rfl (fun _ _ => (zq (Elem.drop' (k := k) (j := k2 - 1) he46 (by omega) (OSl.caps hO_0)) rfl rfl (hk := (show _ = ((k2 - 1 : Nat) : Int) by omega)) (hu := Tryz.underlying80) (hz := Tryz.sizeOf54))) ?_
     refine ze X X (fun _ hC => (r_load_curN (hC.block (st32.get (k := 0) X)) hc47 X Tryz.isAgg54 Tryz.sizeOf54 X))<|ze X X (fun _ _ => (r_stneq X X Tryz.eqGuardType54 (Tryz.eq_Head y2 z2)))<|zad ?_
     rintro w53 ⟨h54, s55⟩
     have st56 := st32.call0 s55
     refine M ?_
     refine zr rfl (fun c57 => ?_) (fun c57 => ?_)
     ·
      replace c57 := of_decide_eq_true c57
      refine zd<|O<|Y X X (zA (v := s_v) X)<|Y X X (zo X)<|Y X X (zA (v := (vdrop 2 s_v (k))) X)<|Y X X (zo X) ?_
      obtain ⟨b58, o59, cur60, _, e63, he61, hr_y2, hc62⟩ := OSl.elem (hO_0.up s55.le) hy2
      obtain ⟨hb64, hc65⟩ : b35 = b58 ∧ cur37 = cur60 := by cases e63; exact ⟨rfl, rfl⟩
      subst hb64
      subst hc65
      obtain ⟨rfl, ls66, lu67⟩ := hr_y2
      simp only [big] at ls66
      refine Y rfl rfl (zq (Elem.drop' (k := k) (j := k2) he61 (by omega) (OSl.caps (hO_0.up s55.le))) rfl rfl (hk := rfl) (hu := Tryz.underlying80) (hz := Tryz.sizeOf54)) ?_
      refine Y X X (r_load_curN (st56.get (k := 0) X) hc62 X Tryz.isAgg54 Tryz.sizeOf54 X) ?_
      have hu2 : ∃ y, (ys)[i]? = some y := ⟨_, List.getElem?_eq_getElem (by omega)⟩
      obtain ⟨u2, hu2⟩ := hu2
      obtain ⟨b68, o69, cur70, _, e73, he71, hr_u2, hc72⟩ := OSl.elem (hO_0.up s55.le) hu2
      obtain ⟨hb74, hc75⟩ : b35 = b68 ∧ cur37 = cur70 := by cases e73; exact ⟨rfl, rfl⟩
      subst hb74
      subst hc75
      obtain ⟨rfl, ls76, lu77⟩ := hr_u2
      simp only [big] at ls76
      refine Y rfl rfl (zq he71 rfl rfl (hk := (show _ = ((i : Nat) : Int) by omega)) (hu := Tryz.underlying80) (hz := Tryz.sizeOf54)) ?_
      refine OpsL.storeEl (k := 0) st56 (hO_0.up s55.le) rfl (by omega) he71 rfl rfl (⟨rfl, zZ, t_u8⟩) Tryz.sizeOf54 ?_
      intro o78 w79 _ e80 f81 st82
      subst e80
      refine E<|M<|O<|Y X X (zo X)<|Y X X (zai X X t_om)<|Y X X (zz X)<|E<|zL<|M<|O<|Y X X (zo X)<|Y X X (zai X X t_om)<|Y X X (zz X)<|E<|M ?_
      refine ⟨⟨i + 1, k2 + 1, (ys.set i y2), o78, h54⟩, ⟨rfl, rfl, trivial⟩, ?_, ⟨(le31.trans s55.le), st82, ?_, ?_, ?_⟩, ?_⟩
      ·exact zag
      ·refine OSl.to f81 ?_
       rfl
      ·refine ⟨by omega, by omega, by first | (rw [List.length_set]; omega) | omega, by omega⟩
      ·exact hD.keep hy2 hz2 (by simpa using c57)
      ·show s.length - (k + ((k2 + 1))) < s.length - (k + k2)
       omega
     ·
      replace c57 := of_decide_eq_false c57
      refine zB<|zL<|M<|O<|Y X X (zo X)<|Y X X (zai X X t_om)<|Y X X (zz X)<|E<|M ?_
      refine ⟨⟨i, k2 + 1, ys, [(b35, .cells cur37 54)], h54⟩, ⟨rfl, rfl, trivial⟩, ?_, ⟨(le31.trans s55.le), st56, ?_, ?_, ?_⟩, ?_⟩
      ·exact zag
      ·refine OSl.to (hO_0.up s55.le) ?_
       rfl
      ·refine ⟨by omega, by omega, by first | (rw [List.length_set]; omega) | omega, by omega⟩
      ·exact hD.skip hy2 hz2 (by simpa using c57)
      ·show s.length - (k + ((k2 + 1))) < s.length - (k + k2)
       omega
    ·
     replace c34 := of_decide_eq_false c34
     refine zab<|zn<|zn<|zT<|M<|zd<|O<|Y X X (zA (v := s_v) X)<|Y X X (zo X) ?_
     refine Y rfl rfl (r_slice_from_own hO_0 rfl rfl (hk := (show _ = ((i : Nat) : Int) by omega)) (by omega) Tryz.underlying80 Tryz.sizeOf54) ?_
     refine OpsL.clearTail (k := 0) (j := i) st32 hO_0 rfl (by omega) rfl Tryz.underlying80 Tryz.zeroValue54 rfl (by decide) ?_
     intro o83 w84 _ e85 f86 st87
     subst e85
     refine E<|M<|zd<|O<|Y X X (zA (v := s_v) X)<|Y X X (zo X) ?_
     refine Y rfl rfl (r_slice_to_own hO_0 rfl rfl (hk := (show _ = ((i : Nat) : Int) by omega)) (by omega) Tryz.underlying80 Tryz.sizeOf54) ?_
     refine Y X X (zG (v := (vtake s_v (i))) X)<|E<|M<|zy<|zK<|zj<|zj<|zK<|zj<|zh Tryz.results77 ?_
     refine ⟨h30, _, _, rfl, ((le3.trans s27.le).trans le31), st87, OSl.to f86 ?_⟩
     exact hD.fin (by omega)
   ·
    replace c29 := of_decide_eq_false c29
    refine zB<|zL<|M<|O<|Y X X (zo X)<|Y X X (zai X X t_om)<|Y X X (zz X)<|E<|M ?_
    refine ⟨⟨k + 1, [(b7, .cells cur9 54)], h26⟩, ⟨rfl, trivial⟩, ?_, ⟨(le3.trans s27.le), st28, ?_, ?_, ?_⟩, ?_⟩
    ·exact zag
    ·refine OSl.to (hO_0.up s27.le) ?_
     rfl
    ·exact ⟨by omega, by omega⟩
    ·exact comp_more hz hy hk.1 hc (by simpa using c29)
    ·show s.length - ((k + 1)) < s.length - k
     omega
  ·
   replace c6 := of_decide_eq_false c6
   refine zab<|zn<|zn<|zT<|M<|zd<|O<|Y X X (zA (v := s_v) X)<|Y X X (zG (v := s_v) X)<|E<|M<|zy<|zh Tryz.results77 ?_
   refine ⟨h2, _, _, rfl, le3, st4, OSl.to hO_0 ?_⟩
   rw [List.take_of_length_le (by omega)] at hc; exact hc.symm
set_option maxRecDepth 4000 in
theorem c_slices_Compact_Lstring_string {h0 h : Heap} {w0 w : World} {rest : Own} {s : (List Str)} {s_o : List (Nat × Obj)} {s_v : Value} (s_f : OSl LStr 9 h s_v s s_o) (hb : s.length ≤ 281474976710656) (st0 : St h0 w0 h w (s_o :: rest)) : Calls Tryz.prog 58 #[s_v] w (fun e_ w' => ∃ h' s_o' v', e_ = .returned v' ∧ Le h h' ∧ St h0 w0 h' w' (s_o' :: rest) ∧ OSl LStr 9 h' v' (compactL s) s_o') := by
 refine zM (n := 61) (args := [s_v]) Tryz.func58 X X X<|zd<|O<|Y X X (r_asL X)<|E<|M<|zd<|zd<|O<|Y X X (zA (v := s_v) X)<|Y X X (r_len_own s_f X Tryz.underlying33)<|Y X X (zam X X)<|E<|M ?_
 refine zr rfl (fun c1 => ?_) (fun c1 => ?_)
 ·
  replace c1 := of_decide_eq_true c1
  refine zd<|O<|Y X X (zA (v := s_v) X)<|Y X X (zG (v := s_v) X)<|E<|M<|zy<|zj<|zh Tryz.results58 ?_
  refine ⟨h, _, _, rfl, (Le.refl _), st0, OSl.to s_f ?_⟩
  exact (comp_short (by omega)).symm
 ·
  replace c1 := of_decide_eq_false c1
  refine zB<|M<|zd<|zd<|O<|Y X X (zz X)<|E<|M<|zF ?_
  refine zW [2, 3, 4, 5, 10, 11, 12, 13, 14, 15, 16, 17, 18, 19, 20, 21, 22, 23, 24, 25, 26, 27, 28, 29, 30, 31, 32, 33, 34, 35, 36, 37, 38, 39, 40, 41, 42, 43, 44, 45, 46, 47, 48, 49, 50, 51, 52, 53, 54, 55, 56, 57, 58, 59] (G := Nat × List (Nat × Obj) × Heap) (fun ⟨k, o_0, h2⟩ => [(3, .int .i64 (k : Int))]) (fun ⟨k, o_0, h2⟩ w' => Le h h2 ∧ St h0 w0 h2 w' (o_0 :: rest) ∧ (OSl LStr 9 h2 s_v (s) o_0) ∧ (1 ≤ k ∧ k ≤ s.length) ∧ (compactL (s.take k) = s.take k)) (fun ⟨k, o_0, h2⟩ => s.length - k) ⟨1, s_o, h⟩ ⟨rfl, trivial⟩ ⟨Le.refl _, st0, (OSl.to s_f (by rfl)), (by exact ⟨by omega, by omega⟩), (by exact comp_one (by omega))⟩ ?_
  rintro ⟨k, o_0, h2⟩ _ w5 ⟨le3, st4, hO_0, hk, hc⟩
  refine zd<|zd<|O<|Y X X (zo X)<|Y X X (zA (v := s_v) X)<|Y X X (r_len_own hO_0 X Tryz.underlying33)<|Y X X (zam X X)<|E<|M ?_
  refine zr rfl (fun c6 => ?_) (fun c6 => ?_)
  ·
   replace c6 := of_decide_eq_true c6
   refine zB<|M<|zd<|zF<|zd<|zaj Tryz.mixed t_kr (Cls h2 _) (Cls.drew st4)<|ze X X (fun _ _ => (zA (v := s_v) X))<|ze X X (fun _ _ => (zo X)) ?_
   have hy : ∃ y, (s)[k]? = some y := ⟨_, List.getElem?_eq_getElem (by omega)⟩
   obtain ⟨y, hy⟩ := hy
   obtain ⟨b7, o8, cur9, _, e12, he10, hr_y, hc11⟩ := OSl.elem hO_0 hy
   subst e12
   obtain ⟨rfl, ls13⟩ := hr_y
   simp only [big] at ls13
   refine ze X X (fun _ _ => (zq he10 X X (hk := X) (hu := Tryz.underlying33) (hz := Tryz.sizeOf9)))<|ze X X (fun _ hC => (r_load_cur1 (j := 0) (hC.block (st4.get (k := 0) X)) hc11 X X X Tryz.isAgg9))<|ze X X (fun _ _ => (zA (v := s_v) X))<|ze X X (fun _ _ => (zo X))<|ze X X (fun _ _ => (r_sub X X t_om)) ?_
   have hz : ∃ y, (s)[k - 1]? = some y := ⟨_, List.getElem?_eq_getElem (by omega)⟩
   obtain ⟨z, hz⟩ := hz
   obtain ⟨b14, o15, cur16, _, e19, he17, hr_z, hc18⟩ := OSl.elem hO_0 hz
   obtain ⟨hb20, hc21⟩ : b7 = b14 ∧ cur9 = cur16 := by cases e19; exact ⟨rfl, rfl⟩
   subst hb20
   subst hc21
   obtain ⟨rfl, ls22⟩ := hr_z
   simp only [big] at ls22
   refine ze rfl rfl (fun _ _ => (zq he17 rfl rfl (hk := (show _ = ((k - 1 : Nat) : Int) by omega)) (hu := Tryz.underlying33) (hz := Tryz.sizeOf9))) ?_
   refine ze X X (fun _ hC => (r_load_cur1 (j := 0) (hC.block (st4.get (k := 0) X)) hc18 X X X Tryz.isAgg9))<|ze X X (fun _ _ => (r_seql X X))<|zad ?_
   rintro w23 ⟨h24, s25⟩
   have st26 := st4.call0 s25
   refine M ?_
   refine zr rfl (fun c27 => ?_) (fun c27 => ?_)
   ·
    replace c27 := of_decide_eq_true c27
    refine zd<|O<|Y X X (zA (v := s_v) X)<|Y X X (zo X) ?_
    refine Y rfl rfl (r_slice_from_own (hO_0.up s25.le) rfl rfl (hk := (show _ = ((k : Nat) : Int) by omega)) (by omega) Tryz.underlying33 Tryz.sizeOf9) ?_
    refine Y X X (zG (v := (vdrop 1 s_v (k))) X)<|E<|M<|zd<|zd<|O<|Y X X (zz X)<|E<|M<|zF ?_
    refine zW [3, 5, 29, 30, 31, 32, 33, 34, 35, 36, 37, 38, 39, 40, 41, 42, 43, 44, 45, 46, 47, 48, 49, 50, 51, 52, 53] (G := Nat × Nat × List Str × List (Nat × Obj) × Heap) (fun ⟨i, k2, ys, o_0, h28⟩ => [(3, .int .i64 (i : Int)), (5, .int .i64 (k2 : Int))]) (fun ⟨i, k2, ys, o_0, h28⟩ w' => Le h24 h28 ∧ St h0 w0 h28 w' (o_0 :: rest) ∧ (OSl LStr 9 h28 s_v (ys) o_0) ∧ (1 ≤ k2 ∧ k + k2 ≤ s.length ∧ ys.length = s.length ∧ i + 1 ≤ k + k2) ∧ (Comp s ys i (k + k2))) (fun ⟨i, k2, ys, o_0, h28⟩ => s.length - (k + k2)) ⟨k, 1, s, [(b7, .cells cur9 9)], h24⟩ ⟨rfl, rfl, trivial⟩ ⟨Le.refl _, st26, (OSl.to (hO_0.up s25.le) (by rfl)), (by exact ⟨by omega, by omega, rfl, by omega⟩), (by exact Comp.start hz hy hk.1 hc (by simpa using c27))⟩ ?_
    rintro ⟨i, k2, ys, o_0, h28⟩ _ w31 ⟨le29, st30, hO_0, hk2, hD⟩
    refine zd<|zd<|O<|Y X X (zo X)<|Y X X (zA (v := (vdrop 1 s_v (k))) X)<|Y X X (r_len_vdrop X (OSl.form hO_0) Tryz.underlying33)<|Y X X (zam X X)<|E<|M ?_
    refine zr rfl (fun c32 => ?_) (fun c32 => ?_)
    ·
     replace c32 := of_decide_eq_true c32
     refine zB<|M<|zd<|zF<|zd<|zaj Tryz.mixed t_kr (Cls h28 _) (Cls.drew st30)<|ze X X (fun _ _ => (zA (v := (vdrop 1 s_v (k))) X))<|ze X X (fun _ _ => (zo X)) ?_
     have hy2 : ∃ y, (ys)[k + k2]? = some y := ⟨_, List.getElem?_eq_getElem (by omega)⟩
     obtain ⟨y2, hy2⟩ := hy2
     obtain ⟨b33, o34, cur35, _, e38, he36, hr_y2, hc37⟩ := OSl.elem hO_0 hy2
     subst e38
     obtain ⟨rfl, ls39⟩ := hr_y2
     simp only [big] at ls39
     refine ze rfl rfl (fun _ _ => (zq (Elem.drop' (k := k) (j := k2) he36 (by omega) (OSl.caps hO_0)) rfl rfl (hk := rfl) (hu := Tryz.underlying33) (hz := Tryz.sizeOf9))) ?_
     refine ze X X (fun _ hC => (r_load_cur1 (j := 0) (hC.block (st30.get (k := 0) X)) hc37 X X X Tryz.isAgg9))<|ze X X (fun _ _ => (zA (v := (vdrop 1 s_v (k))) X))<|ze X X (fun _ _ => (zo X))<|ze X X (fun _ _ => (r_sub X X t_om)) ?_
     have hz2 : ∃ y, (ys)[k + k2 - 1]? = some y := ⟨_, List.getElem?_eq_getElem (by omega)⟩
     obtain ⟨z2, hz2⟩ := hz2
     obtain ⟨b40, o41, cur42, _, e45, he43, hr_z2, hc44⟩ := OSl.elem hO_0 hz2
     obtain ⟨hb46, hc47⟩ : b33 = b40 ∧ cur35 = cur42 := by cases e45; exact ⟨rfl, rfl⟩
     subst hb46
     subst hc47
     obtain ⟨rfl, ls48⟩ := hr_z2
     simp only [big] at ls48
     refine ze rfl rfl (fun _ _ => (zq (Elem.drop' (k := k) (j := k2 - 1) he43 (by omega) (OSl.caps hO_0)) rfl rfl (hk := (show _ = ((k2 - 1 : Nat) : Int) by omega)) (hu := Tryz.underlying33) (hz := Tryz.sizeOf9))) ?_
     refine ze X X (fun _ hC => (r_load_cur1 (j := 0) (hC.block (st30.get (k := 0) X)) hc44 X X X Tryz.isAgg9))<|ze X X (fun _ _ => (r_sneq X X))<|zad ?_
     rintro w49 ⟨h50, s51⟩
     have st52 := st30.call0 s51
     refine M ?_
     refine zr rfl (fun c53 => ?_) (fun c53 => ?_)
     ·
      replace c53 := of_decide_eq_true c53
      refine zd<|O<|Y X X (zA (v := s_v) X)<|Y X X (zo X)<|Y X X (zA (v := (vdrop 1 s_v (k))) X)<|Y X X (zo X) ?_
      obtain ⟨b54, o55, cur56, _, e59, he57, hr_y2, hc58⟩ := OSl.elem (hO_0.up s51.le) hy2
      obtain ⟨hb60, hc61⟩ : b33 = b54 ∧ cur35 = cur56 := by cases e59; exact ⟨rfl, rfl⟩
      subst hb60
      subst hc61
      obtain ⟨rfl, ls62⟩ := hr_y2
      simp only [big] at ls62
      refine Y rfl rfl (zq (Elem.drop' (k := k) (j := k2) he57 (by omega) (OSl.caps (hO_0.up s51.le))) rfl rfl (hk := rfl) (hu := Tryz.underlying33) (hz := Tryz.sizeOf9)) ?_
      refine Y X X (r_load_cur1 (j := 0) (st52.get (k := 0) X) hc58 X X X Tryz.isAgg9) ?_
      have hu2 : ∃ y, (ys)[i]? = some y := ⟨_, List.getElem?_eq_getElem (by omega)⟩
      obtain ⟨u2, hu2⟩ := hu2
      obtain ⟨b63, o64, cur65, _, e68, he66, hr_u2, hc67⟩ := OSl.elem (hO_0.up s51.le) hu2
      obtain ⟨hb69, hc70⟩ : b33 = b63 ∧ cur35 = cur65 := by cases e68; exact ⟨rfl, rfl⟩
      subst hb69
      subst hc70
      obtain ⟨rfl, ls71⟩ := hr_u2
      simp only [big] at ls71
      refine Y rfl rfl (zq he66 rfl rfl (hk := (show _ = ((i : Nat) : Int) by omega)) (hu := Tryz.underlying33) (hz := Tryz.sizeOf9)) ?_
      refine OpsL.storeEl1 (k := 0) st52 (hO_0.up s51.le) rfl (by omega) he66 rfl rfl (⟨rfl, zZ⟩) Tryz.sizeOf9 ?_
      intro o72 w73 _ e74 f75 st76
      subst e74
      refine E<|M<|O<|Y X X (zo X)<|Y X X (zai X X t_om)<|Y X X (zz X)<|E<|zL<|M<|O<|Y X X (zo X)<|Y X X (zai X X t_om)<|Y X X (zz X)<|E<|M ?_
      refine ⟨⟨i + 1, k2 + 1, (ys.set i y2), o72, h50⟩, ⟨rfl, rfl, trivial⟩, ?_, ⟨(le29.trans s51.le), st76, ?_, ?_, ?_⟩, ?_⟩
      ·exact zag
      ·refine OSl.to f75 ?_
       rfl
      ·refine ⟨by omega, by omega, by first | (rw [List.length_set]; omega) | omega, by omega⟩
      ·exact hD.keep hy2 hz2 (by simpa using c53)
      ·show s.length - (k + ((k2 + 1))) < s.length - (k + k2)
       omega
     ·
      replace c53 := of_decide_eq_false c53
      refine zB<|zL<|M<|O<|Y X X (zo X)<|Y X X (zai X X t_om)<|Y X X (zz X)<|E<|M ?_
      refine ⟨⟨i, k2 + 1, ys, [(b33, .cells cur35 9)], h50⟩, ⟨rfl, rfl, trivial⟩, ?_, ⟨(le29.trans s51.le), st52, ?_, ?_, ?_⟩, ?_⟩
      ·exact zag
      ·refine OSl.to (hO_0.up s51.le) ?_
       rfl
      ·refine ⟨by omega, by omega, by first | (rw [List.length_set]; omega) | omega, by omega⟩
      ·exact hD.skip hy2 hz2 (by simpa using c53)
      ·show s.length - (k + ((k2 + 1))) < s.length - (k + k2)
       omega
    ·
     replace c32 := of_decide_eq_false c32
     refine zab<|zn<|zn<|zT<|M<|zd<|O<|Y X X (zA (v := s_v) X)<|Y X X (zo X) ?_
     refine Y rfl rfl (r_slice_from_own hO_0 rfl rfl (hk := (show _ = ((i : Nat) : Int) by omega)) (by omega) Tryz.underlying33 Tryz.sizeOf9) ?_
     refine OpsL.clearTail (k := 0) (j := i) st30 hO_0 rfl (by omega) rfl Tryz.underlying33 Tryz.zeroValue9 rfl (by decide) ?_
     intro o77 w78 _ e79 f80 st81
     subst e79
     refine E<|M<|zd<|O<|Y X X (zA (v := s_v) X)<|Y X X (zo X) ?_
     refine Y rfl rfl (r_slice_to_own hO_0 rfl rfl (hk := (show _ = ((i : Nat) : Int) by omega)) (by omega) Tryz.underlying33 Tryz.sizeOf9) ?_
     refine Y X X (zG (v := (vtake s_v (i))) X)<|E<|M<|zy<|zK<|zj<|zj<|zK<|zj<|zh Tryz.results58 ?_
     refine ⟨h28, _, _, rfl, ((le3.trans s25.le).trans le29), st81, OSl.to f80 ?_⟩
     exact hD.fin (by omega)
   ·
    replace c27 := of_decide_eq_false c27
    refine zB<|zL<|M<|O<|Y X X (zo X)<|Y X X (zai X X t_om)<|Y X X (zz X)<|E<|M ?_
    refine ⟨⟨k + 1, [(b7, .cells cur9 9)], h24⟩, ⟨rfl, trivial⟩, ?_, ⟨(le3.trans s25.le), st26, ?_, ?_, ?_⟩, ?_⟩
    ·exact zag
    ·refine OSl.to (hO_0.up s25.le) ?_
     rfl
    ·exact ⟨by omega, by omega⟩
    ·exact comp_more hz hy hk.1 hc (by simpa using c27)
    ·show s.length - ((k + 1)) < s.length - k
     omega
  ·
   replace c6 := of_decide_eq_false c6
   refine zab<|zn<|zn<|zT<|M<|zd<|O<|Y X X (zA (v := s_v) X)<|Y X X (zG (v := s_v) X)<|E<|M<|zy<|zh Tryz.results58 ?_
   refine ⟨h2, _, _, rfl, le3, st4, OSl.to hO_0 ?_⟩
   rw [List.take_of_length_le (by omega)] at hc; exact hc.symm
end Go.Pk
