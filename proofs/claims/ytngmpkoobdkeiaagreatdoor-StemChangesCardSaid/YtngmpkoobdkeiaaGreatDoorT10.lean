/- A PART OF THE PROOF: contracts of functions, each walked once (much of it printed by a program of the author's own). -/
import Derived.Test.YtngmpkoobdkeiaaGreatDoorT9
import Derived.Test.YtngmpkoobdkeiaaGreatDoorT3
import Derived.Test.YtngmpkoobdkeiaaGreatDoorT8
import Derived.Test.YtngmpkoobdkeiaaGreatDoorT2
import Derived.Test.YtngmpkoobdkeiaaGreatDoorT4
namespace Go.Pk
open Go Go.RowKit Go.Proofs
set_option maxRecDepth 4000 in
theorem c_postilref04_HeadOf {h : Heap} {w : World} (hs : Sub h w) {t : Text} {t_v0 : Value} (t_f0 : Sl LChapter h t_v0 t.chapters) {x : Lexicon} {x_v0 : Value} (x_f0 : Sl LRule h x_v0 x.rules) {x_v1 : Value} (x_f1 : Sl LDecision h x_v1 x.decisions) {p : Place} : Calls Tryz.prog 30 #[.agg #[t_v0], .agg #[x_v0, x_v1], .agg #[.int .i64 p.chapter, .int .i64 p.line, .int .i64 p.word]] w (Rets h w (fun _ _ res_ => res_ = .tuple #[.agg #[strV ((askR t x p).to).stem, .int .u8 ((askR t x p).to).mark], .int .i64 (askE t x p)])) := by
 refine zM (n := 33) (args := [.agg #[t_v0], .agg #[x_v0, x_v1], .agg #[.int .i64 p.chapter, .int .i64 p.line, .int .i64 p.word]]) Tryz.func30 X X X ?_
 have st0 : St h w h w [] := St.start hs
 have t_f0_b := t_f0.le
 have x_f0_b := x_f0.le
 have x_f1_b := x_f1.le
 refine zd<|O<|zr st0 (cs := [t_v0]) X X X ?_
 intro b1 w2 h3 le4 hc5 st6
 refine zr st6 (cs := [x_v0, x_v1]) X X X ?_
 intro b7 w8 h9 le10 hc11 st12
 refine zr st12 (cs := [.int .i64 (p.chapter), .int .i64 (p.line), .int .i64 (p.word)]) X X X ?_
 intro b13 w14 h15 le16 hc17 st18
 refine zO st18 Tryz.zeroValue54 X X ?_
 intro b19 w20 st21
 refine Y X X (zx X)<|U<|M<|zd<|zd<|O<|Y X X (zf st21.sub (hc5.up (le10.trans le16)) X Tryz.isAgg24 Tryz.sizeOf24 X)<|Y X X (zf st21.sub (hc11.up le16) X Tryz.isAgg28 Tryz.sizeOf28 X)<|zm st21 X X X Tryz.call15 X (zam st21.sub (t := t) (t_f0.up ((le4.trans le10).trans le16)) (x := x) (x_f0.up ((le4.trans le10).trans le16)) (x_f1.up ((le4.trans le10).trans le16))) ?_
 intro r22 w23 h24 le25 st26 q27
 obtain rfl := q27
 refine Y X X (zx X)<|U<|M<|zd<|O<|Y X X (zo X)<|Y X X (r_neq X X)<|U<|M ?_
 refine zt rfl (fun c28 => ?_) (fun c28 => ?_)
 ·
  replace c28 := of_decide_eq_true c28
  refine zd<|O<|Y X X (r_build (cs := [strV [], .int .u8 0]) t_kr)<|Y X X (zo X)<|zB st26 (k := 0) X X X (zg X (zg X zU)) Tryz.sizeOf54 X X X ?_
  intro w29 st30
  refine Y X X (zx X)<|U<|M<|zA<|zk<|zao Tryz.results30 X Tryz.isAgg54 Tryz.sizeOf54 X (st30.get (k := 0) X) ?_
  refine ⟨h24, _, rfl, st30.done, ?_⟩
  refine tup2 ?_ (zW ?_)
  ·rw [show askR t x p = zDecision from by simp_all [askR]]; rfl
  ·simp_all [askE]
 ·
  replace c28 := of_decide_eq_false c28
  refine zz<|M<|zd<|zd<|O<|Y X X (zf st26.sub (hc5.up ((le10.trans le16).trans le25)) X Tryz.isAgg24 Tryz.sizeOf24 X)<|Y X X (zf st26.sub (hc17.up le25) X Tryz.isAgg52 Tryz.sizeOf52 X)<|zm st26 X X X Tryz.call72 X (c_postilref01_Place st26.sub (t := t) (t_f0.up (((le4.trans le10).trans le16).trans le25)) (p := p)) ?_
  intro r31 w32 h33 le34 st35 q36
  obtain rfl := q36
  refine Y X X (r_not X)<|U<|M ?_
  refine zt rfl (fun c37 => ?_) (fun c37 => ?_)
  ·
   refine zd<|O<|Y X X (r_build (cs := [strV [], .int .u8 0]) t_kr)<|zB st35 (k := 0) X X X (zg X (zg X zU)) Tryz.sizeOf54 X X X ?_
   intro w38 st39
   refine Y X X (zx X)<|U<|M<|zA<|zk<|zao Tryz.results30 X Tryz.isAgg54 Tryz.sizeOf54 X (st39.get (k := 0) X) ?_
   refine ⟨h33, _, rfl, st39.done, ?_⟩
   refine tup2 ?_ (zW ?_)
   ·rw [show askR t x p = zDecision from by simp_all [askR]]; rfl
   ·simp_all [askE]
  ·
   refine zz<|M<|zd ?_
   have hx0 : checkN t x = 0 := by simpa using c28
   have hp0 : placeB t p = true := by simpa using c37
   refine zaa (er := ([], [], [], [], 0)) (dsts := [24, 25, 26, 27, 28, 29, 23, 30, 31, 9, 10]) st35 Tryz.mixed<|zh 0 [] X t_kr t_kr X X (fun hD wD τD hL hS hO  => (zf (hL.sub hS) (hc5.up (((le10.trans le16).trans le25).trans le34)) X Tryz.isAgg24 Tryz.sizeOf24 X))<|zh 1 [] X t_kr t_kr X X (fun hD wD τD hL hS hO  => (zf (hL.sub hS) (hc11.up ((le16.trans le25).trans le34)) X Tryz.isAgg28 Tryz.sizeOf28 X))<|zh 2 [] X t_kr t_kr X X (fun hD wD τD hL hS hO  => (zf (hL.sub hS) (hc11.up ((le16.trans le25).trans le34)) X Tryz.isAgg28 Tryz.sizeOf28 X)) ?_
   refine zQ 3 (.res (fun h' res_ => Sl LDecision h' res_ (standingR (x))) (fun _ _ _ hl f => f.up hl)) [0] rfl t_kr t_kr ?_ ?_
   ·
    intro hD wD τD hL hS hO _ _
    have st40 := St.start hS
    refine zm st40 rfl rfl rfl Tryz.call46 rfl (c_postilref04_standing st40.sub (x := x) (x_f0.up (((((le4.trans le10).trans le16).trans le25).trans le34).trans hL)) (x_f1.up (((((le4.trans le10).trans le16).trans le25).trans le34).trans hL)) (by exact lexicon_v hx0) (by exact lexicon_v1 hx0) (by exact lexicon_20 hx0)) ?_
    intro r41 w42 h43 le44 st45 q46
    obtain ⟨v47, e49, f48⟩ := q46
    rw [← e49] at f48
    have f48_b := f48.le
    exact U ⟨_, _, rfl, st45, _, rfl, f48⟩
   refine zh 4 [] X t_kr t_kr X X (fun hD wD τD hL hS hO  => (zf (hL.sub hS) (hc17.up (le25.trans le34)) X Tryz.isAgg52 Tryz.sizeOf52 X)) ?_
   refine zQ 5 (.det (.tuple #[.agg (List.toArray [strV ((headR (x) ((standingR (x))) (p) (wordD (t) (p))).to.stem), .int .u8 ((headR (x) ((standingR (x))) (p) (wordD (t) (p))).to.mark)]), .int .i64 ((headR (x) ((standingR (x))) (p) (wordD (t) (p))).number)])) [4, 3, 0, 1] rfl t_kr t_kr ?_ ?_
   ·
    intro hD wD τD hL hS hO _ _ _ _ _ _ gv3_0 gf3_0
    have st50 := St.start hS
    refine zm st50 rfl rfl rfl Tryz.call73 rfl (c_postilref04_head st50.sub (t := t) (t_f0.up (((((le4.trans le10).trans le16).trans le25).trans le34).trans hL)) (x := x) (x_f0.up (((((le4.trans le10).trans le16).trans le25).trans le34).trans hL)) (x_f1.up (((((le4.trans le10).trans le16).trans le25).trans le34).trans hL)) gf3_0 (p := p) (by exact hx0) (by exact hp0)) ?_
    intro r51 w52 h53 le54 st55 q56
    obtain rfl := q56
    exact U ⟨_, _, rfl, st55, (), rfl, trivial⟩
   refine zh 6 [0] X t_kr t_kr X X (fun hD wD τD hL hS hO _ _ => (r_mvT X))<|zh 7 [0] X t_kr t_kr X X (fun hD wD τD hL hS hO _ _ => (zH (v := (.agg (List.toArray _))) X X))<|zh 8 [1] X t_kr t_kr X X (fun hD wD τD hL hS hO _ _ => (zH (v := (.int _ _)) X X))<|Drw.al Tryz.zeroValue54 X<|zaf<|zh 11 [10, 9, 8, 7, 6, 5, 4, 3, 2, 1, 0] X t_kr t_kr X X (fun hD wD τD hL hS hO _ _ _ _ _ _ gv3_0 gf3_0 _ _ _ _ _ _ _ _ _ _ => (zx X))<|zan X X X X X X ⟨t_kr, X, t_kr, X, t_kr, X, X, t_kr, (zY X cx_nil)⟩ ?_
   intro b57
   intro hE59 w60 _ le61 st62 _ _ _ _ _ _ gv3_0x58 gf3_0x58 _ _ _ _ _ _ _ _
   refine zB st62 (k := 1) X X X (zg X (zg X zU)) Tryz.sizeOf54 X X X ?_
   intro w63 st64
   obtain ⟨h65, le66, hb67, st69⟩ := st64.freeze (k := 1) rfl
   have hc68 := Cells.of hb67
   refine U ⟨undef, rfl, _, _, le66, st69, ?_⟩
   intro hE70 w71 _ le72 st73 _ _ _ _ _ _ gv3_0x74 gf3_0x74 _ _ _ _ _ _ _ _ _ _ _ _
   refine AllDeps.fin X<|M<|zd<|O<|Y X X (zf st73.sub (hc68.up le72) X Tryz.isAgg54 Tryz.sizeOf54 X)<|zB st73 (k := 0) X X X (zg X (zg X zU)) Tryz.sizeOf54 X X X ?_
   intro w75 st76
   refine Y X X (zx X)<|U<|M<|zA<|zao Tryz.results30 X Tryz.isAgg54 Tryz.sizeOf54 X (st76.get (k := 0) X) ?_
   refine ⟨hE70, _, rfl, st76.done, ?_⟩
   refine tup2 ?_ (zW ?_)
   ·rw [headR_eq hx0]; simp only [askR, hx0, hp0, and_self, if_true]; rfl
   ·simp [askE, hx0, hp0]
set_option maxRecDepth 4000 in
theorem c_postilref04_By {h : Heap} {w : World} (hs : Sub h w) {t : Text} {t_v0 : Value} (t_f0 : Sl LChapter h t_v0 t.chapters) {x : Lexicon} {x_v0 : Value} (x_f0 : Sl LRule h x_v0 x.rules) {x_v1 : Value} (x_f1 : Sl LDecision h x_v1 x.decisions) {p : Place} : Calls Tryz.prog 32 #[.agg #[t_v0], .agg #[x_v0, x_v1], .agg #[.int .i64 p.chapter, .int .i64 p.line, .int .i64 p.word]] w (Rets h w (fun _ _ res_ => res_ = .tuple #[.int .i64 ((askR t x p).number), .int .i64 (askE t x p)])) := by
 refine zM (n := 31) (args := [.agg #[t_v0], .agg #[x_v0, x_v1], .agg #[.int .i64 p.chapter, .int .i64 p.line, .int .i64 p.word]]) Tryz.func32 X X X ?_
 have st0 : St h w h w [] := St.start hs
 have t_f0_b := t_f0.le
 have x_f0_b := x_f0.le
 have x_f1_b := x_f1.le
 refine zd<|O<|zr st0 (cs := [t_v0]) X X X ?_
 intro b1 w2 h3 le4 hc5 st6
 refine zr st6 (cs := [x_v0, x_v1]) X X X ?_
 intro b7 w8 h9 le10 hc11 st12
 refine zr st12 (cs := [.int .i64 (p.chapter), .int .i64 (p.line), .int .i64 (p.word)]) X X X ?_
 intro b13 w14 h15 le16 hc17 st18
 refine Y X X (zx X)<|Y X X (zx X)<|U<|M<|zd<|zd<|O<|Y X X (zf st18.sub (hc5.up (le10.trans le16)) X Tryz.isAgg24 Tryz.sizeOf24 X)<|Y X X (zf st18.sub (hc11.up le16) X Tryz.isAgg28 Tryz.sizeOf28 X)<|zm st18 X X X Tryz.call15 X (zam st18.sub (t := t) (t_f0.up ((le4.trans le10).trans le16)) (x := x) (x_f0.up ((le4.trans le10).trans le16)) (x_f1.up ((le4.trans le10).trans le16))) ?_
 intro r19 w20 h21 le22 st23 q24
 obtain rfl := q24
 refine Y X X (zx X)<|U<|M<|zd<|O<|Y X X (zo X)<|Y X X (r_neq X X)<|U<|M ?_
 refine zt rfl (fun c25 => ?_) (fun c25 => ?_)
 ·
  replace c25 := of_decide_eq_true c25
  refine zd<|O<|Y X X (zo X)<|Y X X (zx X)<|Y X X (zx X)<|U<|M<|zA<|zk<|zS Tryz.results32 ?_
  refine ⟨h21, _, rfl, st23.done, ?_⟩
  refine tup2 (zW ?_) (zW ?_)
  ·rw [show askR t x p = zDecision from by simp_all [askR]]; rfl
  ·simp_all [askE]
 ·
  replace c25 := of_decide_eq_false c25
  refine zz<|M<|zd<|zd<|O<|Y X X (zf st23.sub (hc5.up ((le10.trans le16).trans le22)) X Tryz.isAgg24 Tryz.sizeOf24 X)<|Y X X (zf st23.sub (hc17.up le22) X Tryz.isAgg52 Tryz.sizeOf52 X)<|zm st23 X X X Tryz.call72 X (c_postilref01_Place st23.sub (t := t) (t_f0.up (((le4.trans le10).trans le16).trans le22)) (p := p)) ?_
  intro r26 w27 h28 le29 st30 q31
  obtain rfl := q31
  refine Y X X (r_not X)<|U<|M ?_
  refine zt rfl (fun c32 => ?_) (fun c32 => ?_)
  ·
   refine zd<|O<|Y X X (zx X)<|Y X X (zx X)<|U<|M<|zA<|zk<|zS Tryz.results32 ?_
   refine ⟨h28, _, rfl, st30.done, ?_⟩
   refine tup2 (zW ?_) (zW ?_)
   ·rw [show askR t x p = zDecision from by simp_all [askR]]; rfl
   ·simp_all [askE]
  ·
   refine zz<|M<|zd ?_
   have hx0 : checkN t x = 0 := by simpa using c25
   have hp0 : placeB t p = true := by simpa using c32
   refine zaa (er := ([], [], [], [], 0)) (dsts := [22, 23, 24, 25, 26, 27, 21, 28, 29, 9, 10]) st30 Tryz.mixed<|zh 0 [] X t_kr t_kr X X (fun hD wD τD hL hS hO  => (zf (hL.sub hS) (hc5.up (((le10.trans le16).trans le22).trans le29)) X Tryz.isAgg24 Tryz.sizeOf24 X))<|zh 1 [] X t_kr t_kr X X (fun hD wD τD hL hS hO  => (zf (hL.sub hS) (hc11.up ((le16.trans le22).trans le29)) X Tryz.isAgg28 Tryz.sizeOf28 X))<|zh 2 [] X t_kr t_kr X X (fun hD wD τD hL hS hO  => (zf (hL.sub hS) (hc11.up ((le16.trans le22).trans le29)) X Tryz.isAgg28 Tryz.sizeOf28 X)) ?_
   refine zQ 3 (.res (fun h' res_ => Sl LDecision h' res_ (standingR (x))) (fun _ _ _ hl f => f.up hl)) [0] rfl t_kr t_kr ?_ ?_
   ·
    intro hD wD τD hL hS hO _ _
    have st33 := St.start hS
    refine zm st33 rfl rfl rfl Tryz.call46 rfl (c_postilref04_standing st33.sub (x := x) (x_f0.up (((((le4.trans le10).trans le16).trans le22).trans le29).trans hL)) (x_f1.up (((((le4.trans le10).trans le16).trans le22).trans le29).trans hL)) (by exact lexicon_v hx0) (by exact lexicon_v1 hx0) (by exact lexicon_20 hx0)) ?_
    intro r34 w35 h36 le37 st38 q39
    obtain ⟨v40, e42, f41⟩ := q39
    rw [← e42] at f41
    have f41_b := f41.le
    exact U ⟨_, _, rfl, st38, _, rfl, f41⟩
   refine zh 4 [] X t_kr t_kr X X (fun hD wD τD hL hS hO  => (zf (hL.sub hS) (hc17.up (le22.trans le29)) X Tryz.isAgg52 Tryz.sizeOf52 X)) ?_
   refine zQ 5 (.det (.tuple #[.agg (List.toArray [strV ((headR (x) ((standingR (x))) (p) (wordD (t) (p))).to.stem), .int .u8 ((headR (x) ((standingR (x))) (p) (wordD (t) (p))).to.mark)]), .int .i64 ((headR (x) ((standingR (x))) (p) (wordD (t) (p))).number)])) [4, 3, 0, 1] rfl t_kr t_kr ?_ ?_
   ·
    intro hD wD τD hL hS hO _ _ _ _ _ _ gv3_0 gf3_0
    have st43 := St.start hS
    refine zm st43 rfl rfl rfl Tryz.call73 rfl (c_postilref04_head st43.sub (t := t) (t_f0.up (((((le4.trans le10).trans le16).trans le22).trans le29).trans hL)) (x := x) (x_f0.up (((((le4.trans le10).trans le16).trans le22).trans le29).trans hL)) (x_f1.up (((((le4.trans le10).trans le16).trans le22).trans le29).trans hL)) gf3_0 (p := p) (by exact hx0) (by exact hp0)) ?_
    intro r44 w45 h46 le47 st48 q49
    obtain rfl := q49
    exact U ⟨_, _, rfl, st48, (), rfl, trivial⟩
   refine zh 6 [0] X t_kr t_kr X X (fun hD wD τD hL hS hO _ _ => (r_mvT X))<|zh 7 [0] X t_kr t_kr X X (fun hD wD τD hL hS hO _ _ => (zH (v := (.agg (List.toArray _))) X X))<|zh 8 [1] X t_kr t_kr X X (fun hD wD τD hL hS hO _ _ => (zH (v := (.int _ _)) X X))<|Drw.al Tryz.zeroValue54 X<|zaf<|zh 11 [10, 9, 8, 7, 6, 5, 4, 3, 2, 1, 0] X t_kr t_kr X X (fun hD wD τD hL hS hO _ _ _ _ _ _ gv3_0 gf3_0 _ _ _ _ _ _ _ _ _ _ => (zx X))<|zan X X X X X X ⟨t_kr, X, t_kr, X, t_kr, X, X, t_kr, (zY X cx_nil)⟩ ?_
   intro b50
   intro hE52 w53 _ le54 st55 _ _ _ _ _ _ gv3_0x51 gf3_0x51 _ _ _ _ _ _ _ _
   refine zB st55 (k := 0) X X X (zg X (zg X zU)) Tryz.sizeOf54 X X X ?_
   intro w56 st57
   obtain ⟨h58, le59, hb60, st62⟩ := st57.freeze (k := 0) rfl
   have hc61 := Cells.of hb60
   refine U ⟨undef, rfl, _, _, le59, st62, ?_⟩
   intro hE63 w64 _ le65 st66 _ _ _ _ _ _ gv3_0x67 gf3_0x67 _ _ _ _ _ _ _ _ _ _ _ _
   refine AllDeps.fin X<|M<|zd<|O<|Y X X (zo X)<|Y X X (zx X)<|Y X X (zx X)<|U<|M<|zA<|zS Tryz.results32 ?_
   refine ⟨hE63, _, rfl, st66.done, ?_⟩
   refine tup2 (zW ?_) (zW ?_)
   ·rw [headR_eq hx0]; simp [askR, hx0, hp0]
   ·simp [askE, hx0, hp0]
set_option maxRecDepth 4000 in
theorem c_postilref04_All {h : Heap} {w : World} (hs : Sub h w) {t : Text} {t_v0 : Value} (t_f0 : Sl LChapter h t_v0 t.chapters) {x : Lexicon} {x_v0 : Value} (x_f0 : Sl LRule h x_v0 x.rules) {x_v1 : Value} (x_f1 : Sl LDecision h x_v1 x.decisions) (hx : checkN t x = 0) : Calls Tryz.prog 60 #[.agg #[t_v0], .agg #[x_v0, x_v1]] w (Rets h w (fun h' _ res_ => ∃ u0, res_ = u0 ∧ Sl LHead h' u0 ((headsL t x)))) := by
 refine zM (n := 37) (args := [.agg #[t_v0], .agg #[x_v0, x_v1]]) Tryz.func60 X X X ?_
 have st0 : St h w h w [] := St.start hs
 have t_f0_b := t_f0.le
 have x_f0_b := x_f0.le
 have x_f1_b := x_f1.le
 refine zd<|O<|zr st0 (cs := [t_v0]) X X X ?_
 intro b1 w2 h3 le4 hc5 st6
 refine zr st6 (cs := [x_v0, x_v1]) X X X ?_
 intro b7 w8 h9 le10 hc11 st12
 refine Y X X (r_asL X)<|U<|M<|zd<|O<|Y X X (r_asL X)<|U<|M<|zd ?_
 have hx0 := hx
 have ht0 := check_text hx
 refine zaa (er := ([], [], [], [], 0)) (dsts := [11, 12, 13, 14, 6, 7]) st12 Tryz.mixed<|zh 0 [] X t_kr t_kr X X (fun hD wD τD hL hS hO  => (zf (hL.sub hS) (hc5.up le10) X Tryz.isAgg24 Tryz.sizeOf24 X)) ?_
 refine zQ 1 (.res (fun h' res_ => Sl LPlace h' res_ ((placesT (t)))) (fun _ _ _ hl f => f.up hl)) [0] rfl t_kr t_kr ?_ ?_
 ·
  intro hD wD τD hL hS hO _ _
  have st13 := St.start hS
  refine zm st13 rfl rfl rfl Tryz.call59 rfl (c_postilref01_All st13.sub (t := t) (t_f0.up ((le4.trans le10).trans hL)) (by exact ht0)) ?_
  intro r14 w15 h16 le17 st18 q19
  obtain ⟨v20, e22, f21⟩ := q19
  rw [← e22] at f21
  have f21_b := f21.le
  exact U ⟨_, _, rfl, st18, _, rfl, f21⟩
 refine zh 2 [] X t_kr t_kr X X (fun hD wD τD hL hS hO  => (zf (hL.sub hS) hc11 X Tryz.isAgg28 Tryz.sizeOf28 X)) ?_
 refine zQ 3 (.res (fun h' res_ => Sl LDecision h' res_ (standingR (x))) (fun _ _ _ hl f => f.up hl)) [0, 1] rfl t_kr t_kr ?_ ?_
 ·
  intro hD wD τD hL hS hO _ _ gv1_0 gf1_0
  have st23 := St.start hS
  refine zm st23 rfl rfl rfl Tryz.call46 rfl (c_postilref04_standing st23.sub (x := x) (x_f0.up ((le4.trans le10).trans hL)) (x_f1.up ((le4.trans le10).trans hL)) (by exact lexicon_v hx0) (by exact lexicon_v1 hx0) (by exact lexicon_20 hx0)) ?_
  intro r24 w25 h26 le27 st28 q29
  obtain ⟨v30, e32, f31⟩ := q29
  rw [← e32] at f31
  have f31_b := f31.le
  exact U ⟨_, _, rfl, st28, _, rfl, f31⟩
 refine zQ 4 (.res (fun h' res_ => Sl LPlace h' res_ (((placesT (t))))) (fun _ _ _ hl f => f.up hl)) [0, 3, 2] rfl t_kr t_kr ?_ ?_
 ·
  intro hD wD τD hL hS hO gv3_0 gf3_0 _ _ gv1_0 gf1_0
  have st33 := St.start hS
  refine Y X X (zD (v := gv1_0) X) ?_
  exact U ⟨_, _, rfl, st33, _, rfl, gf1_0⟩
 refine zQ 5 (.res (fun h' res_ => Sl LDecision h' res_ ((standingR (x)))) (fun _ _ _ hl f => f.up hl)) [4, 3, 2, 1, 0] rfl t_kr t_kr ?_ ?_
 ·
  intro hD wD τD hL hS hO _ _ gv1_0 gf1_0 _ _ gv3_0 gf3_0 gv4_0 gf4_0
  have st34 := St.start hS
  refine Y X X (zD (v := gv3_0) X) ?_
  exact U ⟨_, _, rfl, st34, _, rfl, gf3_0⟩
 refine zan X X X X X X ⟨t_kr, X, t_kr, X, t_kr, X, X, t_kr, cx_nil⟩ ?_
 intro hE35 w36 _ le37 st38 _ _ gv1_0x39 gf1_0x39 _ _ gv3_0x39 gf3_0x39 gv4_0x39 gf4_0x39 gv5_0x39 gf5_0x39
 refine AllDeps.fin X ?_
 have hpl := places_len ht0
 refine M<|zd<|zd<|O<|Y X X (zx X)<|U<|M<|zF ?_
 have st43 := st38.snoc
 have f44 := OSl.nil LHead 54 hE35
 refine zX [5, 8, 9, 10, 15, 16, 17, 18, 19, 20, 21, 22, 23, 24, 25, 26, 27, 28, 29, 30, 31, 32, 33, 34, 35] (G := Nat × Value × List (Nat × Obj) × Heap) (fun ⟨k, v_5, o_5, h40⟩ => [(5, v_5), (8, .int .i64 (k : Int))]) (fun ⟨k, v_5, o_5, h40⟩ w' => Le hE35 h40 ∧ St h w h40 w' [o_5] ∧ (OSl LHead 54 h40 v_5 (((placesT t).take k).map (headAt t x)) o_5) ∧ (k ≤ (placesT t).length)) (fun ⟨k, v_5, o_5, h40⟩ => (placesT t).length - k) ⟨0, (.slice none 0 0), [], hE35⟩ ⟨rfl, rfl, trivial⟩ ⟨Le.refl _, st43, (OSl.to f44 (by rfl)), zak⟩ ?_
 rintro ⟨k, v_5, o_5, h40⟩ _ w45 ⟨le41, st42, hO_5, hk⟩
 refine zd<|zd<|O<|Y X X (zo X)<|Y X X (zy (v := gv4_0x39) X)<|Y X X (zag (gf4_0x39.up le41) X Tryz.underlying63)<|Y X X (zal X X)<|U<|M ?_
 refine zt rfl (fun c46 => ?_) (fun c46 => ?_)
 ·
  replace c46 := of_decide_eq_true c46
  refine zz<|M<|zd<|zF<|zd ?_
  have hp : ∃ y_, ((((placesT (t)))))[k]? = some y_ := ⟨_, List.getElem?_eq_getElem (by omega)⟩
  obtain ⟨p, hp⟩ := hp
  obtain ⟨b47, o48, _, he50, hc49, hr_p⟩ := Sl.elem (gf4_0x39.up le41) hp
  obtain rfl := hr_p
  have hp0 : placeB t p = true := placesT_mem (List.mem_of_getElem? hp)
  have hhd := winD_ok hx0 hp0
  rw [← headR_eq hx0] at hhd
  refine zaa (er := ([], [], [], [], 0)) (dsts := [22, 23, 24, 25, 26, 27, 28, 29, 21, 30, 31, 9, 10]) st42 Tryz.mixed<|zh 0 [] X t_kr t_kr X X (fun hD wD τD hL hS hO  => (zf (hL.sub hS) (hc5.up ((le10.trans le37).trans le41)) X Tryz.isAgg24 Tryz.sizeOf24 X))<|zh 1 [] X t_kr t_kr X X (fun hD wD τD hL hS hO  => (zf (hL.sub hS) (hc11.up (le37.trans le41)) X Tryz.isAgg28 Tryz.sizeOf28 X))<|zh 2 [] X t_kr t_kr X X (fun hD wD τD hL hS hO  => (zy (v := gv5_0x39) X))<|zh 3 [] X t_kr t_kr X X (fun hD wD τD hL hS hO  => (zy (v := gv4_0x39) X))<|zh 4 [] X t_kr t_kr X X (fun hD wD τD hL hS hO  => (zo X))<|zh 5 [1, 0] X t_kr t_kr X X (fun hD wD τD hL hS hO _ _ _ _ => (zp he50 X X (hk := X) (hu := Tryz.underlying63) (hz := Tryz.sizeOf52)))<|zh 6 [0] X t_kr t_kr X X (fun hD wD τD hL hS hO _ _ => (zf (hL.sub hS) hc49 X Tryz.isAgg52 Tryz.sizeOf52 X)) ?_
  refine zQ 7 (.det (.tuple #[.agg (List.toArray [strV ((headR (x) (((standingR (x)))) (p) (wordD (t) (p))).to.stem), .int .u8 ((headR (x) (((standingR (x)))) (p) (wordD (t) (p))).to.mark)]), .int .i64 ((headR (x) (((standingR (x)))) (p) (wordD (t) (p))).number)])) [6, 5, 4, 0] rfl t_kr t_kr ?_ ?_
  ·
   intro hD wD τD hL hS hO _ _ _ _ _ _ _ _
   have st51 := St.start hS
   refine zm st51 rfl rfl rfl Tryz.call73 rfl (c_postilref04_head st51.sub (t := t) (t_f0.up ((((le4.trans le10).trans le37).trans le41).trans hL)) (x := x) (x_f0.up ((((le4.trans le10).trans le37).trans le41).trans hL)) (x_f1.up ((((le4.trans le10).trans le37).trans le41).trans hL)) (gf5_0x39.up (le41.trans hL)) (p := p) (by exact hx0) (by exact hp0)) ?_
   intro r52 w53 h54 le55 st56 q57
   obtain rfl := q57
   exact U ⟨_, _, rfl, st56, (), rfl, trivial⟩
  refine zh 8 [0] X t_kr t_kr X X (fun hD wD τD hL hS hO _ _ => (r_mvT X))<|zh 9 [0] X t_kr t_kr X X (fun hD wD τD hL hS hO _ _ => (zH (v := (.agg (List.toArray _))) X X))<|zh 10 [1] X t_kr t_kr X X (fun hD wD τD hL hS hO _ _ => (zH (v := (.int _ _)) X X))<|Drw.al Tryz.zeroValue54 X<|zaf<|zh 13 [12, 11, 10, 9, 8, 7, 6, 5, 4, 3, 2, 1, 0] X t_kr t_kr X X (fun hD wD τD hL hS hO _ _ _ _ _ _ _ _ _ _ _ _ _ _ _ _ _ _ _ _ _ _ => (zx X))<|zan X X X X X X ⟨t_kr, X, t_kr, X, t_kr, X, X, t_kr, (zY X cx_nil)⟩ ?_
  intro b58
  intro hE60 w61 _ le62 st63 _ _ _ _ _ _ _ _ _ _ _ _ _ _ _ _ _ _ _ _
  refine zB st63 (k := 1) X X X (zg X (zg X zU)) Tryz.sizeOf54 X X X ?_
  intro w64 st65
  obtain ⟨h66, le67, hb68, st70⟩ := st65.freeze (k := 1) rfl
  have hc69 := Cells.of hb68
  refine U ⟨undef, rfl, _, _, le67, st70, ?_⟩
  intro hE71 w72 _ le73 st74 _ _ _ _ _ _ _ _ _ _ _ _ _ _ _ _ _ _ _ _ _ _ _ _
  refine AllDeps.fin X<|M<|O<|Y X X (zy (v := v_5) X)<|Y X X (zf st74.sub (hc69.up le73) X Tryz.isAgg54 Tryz.sizeOf54 X)<|zV (L := LHead) (xs := [(headR (x) (((standingR (x)))) (p) (wordD (t) (p))).to]) (cs := [strV ((headR (x) (((standingR (x)))) (p) (wordD (t) (p))).to.stem), .int .u8 ((headR (x) (((standingR (x)))) (p) (wordD (t) (p))).to.mark)]) st74 (Enc.cons (L := LHead) (vs := [strV ((headR (x) (((standingR (x)))) (p) (wordD (t) (p))).to.stem), .int .u8 ((headR (x) (((standingR (x)))) (p) (wordD (t) (p))).to.mark)]) (x := (headR (x) (((standingR (x)))) (p) (wordD (t) (p))).to) (h := hE71) (⟨rfl, zZ, t_u8⟩) Enc.nil) X X X Tryz.underlying80 Tryz.info54 X X X t_kr ?_
  intro v76 w77 h80 le81 f78 st79
  refine zP (k := 0) (nb := 24) st79 (hO_5.up (((le62.trans le67).trans le73).trans le81)) rfl f78 rfl rfl rfl Tryz.underlying80 Tryz.info54 rfl rfl rfl (by decide) rfl (by have q := places_len ht0; have q2 := List.length_take_le k (placesT t); simp only [List.length_map, List.length_append, List.length_cons, List.length_nil]; omega) (by have q := places_len ht0; have q2 := List.length_take_le k (placesT t); simp only [List.length_map, List.length_append, List.length_cons, List.length_nil]; omega) ?_
  intro v82 o83 w84 _ e85 f86 st87
  subst e85
  refine Y X X (zD (v := v82) X)<|U<|zI<|M<|O<|Y X X (zo X)<|Y X X (zah X X t_om)<|Y X X (zx X)<|U<|M ?_
  refine ⟨⟨k + 1, v82, o83, h80⟩, ⟨rfl, rfl, trivial⟩, ?_, ⟨((((le41.trans le62).trans le67).trans le73).trans le81), st87.take 1, ?_, ?_⟩, ?_⟩
  ·exact zae
  ·refine OSl.to f86 ?_
   rw [take_snoc hp, List.map_append, headR_eq hx0]; rfl
  ·first | omega | (simp; omega)
  ·show (placesT t).length - ((k + 1)) < (placesT t).length - k
   omega
 ·
  replace c46 := of_decide_eq_false c46
  refine zab<|zn<|zn<|zT<|M<|zd<|O<|Y X X (zy (v := v_5) X)<|Y X X (zD (v := v_5) X)<|U<|M<|zA<|zi Tryz.results60 ?_
  obtain ⟨h88, le89, f90, st91⟩ := OSl.freeze (k := 0) st42 hO_5 rfl (by have q := places_len ht0; have q2 := List.length_take_le k (placesT t); simp only [List.length_map, List.length_append, List.length_cons, List.length_nil]; omega)
  refine ⟨h88, _, rfl, st91.done, ?_⟩
  refine ⟨_, rfl, Sl.to f90 ?_⟩
  rw [List.take_of_length_le (by omega)]; rfl
end Go.Pk

namespace Go.Pk
open Go Go.RowKit Go.Proofs
set_option maxRecDepth 4000 in
theorem c_stem_asked {h : Heap} {w : World} (hs : Sub h w) {t : Text} {t_v0 : Value} (t_f0 : Sl LChapter h t_v0 t.chapters) {x : Lexicon} {x_v0 : Value} (x_f0 : Sl LRule h x_v0 x.rules) {x_v1 : Value} (x_f1 : Sl LDecision h x_v1 x.decisions) {p : Place} (K0 : Cells h 0 0 Tryz.glob0) : Calls Tryz.prog 71 #[.agg #[t_v0], .agg #[x_v0, x_v1], .agg #[.int .i64 p.chapter, .int .i64 p.line, .int .i64 p.word]] w (Rets h w (fun _ _ res_ => res_ = .tuple #[.agg #[.int .i64 ((askR t x p)).number, .int .u8 ((askR t x p)).kind, strV ((askR t x p)).form, .int .i64 ((askR t x p)).at_.chapter, .int .i64 ((askR t x p)).at_.line, .int .i64 ((askR t x p)).at_.word, strV ((askR t x p)).to.stem, .int .u8 ((askR t x p)).to.mark, .int .i64 ((askR t x p)).of_], .int .i64 (askE t x p)])) := by
 refine zM (n := 35) (args := [.agg #[t_v0], .agg #[x_v0, x_v1], .agg #[.int .i64 p.chapter, .int .i64 p.line, .int .i64 p.word]]) Tryz.func71 X X X ?_
 have st0 : St h w h w [] := St.start hs
 have t_f0_b := t_f0.le
 have x_f0_b := x_f0.le
 have x_f1_b := x_f1.le
 refine zd<|O<|zr st0 (cs := [t_v0]) X X X ?_
 intro b1 w2 h3 le4 hc5 st6
 refine zr st6 (cs := [x_v0, x_v1]) X X X ?_
 intro b7 w8 h9 le10 hc11 st12
 refine zr st12 (cs := [.int .i64 (p.chapter), .int .i64 (p.line), .int .i64 (p.word)]) X X X ?_
 intro b13 w14 h15 le16 hc17 st18
 refine zO st18 Tryz.zeroValue56 X X ?_
 intro b19 w20 st21
 refine Y X X (zx X)<|U<|M<|zd<|O<|Y X X (zf st21.sub (hc5.up (le10.trans le16)) X Tryz.isAgg24 Tryz.sizeOf24 X)<|Y X X (zf st21.sub (hc11.up le16) X Tryz.isAgg28 Tryz.sizeOf28 X)<|zm st21 X X X Tryz.call40 X (c_stem_open st21.sub (t := t) (t_f0.up ((le4.trans le10).trans le16)) (x := x) (x_f0.up ((le4.trans le10).trans le16)) (x_f1.up ((le4.trans le10).trans le16)) (K0.up ((le4.trans le10).trans le16))) ?_
 intro r22 w23 h24 le25 st26 q27
 rcases Bool.eq_false_or_eq_true (decide (checkN (t) (x) = 0)) with hb28 | hb28
 ·
  simp only [hb28, if_true, if_false, Bool.false_eq_true, reduceIte] at q27
  obtain ⟨v29, rfl, f30⟩ := q27
  obtain ⟨b31, vs32, rfl, hc33, hr34⟩ := f30
  obtain ⟨v35, v37, v39, v41, rfl, f36, f38, f40, lm42⟩ := hr34
  have f36_b := f36.le
  have f38_b := f38.le
  have f40_b := f40.le
  refine Y X X (r_mvT X)<|Y X X (zH (v := (.pointer (some _))) X X)<|Y X X (zH (v := (.int _ _)) X X)<|Y X X (r_asP X)<|Y X X (zx X)<|U<|M<|zd<|zd<|O<|Y X X (zo X)<|Y X X (r_neq X X)<|U<|M ?_
  refine zt rfl (fun c43 => ?_) (fun c43 => ?_)
  ·
   replace c43 := of_decide_eq_true c43
   refine zd<|O<|Y X X (r_build (cs := [.int .i64 0, .int .u8 0, strV [], .int .i64 0, .int .i64 0, .int .i64 0, strV [], .int .u8 0, .int .i64 0]) t_kr)<|Y X X (zo X)<|zB st26 (k := 0) X X X (zg X (zg X (zg X (zg X (zg X (zg X (zg X (zg X (zg X zU))))))))) Tryz.sizeOf56 X X X ?_
   intro w44 st45
   refine Y X X (zx X)<|U<|M<|zA<|zk<|zao Tryz.results71 X Tryz.isAgg56 Tryz.sizeOf56 X (st45.get (k := 0) X) ?_
   refine ⟨h24, _, rfl, st45.done, ?_⟩
   refine tup2 ?_ (zW ?_)
   ·rw [show askR t x p = zDecision from by simp_all [askR]]; rfl
   ·simp_all [askE]
  ·
   replace c43 := of_decide_eq_false c43
   refine zz<|M<|zd<|zd<|O<|Y X X (zf st26.sub (hc5.up ((le10.trans le16).trans le25)) X Tryz.isAgg24 Tryz.sizeOf24 X)<|Y X X (zf st26.sub (hc17.up le25) X Tryz.isAgg52 Tryz.sizeOf52 X)<|zm st26 X X X Tryz.call99 X (c_leaf_At st26.sub (t := t) (t_f0.up (((le4.trans le10).trans le16).trans le25)) (p := p)) ?_
   intro r46 w47 h48 le49 st50 q51
   obtain rfl := q51
   refine Y X X (r_mvT X)<|Y X X (zH (v := (strV _)) X X)<|Y X X (zH (v := (.int _ _)) X X)<|Y X X (r_asS X)<|Y X X (zx X)<|U<|M<|zd<|O<|Y X X (zo X)<|Y X X (r_neq X X)<|U<|M ?_
   refine zt rfl (fun c52 => ?_) (fun c52 => ?_)
   ·
    replace c52 := of_decide_eq_true c52
    refine zd<|O<|Y X X (r_build (cs := [.int .i64 0, .int .u8 0, strV [], .int .i64 0, .int .i64 0, .int .i64 0, strV [], .int .u8 0, .int .i64 0]) t_kr)<|Y X X (zo X)<|zB st50 (k := 0) X X X (zg X (zg X (zg X (zg X (zg X (zg X (zg X (zg X (zg X zU))))))))) Tryz.sizeOf56 X X X ?_
    intro w53 st54
    refine Y X X (zx X)<|U<|M<|zA<|zk<|zao Tryz.results71 X Tryz.isAgg56 Tryz.sizeOf56 X (st54.get (k := 0) X) ?_
    have hx0 : checkN t x = 0 := by simpa using c43
    have hp0 : ¬ placeB t p = true := by
     intro e
     have q1 := c52
     simp [check_text hx0, e] at q1
    refine ⟨h48, _, rfl, st54.done, ?_⟩
    refine tup2 ?_ (zW ?_)
    ·rw [show askR t x p = zDecision from by simp [askR, hp0]]; rfl
    ·simp [askE, hx0, hp0, check_text hx0]
   ·
    replace c52 := of_decide_eq_false c52
    refine zz<|M<|zd ?_
    have hx0 : checkN t x = 0 := by simpa using c43
    have hp0 : placeB t p = true := by
     have q := c52
     rw [check_text hx0] at q
     cases e : placeB t p with
     | true => rfl
     | false => rw [e] at q; simp at q
    refine O<|Y X X (r_mvP X)<|Y X X (zf st50.sub (hc17.up (le25.trans le49)) X Tryz.isAgg52 Tryz.sizeOf52 X) ?_
    refine zm st50 rfl rfl rfl Tryz.call104 rfl (c_stem_office_wins st50.sub (o := (Office.mk (x) (t) (standM (x)))) (f36.up le49) (f38.up le49) (f40.up le49) (lm42.up le49) (hc33.up le49) (p := p) (K0.up ((((le4.trans le10).trans le16).trans le25).trans le49)) (by exact ⟨by simpa using c43, rfl⟩) (by exact hp0)) ?_
    intro r55 w56 h57 le58 st59 q60
    obtain rfl := q60
    refine zB st59 (k := 0) X X X (zg X (zg X (zg X (zg X (zg X (zg X (zg X (zg X (zg X zU))))))))) Tryz.sizeOf56 X X X ?_
    intro w61 st62
    refine Y X X (zx X)<|U<|M<|zA<|zao Tryz.results71 X Tryz.isAgg56 Tryz.sizeOf56 X (st62.get (k := 0) X) ?_
    refine ⟨h57, _, rfl, st62.done, ?_⟩
    refine tup2 ?_ (zW ?_)
    ·rw [show askR t x p = winD x p (wordD t p) from by simp [askR, hx0, hp0]]; rfl
    ·simp [askE, hx0, hp0]
 ·
  simp only [hb28, if_true, if_false, Bool.false_eq_true, reduceIte] at q27
  obtain ⟨v63, rfl, f64⟩ := q27
  obtain rfl := f64
  refine Y X X (r_mvT X)<|Y X X (zH (v := (.pointer none)) X X)<|Y X X (zH (v := (.int _ _)) X X)<|Y X X (zD X)<|Y X X (zx X)<|U<|M<|zd<|zd<|O<|Y X X (zo X)<|Y X X (r_neq X X)<|U<|M ?_
  refine zt rfl (fun c65 => ?_) (fun c65 => ?_)
  ·
   replace c65 := of_decide_eq_true c65
   refine zd<|O<|Y X X (r_build (cs := [.int .i64 0, .int .u8 0, strV [], .int .i64 0, .int .i64 0, .int .i64 0, strV [], .int .u8 0, .int .i64 0]) t_kr)<|Y X X (zo X)<|zB st26 (k := 0) X X X (zg X (zg X (zg X (zg X (zg X (zg X (zg X (zg X (zg X zU))))))))) Tryz.sizeOf56 X X X ?_
   intro w66 st67
   refine Y X X (zx X)<|U<|M<|zA<|zk<|zao Tryz.results71 X Tryz.isAgg56 Tryz.sizeOf56 X (st67.get (k := 0) X) ?_
   refine ⟨h24, _, rfl, st67.done, ?_⟩
   refine tup2 ?_ (zW ?_)
   ·rw [show askR t x p = zDecision from by simp_all [askR]]; rfl
   ·simp_all [askE]
  ·
   replace c65 := of_decide_eq_false c65
   exfalso
   simp_all
set_option maxRecDepth 4000 in
theorem c_stem_HeadOf {h : Heap} {w : World} (hs : Sub h w) {t : Text} {t_v0 : Value} (t_f0 : Sl LChapter h t_v0 t.chapters) {x : Lexicon} {x_v0 : Value} (x_f0 : Sl LRule h x_v0 x.rules) {x_v1 : Value} (x_f1 : Sl LDecision h x_v1 x.decisions) {p : Place} (K0 : Cells h 0 0 Tryz.glob0) : Calls Tryz.prog 29 #[.agg #[t_v0], .agg #[x_v0, x_v1], .agg #[.int .i64 p.chapter, .int .i64 p.line, .int .i64 p.word]] w (Rets h w (fun _ _ res_ => res_ = .tuple #[.agg #[strV ((askR t x p).to).stem, .int .u8 ((askR t x p).to).mark], .int .i64 (askE t x p)])) := by
 refine zM (n := 20) (args := [.agg #[t_v0], .agg #[x_v0, x_v1], .agg #[.int .i64 p.chapter, .int .i64 p.line, .int .i64 p.word]]) Tryz.func29 X X X ?_
 have st0 : St h w h w [] := St.start hs
 have t_f0_b := t_f0.le
 have x_f0_b := x_f0.le
 have x_f1_b := x_f1.le
 refine zd<|O<|zr st0 (cs := [t_v0]) X X X ?_
 intro b1 w2 h3 le4 hc5 st6
 refine zr st6 (cs := [x_v0, x_v1]) X X X ?_
 intro b7 w8 h9 le10 hc11 st12
 refine zr st12 (cs := [.int .i64 (p.chapter), .int .i64 (p.line), .int .i64 (p.word)]) X X X ?_
 intro b13 w14 h15 le16 hc17 st18
 refine zO st18 Tryz.zeroValue54 X X ?_
 intro b19 w20 st21
 refine Y X X (zx X)<|U<|M<|zd<|O<|Y X X (zf st21.sub (hc5.up (le10.trans le16)) X Tryz.isAgg24 Tryz.sizeOf24 X)<|Y X X (zf st21.sub (hc11.up le16) X Tryz.isAgg28 Tryz.sizeOf28 X)<|Y X X (zf st21.sub hc17 X Tryz.isAgg52 Tryz.sizeOf52 X)<|zm st21 X X X Tryz.call71 X (c_stem_asked st21.sub (t := t) (t_f0.up ((le4.trans le10).trans le16)) (x := x) (x_f0.up ((le4.trans le10).trans le16)) (x_f1.up ((le4.trans le10).trans le16)) (p := p) (K0.up ((le4.trans le10).trans le16))) ?_
 intro r22 w23 h24 le25 st26 q27
 obtain rfl := q27
 refine Y X X (r_mvT X)<|Y X X (zH (v := (.agg (List.toArray _))) X X)<|Y X X (zH (v := (.int _ _)) X X)<|zO st26 Tryz.zeroValue56 X X ?_
 intro b28 w29 st30
 refine zB st30 (k := 1) X X X (zg X (zg X (zg X (zg X (zg X (zg X (zg X (zg X (zg X zU))))))))) Tryz.sizeOf56 X X X ?_
 intro w31 st32
 obtain ⟨h33, le34, hb35, st37⟩ := st32.freeze (k := 1) rfl
 have hc36 := Cells.of hb35
 refine Y X X (zx X)<|U<|M<|zd<|O<|Y X X (zc X Tryz.underlying56 X Tryz.sizeOf54 X)<|Y X X (zR (j := 6) st37.sub hc36 (us := [strV ((askR (t) (x) (p)).to.stem), .int .u8 ((askR (t) (x) (p)).to.mark)]) X X Tryz.isAgg54 Tryz.sizeOf54 X X)<|Y X X (zo X)<|zB st37 (k := 0) X X X (zg X (zg X zU)) Tryz.sizeOf54 X X X ?_
 intro w38 st39
 obtain ⟨h40, le41, hb42, st44⟩ := st39.freeze (k := 0) rfl
 have hc43 := Cells.of hb42
 refine Y X X (zx X)<|U<|M<|zA<|Post.retcell2F Tryz.results29 X Tryz.isAgg54 Tryz.sizeOf54 X st44.sub hc43 ?_
 refine ⟨h40, _, rfl, st44.done, ?_⟩
 refine tup2 ?_ (zW ?_)
 all_goals rfl
set_option maxRecDepth 4000 in
theorem c_stem_By {h : Heap} {w : World} (hs : Sub h w) {t : Text} {t_v0 : Value} (t_f0 : Sl LChapter h t_v0 t.chapters) {x : Lexicon} {x_v0 : Value} (x_f0 : Sl LRule h x_v0 x.rules) {x_v1 : Value} (x_f1 : Sl LDecision h x_v1 x.decisions) {p : Place} (K0 : Cells h 0 0 Tryz.glob0) : Calls Tryz.prog 31 #[.agg #[t_v0], .agg #[x_v0, x_v1], .agg #[.int .i64 p.chapter, .int .i64 p.line, .int .i64 p.word]] w (Rets h w (fun _ _ res_ => res_ = .tuple #[.int .i64 ((askR t x p).number), .int .i64 (askE t x p)])) := by
 refine zM (n := 20) (args := [.agg #[t_v0], .agg #[x_v0, x_v1], .agg #[.int .i64 p.chapter, .int .i64 p.line, .int .i64 p.word]]) Tryz.func31 X X X ?_
 have st0 : St h w h w [] := St.start hs
 have t_f0_b := t_f0.le
 have x_f0_b := x_f0.le
 have x_f1_b := x_f1.le
 refine zd<|O<|zr st0 (cs := [t_v0]) X X X ?_
 intro b1 w2 h3 le4 hc5 st6
 refine zr st6 (cs := [x_v0, x_v1]) X X X ?_
 intro b7 w8 h9 le10 hc11 st12
 refine zr st12 (cs := [.int .i64 (p.chapter), .int .i64 (p.line), .int .i64 (p.word)]) X X X ?_
 intro b13 w14 h15 le16 hc17 st18
 refine Y X X (zx X)<|Y X X (zx X)<|U<|M<|zd<|O<|Y X X (zf st18.sub (hc5.up (le10.trans le16)) X Tryz.isAgg24 Tryz.sizeOf24 X)<|Y X X (zf st18.sub (hc11.up le16) X Tryz.isAgg28 Tryz.sizeOf28 X)<|Y X X (zf st18.sub hc17 X Tryz.isAgg52 Tryz.sizeOf52 X)<|zm st18 X X X Tryz.call71 X (c_stem_asked st18.sub (t := t) (t_f0.up ((le4.trans le10).trans le16)) (x := x) (x_f0.up ((le4.trans le10).trans le16)) (x_f1.up ((le4.trans le10).trans le16)) (p := p) (K0.up ((le4.trans le10).trans le16))) ?_
 intro r19 w20 h21 le22 st23 q24
 obtain rfl := q24
 refine Y X X (r_mvT X)<|Y X X (zH (v := (.agg (List.toArray _))) X X)<|Y X X (zH (v := (.int _ _)) X X)<|zO st23 Tryz.zeroValue56 X X ?_
 intro b25 w26 st27
 refine zB st27 (k := 0) X X X (zg X (zg X (zg X (zg X (zg X (zg X (zg X (zg X (zg X zU))))))))) Tryz.sizeOf56 X X X ?_
 intro w28 st29
 obtain ⟨h30, le31, hb32, st34⟩ := st29.freeze (k := 0) rfl
 have hc33 := Cells.of hb32
 refine Y X X (zx X)<|U<|M<|zd<|O<|Y X X (zc X Tryz.underlying56 X Tryz.sizeOf3 X)<|Y X X (zb (j := 0) st34.sub hc33 X X X Tryz.isAgg3)<|Y X X (zo X)<|Y X X (zx X)<|Y X X (zx X)<|U<|M<|zA<|zS Tryz.results31 ?_
 refine ⟨h30, _, rfl, st34.done, ?_⟩
 refine tup2 (zW ?_) (zW ?_)
 all_goals rfl
end Go.Pk

namespace Go.Pk
open Go Go.RowKit Go.Proofs
set_option maxRecDepth 4000 in
theorem c_stem_office_entries {h : Heap} {w : World} (hs : Sub h w) {o_b : Nat} {o : Office} {o_v0 : Value} (o_f0 : Sl LRule h o_v0 o.lex.rules) {o_v1 : Value} (o_f1 : Sl LDecision h o_v1 o.lex.decisions) {o_v2 : Value} (o_f2 : Sl LChapter h o_v2 o.text.chapters) {o_v3 : Value} (o_f3 : FML (fun n : Int => .int .i64 n) (fun x : Decision => [.int .i64 x.number, .int .u8 x.kind, strV x.form, .int .i64 x.at_.chapter, .int .i64 x.at_.line, .int .i64 x.at_.word, strV x.to.stem, .int .u8 x.to.mark, .int .i64 x.of_]) LDecision h o.stands o_v3) (o_c : Cells h o_b 0 [o_v0, o_v1, o_v2, o_v3]) (K0 : Cells h 0 0 Tryz.glob0) (ho : OkO o) : Calls Tryz.prog 56 #[.pointer (some ⟨o_b, 0, none⟩)] w (Rets h w (fun h' _ res_ => ∃ u0, res_ = u0 ∧ Sl LEntry h' u0 ((entriesL o.text o.lex)))) := by
 refine zM (n := 55) (args := [.pointer (some ⟨o_b, 0, none⟩)]) Tryz.func56 X X X ?_
 have st0 : St h w h w [] := St.start hs
 have o_f0_b := o_f0.le
 have o_f1_b := o_f1.le
 have o_f2_b := o_f2.le
 have ht := check_text ho.1
 have hchl := chapters_len ht
 refine zd<|O<|Y X X (r_asL X)<|U<|M<|zd<|O<|Y X X (r_asL X)<|U<|M<|zd<|zd<|O<|Y X X (r_mvP X)<|Y X X (r_nil_check X)<|Y X X (zc X Tryz.underlying103 X Tryz.sizeOf24 X)<|Y X X (zc X Tryz.underlying24 X Tryz.sizeOf22 X)<|Y X X (zb (j := 2) st0.sub o_c X X X Tryz.isAgg22)<|Y X X (zag o_f2 X Tryz.underlying22)<|Y X X (zo X)<|U<|M<|zF ?_
 have st4 := st0.snoc
 have f5 := OSl.nil LEntry 120 h
 refine zX [3, 4, 5, 6, 7, 8, 9, 16, 17, 18, 19, 20, 21, 22, 23, 24, 25, 26, 27, 28, 29, 30, 31, 32, 33, 34, 35, 36, 37, 38, 39, 40, 41, 42, 43, 44, 45, 46, 47, 48, 49, 50, 51, 52, 53] (G := Nat × Value × List (Nat × Obj) × Heap) (fun ⟨i, v_3, o_3, h1⟩ => [(3, v_3), (16, .int .i64 (i : Int))]) (fun ⟨i, v_3, o_3, h1⟩ w' => Le h h1 ∧ St h w h1 w' [o_3] ∧ (OSl LEntry 120 h1 v_3 (((List.range i).flatMap (chapP o.text)).map (entryAt o.text o.lex)) o_3) ∧ (i ≤ o.text.chapters.length)) (fun ⟨i, v_3, o_3, h1⟩ => o.text.chapters.length - i) ⟨0, (.slice none 0 0), [], h⟩ ⟨rfl, rfl, trivial⟩ ⟨Le.refl _, st4, (OSl.to f5 (by rfl)), zak⟩ ?_
 rintro ⟨i, v_3, o_3, h1⟩ _ w6 ⟨le2, st3, hO_3, hi⟩
 refine zd<|O<|Y X X (zal X X)<|U<|M<|zd ?_
 refine zt rfl (fun c7 => ?_) (fun c7 => ?_)
 ·
  replace c7 := of_decide_eq_true c7
  refine zz<|M<|zd<|zF<|zd<|O<|Y X X (zo X) ?_
  have hc : ∃ y_, (o.text.chapters)[i]? = some y_ := ⟨_, List.getElem?_eq_getElem (by omega)⟩
  obtain ⟨c, hc⟩ := hc
  obtain ⟨b8, o9, _, he11, hc10, hr_c⟩ := Sl.elem (o_f2.up le2) hc
  obtain ⟨v12, rfl, f13⟩ := hr_c
  have f13_b := f13.le
  refine Y X X (zp he11 X X (hk := X) (hu := Tryz.underlying22) (hz := Tryz.sizeOf93))<|Y X X (zf st3.sub hc10 X Tryz.isAgg93 Tryz.sizeOf93 X)<|zO st3 Tryz.zeroValue93 X X ?_
  intro b14 w15 st16
  refine Y X X (zx X)<|zB st16 (k := 1) X X X (zg X (zg f13.one zU)) Tryz.sizeOf93 X X X ?_
  intro w17 st18
  obtain ⟨h19, le20, hb21, st23⟩ := st18.freeze (k := 1) rfl
  have hc22 := Cells.of hb21
  refine U ?_
  have q5 := linesAt_len ht i
  rw [linesAt_some hc] at q5
  refine M<|zd<|O<|Y X X (zc X Tryz.underlying93 X Tryz.sizeOf91 X)<|Y X X (zb (j := 1) st23.sub hc22 X X X Tryz.isAgg91)<|Y X X (zag (f13.up le20) X Tryz.underlying91)<|Y X X (zo X)<|U<|M<|zF ?_
  refine zX [3, 6, 7, 8, 9, 24, 25, 26, 27, 28, 29, 30, 31, 32, 33, 34, 35, 36, 37, 38, 39, 40, 41, 42, 43, 44, 45, 46, 47, 48, 49, 50, 51, 52] (G := Nat × Value × List (Nat × Obj) × Heap) (fun ⟨n, v_3, o_3, h24⟩ => [(3, v_3), (24, .int .i64 (n : Int))]) (fun ⟨n, v_3, o_3, h24⟩ w' => Le h19 h24 ∧ St h w h24 w' [o_3, []] ∧ (OSl LEntry 120 h24 v_3 (((List.range i).flatMap (chapP o.text) ++ (List.range n).flatMap (lineP o.text i)).map (entryAt o.text o.lex)) o_3) ∧ (n ≤ c.lines.length)) (fun ⟨n, v_3, o_3, h24⟩ => c.lines.length - n) ⟨0, v_3, o_3, h19⟩ ⟨rfl, rfl, trivial⟩ ⟨Le.refl _, st23, (OSl.to (hO_3.up le20) (by simp)), zak⟩ ?_
  rintro ⟨n, v_3, o_3, h24⟩ _ w27 ⟨le25, st26, hO_3, hn⟩
  refine zd<|O<|Y X X (zal X X)<|U<|M<|zd ?_
  refine zt rfl (fun c28 => ?_) (fun c28 => ?_)
  ·
   replace c28 := of_decide_eq_true c28
   refine zz<|M<|zd<|zF<|zd<|O<|Y X X (zo X) ?_
   have hln : ∃ y_, (c.lines)[n]? = some y_ := ⟨_, List.getElem?_eq_getElem (by omega)⟩
   obtain ⟨ln, hln⟩ := hln
   obtain ⟨b29, o30, _, he32, hc31, hr_ln⟩ := Sl.elem (f13.up (le20.trans le25)) hln
   obtain ⟨v33, rfl, f34⟩ := hr_ln
   have f34_b := f34.le
   refine Y X X (zp he32 X X (hk := X) (hu := Tryz.underlying91) (hz := Tryz.sizeOf33))<|Y X X (zb (j := 0) st26.sub hc31 X X X Tryz.isAgg33)<|Y X X (zx X)<|Y X X (zD (v := v33) X)<|U ?_
   have q4 := wordsAt_len ht i n
   rw [wordsAt_some hc hln] at q4
   refine M<|zd<|O<|Y X X (zy (v := v33) X)<|Y X X (zag f34 X Tryz.underlying33)<|Y X X (zo X)<|U<|M<|zF ?_
   refine zX [3, 8, 9, 31, 32, 33, 34, 35, 36, 37, 38, 39, 40, 41, 42, 43, 44, 45, 46, 47, 48, 49, 50, 51] (G := Nat × Value × List (Nat × Obj) × Heap) (fun ⟨m, v_3, o_3, h35⟩ => [(3, v_3), (31, .int .i64 (m : Int))]) (fun ⟨m, v_3, o_3, h35⟩ w' => Le h24 h35 ∧ St h w h35 w' [o_3, []] ∧ (OSl LEntry 120 h35 v_3 (((List.range i).flatMap (chapP o.text) ++ (List.range n).flatMap (lineP o.text i) ++ (List.range m).map (mkP i n)).map (entryAt o.text o.lex)) o_3) ∧ (m ≤ ln.length)) (fun ⟨m, v_3, o_3, h35⟩ => ln.length - m) ⟨0, v_3, o_3, h24⟩ ⟨rfl, rfl, trivial⟩ ⟨Le.refl _, st26, (OSl.to hO_3 (by simp)), zak⟩ ?_
   rintro ⟨m, v_3, o_3, h35⟩ _ w38 ⟨le36, st37, hO_3, hm⟩
   refine zd<|O<|Y X X (zal X X)<|U<|M<|zd ?_
   refine zt rfl (fun c39 => ?_) (fun c39 => ?_)
   ·
    replace c39 := of_decide_eq_true c39
    refine zz<|M<|zd<|zF<|zd<|O<|Y X X (zo X)<|Y X X (zx X)<|U<|M<|zd<|O<|Y X X (zo X)<|Y X X (zo X)<|Y X X (zo X)<|Y X X (r_build (cs := [.int .i64 (i : Int), .int .i64 (n : Int), .int .i64 (m : Int)]) t_kr)<|zO st37 Tryz.zeroValue52 X X ?_
    intro b40 w41 st42
    refine zB st42 (k := 2) X X X (zg X (zg X (zg X zU))) Tryz.sizeOf52 X X X ?_
    intro w43 st44
    obtain ⟨h45, le46, hb47, st49⟩ := st44.freeze (k := 2) rfl
    have hc48 := Cells.of hb47
    refine U<|M ?_
    have hp0 := place_mk (w := m) hc hln (by omega)
    have hhd := winD_ok ho.1 hp0
    simp only [mkP] at hp0 hhd
    have hwd : ∃ y_, (ln)[m]? = some y_ := ⟨_, List.getElem?_eq_getElem (by omega)⟩
    obtain ⟨wd, hwd⟩ := hwd
    obtain ⟨b50, o51, _, he53, hc52, hr_wd⟩ := Sl.elem (f34.up (le36.trans le46)) hwd
    obtain ⟨rfl, ls54⟩ := hr_wd
    simp only [big] at ls54
    refine zaa (er := ([], [3], [0], [], 0)) (dsts := [38, 39, 40, 41, 42, 43, 44, 45, 46, 47, 48, 49, 50, 3]) st49 Tryz.mixed<|zh 0 [] X t_kr t_kr X X (fun hD wD τD hL hS hO  => (zy (v := v_3) X))<|zh 1 [] X t_kr t_kr X X (fun hD wD τD hL hS hO  => (zf (hL.sub hS) hc48 X Tryz.isAgg52 Tryz.sizeOf52 X))<|zh 2 [] X t_kr t_kr X X (fun hD wD τD hL hS hO  => (zy (v := v33) X))<|zh 3 [] X t_kr t_kr X X (fun hD wD τD hL hS hO  => (zo X))<|zh 4 [1, 0] X t_kr t_kr X X (fun hD wD τD hL hS hO _ _ _ _ => (zp he53 X X (hk := X) (hu := Tryz.underlying33) (hz := Tryz.sizeOf9)))<|zh 5 [0] X t_kr t_kr X X (fun hD wD τD hL hS hO _ _ => (zb (j := 0) (hL.sub hS) hc52 X X X Tryz.isAgg9))<|zh 6 [] X t_kr t_kr X X (fun hD wD τD hL hS hO  => (r_mvP X))<|zh 7 [] X t_kr t_kr X X (fun hD wD τD hL hS hO  => (zf (hL.sub hS) hc48 X Tryz.isAgg52 Tryz.sizeOf52 X)) ?_
    refine zQ 8 (.det (.agg (List.toArray [.int .i64 ((winD (o).lex ((Place.mk ((i : Int)) ((n : Int)) ((m : Int)))) (wordD (o).text ((Place.mk ((i : Int)) ((n : Int)) ((m : Int)))))).number), .int .u8 ((winD (o).lex ((Place.mk ((i : Int)) ((n : Int)) ((m : Int)))) (wordD (o).text ((Place.mk ((i : Int)) ((n : Int)) ((m : Int)))))).kind), strV ((winD (o).lex ((Place.mk ((i : Int)) ((n : Int)) ((m : Int)))) (wordD (o).text ((Place.mk ((i : Int)) ((n : Int)) ((m : Int)))))).form), .int .i64 ((winD (o).lex ((Place.mk ((i : Int)) ((n : Int)) ((m : Int)))) (wordD (o).text ((Place.mk ((i : Int)) ((n : Int)) ((m : Int)))))).at_.chapter), .int .i64 ((winD (o).lex ((Place.mk ((i : Int)) ((n : Int)) ((m : Int)))) (wordD (o).text ((Place.mk ((i : Int)) ((n : Int)) ((m : Int)))))).at_.line), .int .i64 ((winD (o).lex ((Place.mk ((i : Int)) ((n : Int)) ((m : Int)))) (wordD (o).text ((Place.mk ((i : Int)) ((n : Int)) ((m : Int)))))).at_.word), strV ((winD (o).lex ((Place.mk ((i : Int)) ((n : Int)) ((m : Int)))) (wordD (o).text ((Place.mk ((i : Int)) ((n : Int)) ((m : Int)))))).to.stem), .int .u8 ((winD (o).lex ((Place.mk ((i : Int)) ((n : Int)) ((m : Int)))) (wordD (o).text ((Place.mk ((i : Int)) ((n : Int)) ((m : Int)))))).to.mark), .int .i64 ((winD (o).lex ((Place.mk ((i : Int)) ((n : Int)) ((m : Int)))) (wordD (o).text ((Place.mk ((i : Int)) ((n : Int)) ((m : Int)))))).of_)]))) [1, 0] rfl t_kr t_kr ?_ ?_
    ·
     intro hD wD τD hL hS hO _ _ _ _
     have st55 := St.start hS
     refine zm st55 rfl rfl rfl Tryz.call104 rfl (c_stem_office_wins st55.sub (o := o) (o_f0.up (((((le2.trans le20).trans le25).trans le36).trans le46).trans hL)) (o_f1.up (((((le2.trans le20).trans le25).trans le36).trans le46).trans hL)) (o_f2.up (((((le2.trans le20).trans le25).trans le36).trans le46).trans hL)) (o_f3.up (((((le2.trans le20).trans le25).trans le36).trans le46).trans hL)) (o_c.up (((((le2.trans le20).trans le25).trans le36).trans le46).trans hL)) (p := (Place.mk ((i : Int)) ((n : Int)) ((m : Int)))) (K0.up (((((le2.trans le20).trans le25).trans le36).trans le46).trans hL)) (by exact ho) (by exact hp0)) ?_
     intro r56 w57 h58 le59 st60 q61
     obtain rfl := q61
     exact U ⟨_, _, rfl, st60, (), rfl, trivial⟩
    refine zh 9 [0] X t_kr t_kr X X (fun hD wD τD hL hS hO _ _ => (r_fieldN (us := [strV ((winD (o).lex ((Place.mk ((i : Int)) ((n : Int)) ((m : Int)))) (wordD (o).text ((Place.mk ((i : Int)) ((n : Int)) ((m : Int)))))).to.stem), .int .u8 ((winD (o).lex ((Place.mk ((i : Int)) ((n : Int)) ((m : Int)))) (wordD (o).text ((Place.mk ((i : Int)) ((n : Int)) ((m : Int)))))).to.mark)]) X Tryz.underlying56 X Tryz.isAgg54 Tryz.sizeOf54 X X))<|zh 10 [8, 4, 0] X t_kr t_kr X X (fun hD wD τD hL hS hO _ _ _ _ _ _ => (r_build (cs := [.int .i64 (i : Int), .int .i64 (n : Int), .int .i64 (m : Int), strV wd, strV ((winD (o).lex ((Place.mk ((i : Int)) ((n : Int)) ((m : Int)))) (wordD (o).text ((Place.mk ((i : Int)) ((n : Int)) ((m : Int)))))).to.stem), .int .u8 ((winD (o).lex ((Place.mk ((i : Int)) ((n : Int)) ((m : Int)))) (wordD (o).text ((Place.mk ((i : Int)) ((n : Int)) ((m : Int)))))).to.mark)]) t_kr)) ?_
    refine zQ 11 (.res (fun h' res_ => Sl LEntry h' res_ ([(Entry.mk ((Place.mk ((i : Int)) ((n : Int)) ((m : Int)))) (wd) ((winD (o).lex ((Place.mk ((i : Int)) ((n : Int)) ((m : Int)))) (wordD (o).text ((Place.mk ((i : Int)) ((n : Int)) ((m : Int)))))).to))])) (fun _ _ _ hl f => f.up hl)) [0] rfl t_kr t_kr ?_ ?_
    ·
     intro hD wD τD hL hS hO _ _
     have st62 := St.start hS
     refine zV (L := LEntry) (xs := [(Entry.mk ((Place.mk ((i : Int)) ((n : Int)) ((m : Int)))) (wd) ((winD (o).lex ((Place.mk ((i : Int)) ((n : Int)) ((m : Int)))) (wordD (o).text ((Place.mk ((i : Int)) ((n : Int)) ((m : Int)))))).to))]) (cs := [.int .i64 (i : Int), .int .i64 (n : Int), .int .i64 (m : Int), strV wd, strV ((winD (o).lex ((Place.mk ((i : Int)) ((n : Int)) ((m : Int)))) (wordD (o).text ((Place.mk ((i : Int)) ((n : Int)) ((m : Int)))))).to.stem), .int .u8 ((winD (o).lex ((Place.mk ((i : Int)) ((n : Int)) ((m : Int)))) (wordD (o).text ((Place.mk ((i : Int)) ((n : Int)) ((m : Int)))))).to.mark)]) st62 (Enc.cons (L := LEntry) (vs := [.int .i64 (i : Int), .int .i64 (n : Int), .int .i64 (m : Int), strV wd, strV ((winD (o).lex ((Place.mk ((i : Int)) ((n : Int)) ((m : Int)))) (wordD (o).text ((Place.mk ((i : Int)) ((n : Int)) ((m : Int)))))).to.stem), .int .u8 ((winD (o).lex ((Place.mk ((i : Int)) ((n : Int)) ((m : Int)))) (wordD (o).text ((Place.mk ((i : Int)) ((n : Int)) ((m : Int)))))).to.mark)]) (x := (Entry.mk ((Place.mk ((i : Int)) ((n : Int)) ((m : Int)))) (wd) ((winD (o).lex ((Place.mk ((i : Int)) ((n : Int)) ((m : Int)))) (wordD (o).text ((Place.mk ((i : Int)) ((n : Int)) ((m : Int)))))).to))) (h := hD) (⟨rfl, zZ, zZ, t_u8⟩) Enc.nil) X X X Tryz.underlying117 Tryz.info120 X X X t_kr ?_
     intro v63 w64 h67 le68 f65 st66
     exact U ⟨_, _, rfl, st66, _, rfl, f65⟩
    refine zaf<|zaf<|zan X X X X X X ⟨t_kr, X, t_kr, X, t_kr, X, X, t_kr, (zY X (zY X cx_nil))⟩ ?_
    intro hE70 w71 _ le72 st73 _ _ gv11_0x69 gf11_0x69 _ _
    refine zP (k := 0) (nb := 64) st73 (hO_3.up (le46.trans le72)) rfl gf11_0x69 rfl rfl rfl Tryz.underlying117 Tryz.info120 rfl rfl rfl (by decide) rfl (by have q1 := flatMap_len (chapP_len ht) i; have q2 := flatMap_len (lineP_len ht i) n; have q3 := chapters_len ht; have q4 := wordsAt_len ht i n; have q5 := linesAt_len ht i; rw [linesAt_some hc] at q5; rw [wordsAt_some hc hln] at q4; simp only [List.length_append, List.length_map, List.length_range, List.length_cons, List.length_nil]; omega) (by have q1 := flatMap_len (chapP_len ht) i; have q2 := flatMap_len (lineP_len ht i) n; have q3 := chapters_len ht; have q4 := wordsAt_len ht i n; have q5 := linesAt_len ht i; rw [linesAt_some hc] at q5; rw [wordsAt_some hc hln] at q4; simp only [List.length_append, List.length_map, List.length_range, List.length_cons, List.length_nil]; omega) ?_
    intro v74 o75 w76 _ e77 f78 st79
    subst e77
    refine U ⟨_, rfl, _, _, Le.refl _, st79, ?_⟩
    intro hE81 w82 _ le83 st84 _ _ _ _ _ _ _ _ _ _ _ _ _ _ _ _ _ _ _ _ _ _ gv11_0x80 gf11_0x80
    refine Y X X (zD (v := v74) X) ?_
    refine U ⟨_, rfl, _, _, Le.refl _, st84, ?_⟩
    intro hE85 w86 _ le87 st88 _ _ _ _ _ _ _ _ _ _ _ _ _ _ _ _ _ _ _ _ _ _ gv11_0x89 gf11_0x89
    refine AllDeps.fin X<|zI<|M<|O<|Y X X (zah X X t_om)<|Y X X (zo X)<|U<|M ?_
    refine ⟨⟨m + 1, v74, o75, hE85⟩, ⟨rfl, rfl, trivial⟩, ?_, ⟨((((le36.trans le46).trans le72).trans le83).trans le87), st88.take 2, ?_, ?_⟩, ?_⟩
    ·exact zae
    ·refine OSl.to (f78.up (le83.trans le87)) ?_
     have hww := word_mk hc hln hwd
     simp only [mkP] at hww
     rw [List.range_succ]; simp only [List.map_append, List.append_assoc, List.map_cons, List.map_nil, entryAt, headAt, mkP, hww]
    ·first | omega | (simp; omega)
    ·show ln.length - ((m + 1)) < ln.length - m
     omega
   ·
    replace c39 := of_decide_eq_false c39
    refine zab<|zn<|zn<|zT<|zI<|M<|O<|Y X X (zah X X t_om)<|Y X X (zo X)<|U<|M ?_
    refine ⟨⟨n + 1, v_3, o_3, h35⟩, ⟨rfl, rfl, trivial⟩, ?_, ⟨(le25.trans le36), st37, ?_, ?_⟩, ?_⟩
    ·exact zae
    ·refine OSl.to hO_3 ?_
     rw [range_flat_succ, ← lineP_snoc hc hln (w := m) (by omega), List.append_assoc]
    ·first | omega | (simp; omega)
    ·show c.lines.length - ((n + 1)) < c.lines.length - n
     omega
  ·
   replace c28 := of_decide_eq_false c28
   refine zab<|zn<|zn<|zT<|zI<|M<|O<|Y X X (zah X X t_om)<|Y X X (zo X)<|U<|M ?_
   refine ⟨⟨i + 1, v_3, o_3, h24⟩, ⟨rfl, rfl, trivial⟩, ?_, ⟨((le2.trans le20).trans le25), st26.take 1, ?_, ?_⟩, ?_⟩
   ·exact zae
   ·refine OSl.to hO_3 ?_
    rw [range_flat_succ, ← chapP_snoc hc (n := n) (by omega)]
   ·first | omega | (simp; omega)
   ·show o.text.chapters.length - ((i + 1)) < o.text.chapters.length - i
    omega
 ·
  replace c7 := of_decide_eq_false c7
  refine zab<|zn<|zn<|zT<|M<|zd<|O<|Y X X (zy (v := v_3) X)<|Y X X (zD (v := v_3) X)<|U<|M<|zA<|zi Tryz.results56 ?_
  obtain ⟨h90, le91, f92, st93⟩ := OSl.freeze (k := 0) st3 hO_3 rfl (by have q1 := flatMap_len (chapP_len ht) i; have q3 := chapters_len ht; rw [List.length_map]; omega)
  refine ⟨h90, _, rfl, st93.done, ?_⟩
  refine ⟨_, rfl, Sl.to f92 ?_⟩
  rw [show i = o.text.chapters.length by omega]; rfl
end Go.Pk

namespace Go.Pk
open Go Go.RowKit Go.Proofs
set_option maxRecDepth 4000 in
theorem c_slices_Compact_Lapi_Head_api_Head {h0 h : Heap} {w0 w : World} {rest : Own} {s : (List Head)} {s_o : List (Nat × Obj)} {s_v : Value} (s_f : OSl LHead 54 h s_v s s_o) (hb : s.length ≤ 281474976710656) (st0 : St h0 w0 h w (s_o :: rest)) : Calls Tryz.prog 77 #[s_v] w (fun e_ w' => ∃ h' s_o' v', e_ = .returned v' ∧ Le h h' ∧ St h0 w0 h' w' (s_o' :: rest) ∧ OSl LHead 54 h' v' (compactL s) s_o') := by
 refine zM (n := 61) (args := [s_v]) Tryz.func77 X X X<|zd<|O<|Y X X (r_asL X)<|U<|M<|zd<|zd<|O<|Y X X (zy (v := s_v) X)<|Y X X (r_len_own s_f X Tryz.underlying80)<|Y X X (zal X X)<|U<|M ?_
 refine zt rfl (fun c1 => ?_) (fun c1 => ?_)
 ·
  replace c1 := of_decide_eq_true c1
  refine zd<|O<|Y X X (zy (v := s_v) X)<|Y X X (zD (v := s_v) X)<|U<|M<|zA<|zk<|zi Tryz.results77 ?_
  refine ⟨h, _, _, rfl, (Le.refl _), st0, OSl.to s_f ?_⟩
  exact (comp_short (by omega)).symm
 ·
  replace c1 := of_decide_eq_false c1
  refine zz<|M<|zd<|zd<|O<|Y X X (zx X)<|U<|M<|zF ?_
  refine zX [2, 3, 4, 5, 10, 11, 12, 13, 14, 15, 16, 17, 18, 19, 20, 21, 22, 23, 24, 25, 26, 27, 28, 29, 30, 31, 32, 33, 34, 35, 36, 37, 38, 39, 40, 41, 42, 43, 44, 45, 46, 47, 48, 49, 50, 51, 52, 53, 54, 55, 56, 57, 58, 59] (G := Nat × List (Nat × Obj) × Heap) (fun ⟨k, o_0, h2⟩ => [(3, .int .i64 (k : Int))]) (fun ⟨k, o_0, h2⟩ w' => Le h h2 ∧ St h0 w0 h2 w' (o_0 :: rest) ∧ (OSl LHead 54 h2 s_v (s) o_0) ∧ (1 ≤ k ∧ k ≤ s.length) ∧ (compactL (s.take k) = s.take k)) (fun ⟨k, o_0, h2⟩ => s.length - k) ⟨1, s_o, h⟩ ⟨rfl, trivial⟩ ⟨Le.refl _, st0, (OSl.to s_f (by rfl)), (by exact ⟨by omega, by omega⟩), (by exact comp_one (by omega))⟩ ?_
  rintro ⟨k, o_0, h2⟩ _ w5 ⟨le3, st4, hO_0, hk, hc⟩
  refine zd<|zd<|O<|Y X X (zo X)<|Y X X (zy (v := s_v) X)<|Y X X (r_len_own hO_0 X Tryz.underlying80)<|Y X X (zal X X)<|U<|M ?_
  refine zt rfl (fun c6 => ?_) (fun c6 => ?_)
  ·
   replace c6 := of_decide_eq_true c6
   refine zz<|M<|zd<|zF<|zd<|zai Tryz.mixed t_kr (Cls h2 _) (Cls.drew st4)<|ze X X (fun _ _ => (zy (v := s_v) X))<|ze X X (fun _ _ => (zo X)) ?_
   have hy : ∃ y_, (s)[k]? = some y_ := ⟨_, List.getElem?_eq_getElem (by omega)⟩
   obtain ⟨y, hy⟩ := hy
   obtain ⟨b7, o8, cur9, _, e12, he10, hr_y, hc11⟩ := OSl.elem hO_0 hy
   subst e12
   obtain ⟨rfl, ls13, lu14⟩ := hr_y
   simp only [big] at ls13
   refine ze X X (fun _ _ => (zp he10 X X (hk := X) (hu := Tryz.underlying80) (hz := Tryz.sizeOf54)))<|ze X X (fun _ hC => (r_load_curN (hC.block (st4.get (k := 0) X)) hc11 X Tryz.isAgg54 Tryz.sizeOf54 X))<|ze X X (fun _ _ => (zy (v := s_v) X))<|ze X X (fun _ _ => (zo X))<|ze X X (fun _ _ => (r_sub X X t_om)) ?_
   have hz : ∃ y_, (s)[k - 1]? = some y_ := ⟨_, List.getElem?_eq_getElem (by omega)⟩
   obtain ⟨z, hz⟩ := hz
   obtain ⟨b15, o16, cur17, _, e20, he18, hr_z, hc19⟩ := OSl.elem hO_0 hz
   obtain ⟨hb21, hc22⟩ : b7 = b15 ∧ cur9 = cur17 := by cases e20; exact ⟨rfl, rfl⟩
   subst hb21
   subst hc22
   obtain ⟨rfl, ls23, lu24⟩ := hr_z
   simp only [big] at ls23
   refine ze rfl rfl (fun _ _ => (zp he18 rfl rfl (hk := (show _ = ((k - 1 : Nat) : Int) by omega)) (hu := Tryz.underlying80) (hz := Tryz.sizeOf54))) ?_
   refine ze X X (fun _ hC => (r_load_curN (hC.block (st4.get (k := 0) X)) hc19 X Tryz.isAgg54 Tryz.sizeOf54 X))<|ze X X (fun _ _ => (r_steql X X Tryz.eqGuardType54 (Tryz.eq_Head y z)))<|zac ?_
   rintro w25 ⟨h26, s27⟩
   have st28 := st4.call0 s27
   refine M ?_
   refine zt rfl (fun c29 => ?_) (fun c29 => ?_)
   ·
    replace c29 := of_decide_eq_true c29
    refine zd<|O<|Y X X (zy (v := s_v) X)<|Y X X (zo X) ?_
    refine Y rfl rfl (r_slice_from_own (hO_0.up s27.le) rfl rfl (hk := (show _ = ((k : Nat) : Int) by omega)) (by omega) Tryz.underlying80 Tryz.sizeOf54) ?_
    refine Y X X (zD (v := (vdrop 2 s_v (k))) X)<|U<|M<|zd<|zd<|O<|Y X X (zx X)<|U<|M<|zF ?_
    refine zX [3, 5, 29, 30, 31, 32, 33, 34, 35, 36, 37, 38, 39, 40, 41, 42, 43, 44, 45, 46, 47, 48, 49, 50, 51, 52, 53] (G := Nat × Nat × List Head × List (Nat × Obj) × Heap) (fun ⟨i, k2, ys, o_0, h30⟩ => [(3, .int .i64 (i : Int)), (5, .int .i64 (k2 : Int))]) (fun ⟨i, k2, ys, o_0, h30⟩ w' => Le h26 h30 ∧ St h0 w0 h30 w' (o_0 :: rest) ∧ (OSl LHead 54 h30 s_v (ys) o_0) ∧ (1 ≤ k2 ∧ k + k2 ≤ s.length ∧ ys.length = s.length ∧ i + 1 ≤ k + k2) ∧ (Comp s ys i (k + k2))) (fun ⟨i, k2, ys, o_0, h30⟩ => s.length - (k + k2)) ⟨k, 1, s, [(b7, .cells cur9 54)], h26⟩ ⟨rfl, rfl, trivial⟩ ⟨Le.refl _, st28, (OSl.to (hO_0.up s27.le) (by rfl)), (by exact ⟨by omega, by omega, rfl, by omega⟩), (by exact Comp.start hz hy hk.1 hc (by simpa using c29))⟩ ?_
    rintro ⟨i, k2, ys, o_0, h30⟩ _ w33 ⟨le31, st32, hO_0, hk2, hD⟩
    refine zd<|zd<|O<|Y X X (zo X)<|Y X X (zy (v := (vdrop 2 s_v (k))) X)<|Y X X (r_len_vdrop X (OSl.form hO_0) Tryz.underlying80)<|Y X X (zal X X)<|U<|M ?_
    refine zt rfl (fun c34 => ?_) (fun c34 => ?_)
    ·
     replace c34 := of_decide_eq_true c34
     refine zz<|M<|zd<|zF<|zd<|zai Tryz.mixed t_kr (Cls h30 _) (Cls.drew st32)<|ze X X (fun _ _ => (zy (v := (vdrop 2 s_v (k))) X))<|ze X X (fun _ _ => (zo X)) ?_
     have hy2 : ∃ y_, (ys)[k + k2]? = some y_ := ⟨_, List.getElem?_eq_getElem (by omega)⟩
     obtain ⟨y2, hy2⟩ := hy2
     obtain ⟨b35, o36, cur37, _, e40, he38, hr_y2, hc39⟩ := OSl.elem hO_0 hy2
     subst e40
     obtain ⟨rfl, ls41, lu42⟩ := hr_y2
     simp only [big] at ls41
     refine ze rfl rfl (fun _ _ => (zp (Elem.drop' (k := k) (j := k2) he38 (by omega) (OSl.caps hO_0)) rfl rfl (hk := rfl) (hu := Tryz.underlying80) (hz := Tryz.sizeOf54))) ?_
     refine ze X X (fun _ hC => (r_load_curN (hC.block (st32.get (k := 0) X)) hc39 X Tryz.isAgg54 Tryz.sizeOf54 X))<|ze X X (fun _ _ => (zy (v := (vdrop 2 s_v (k))) X))<|ze X X (fun _ _ => (zo X))<|ze X X (fun _ _ => (r_sub X X t_om)) ?_
     have hz2 : ∃ y_, (ys)[k + k2 - 1]? = some y_ := ⟨_, List.getElem?_eq_getElem (by omega)⟩
     obtain ⟨z2, hz2⟩ := hz2
     obtain ⟨b43, o44, cur45, _, e48, he46, hr_z2, hc47⟩ := OSl.elem hO_0 hz2
     obtain ⟨hb49, hc50⟩ : b35 = b43 ∧ cur37 = cur45 := by cases e48; exact ⟨rfl, rfl⟩
     subst hb49
     subst hc50
     obtain ⟨rfl, ls51, lu52⟩ := hr_z2
     simp only [big] at ls51
     refine ze rfl rfl (fun _ _ => (zp (Elem.drop' (k := k) (j := k2 - 1) he46 (by omega) (OSl.caps hO_0)) rfl rfl (hk := (show _ = ((k2 - 1 : Nat) : Int) by omega)) (hu := Tryz.underlying80) (hz := Tryz.sizeOf54))) ?_
     refine ze X X (fun _ hC => (r_load_curN (hC.block (st32.get (k := 0) X)) hc47 X Tryz.isAgg54 Tryz.sizeOf54 X))<|ze X X (fun _ _ => (r_stneq X X Tryz.eqGuardType54 (Tryz.eq_Head y2 z2)))<|zac ?_
     rintro w53 ⟨h54, s55⟩
     have st56 := st32.call0 s55
     refine M ?_
     refine zt rfl (fun c57 => ?_) (fun c57 => ?_)
     ·
      replace c57 := of_decide_eq_true c57
      refine zd<|O<|Y X X (zy (v := s_v) X)<|Y X X (zo X)<|Y X X (zy (v := (vdrop 2 s_v (k))) X)<|Y X X (zo X) ?_
      obtain ⟨b58, o59, cur60, _, e63, he61, hr_y2, hc62⟩ := OSl.elem (hO_0.up s55.le) hy2
      obtain ⟨hb64, hc65⟩ : b35 = b58 ∧ cur37 = cur60 := by cases e63; exact ⟨rfl, rfl⟩
      subst hb64
      subst hc65
      obtain ⟨rfl, ls66, lu67⟩ := hr_y2
      simp only [big] at ls66
      refine Y rfl rfl (zp (Elem.drop' (k := k) (j := k2) he61 (by omega) (OSl.caps (hO_0.up s55.le))) rfl rfl (hk := rfl) (hu := Tryz.underlying80) (hz := Tryz.sizeOf54)) ?_
      refine Y X X (r_load_curN (st56.get (k := 0) X) hc62 X Tryz.isAgg54 Tryz.sizeOf54 X) ?_
      have hu2 : ∃ y_, (ys)[i]? = some y_ := ⟨_, List.getElem?_eq_getElem (by omega)⟩
      obtain ⟨u2, hu2⟩ := hu2
      obtain ⟨b68, o69, cur70, _, e73, he71, hr_u2, hc72⟩ := OSl.elem (hO_0.up s55.le) hu2
      obtain ⟨hb74, hc75⟩ : b35 = b68 ∧ cur37 = cur70 := by cases e73; exact ⟨rfl, rfl⟩
      subst hb74
      subst hc75
      obtain ⟨rfl, ls76, lu77⟩ := hr_u2
      simp only [big] at ls76
      refine Y rfl rfl (zp he71 rfl rfl (hk := (show _ = ((i : Nat) : Int) by omega)) (hu := Tryz.underlying80) (hz := Tryz.sizeOf54)) ?_
      refine OpsL.storeEl (k := 0) st56 (hO_0.up s55.le) rfl (by omega) he71 rfl rfl (⟨rfl, zZ, t_u8⟩) Tryz.sizeOf54 ?_
      intro o78 w79 _ e80 f81 st82
      subst e80
      refine U<|M<|O<|Y X X (zo X)<|Y X X (zah X X t_om)<|Y X X (zx X)<|U<|zI<|M<|O<|Y X X (zo X)<|Y X X (zah X X t_om)<|Y X X (zx X)<|U<|M ?_
      refine ⟨⟨i + 1, k2 + 1, (ys.set i y2), o78, h54⟩, ⟨rfl, rfl, trivial⟩, ?_, ⟨(le31.trans s55.le), st82, ?_, ?_, ?_⟩, ?_⟩
      ·exact zae
      ·refine OSl.to f81 ?_
       rfl
      ·refine ⟨by omega, by omega, by first | (rw [List.length_set]; omega) | omega, by omega⟩
      ·exact hD.keep hy2 hz2 (by simpa using c57)
      ·show s.length - (k + ((k2 + 1))) < s.length - (k + k2)
       omega
     ·
      replace c57 := of_decide_eq_false c57
      refine zz<|zI<|M<|O<|Y X X (zo X)<|Y X X (zah X X t_om)<|Y X X (zx X)<|U<|M ?_
      refine ⟨⟨i, k2 + 1, ys, [(b35, .cells cur37 54)], h54⟩, ⟨rfl, rfl, trivial⟩, ?_, ⟨(le31.trans s55.le), st56, ?_, ?_, ?_⟩, ?_⟩
      ·exact zae
      ·refine OSl.to (hO_0.up s55.le) ?_
       rfl
      ·refine ⟨by omega, by omega, by first | (rw [List.length_set]; omega) | omega, by omega⟩
      ·exact hD.skip hy2 hz2 (by simpa using c57)
      ·show s.length - (k + ((k2 + 1))) < s.length - (k + k2)
       omega
    ·
     replace c34 := of_decide_eq_false c34
     refine zab<|zn<|zn<|zT<|M<|zd<|O<|Y X X (zy (v := s_v) X)<|Y X X (zo X) ?_
     refine Y rfl rfl (r_slice_from_own hO_0 rfl rfl (hk := (show _ = ((i : Nat) : Int) by omega)) (by omega) Tryz.underlying80 Tryz.sizeOf54) ?_
     refine OpsL.clearTail (k := 0) (j := i) st32 hO_0 rfl (by omega) rfl Tryz.underlying80 Tryz.zeroValue54 rfl (by decide) ?_
     intro o83 w84 _ e85 f86 st87
     subst e85
     refine U<|M<|zd<|O<|Y X X (zy (v := s_v) X)<|Y X X (zo X) ?_
     refine Y rfl rfl (r_slice_to_own hO_0 rfl rfl (hk := (show _ = ((i : Nat) : Int) by omega)) (by omega) Tryz.underlying80 Tryz.sizeOf54) ?_
     refine Y X X (zD (v := (vtake s_v (i))) X)<|U<|M<|zA<|zL<|zk<|zk<|zL<|zk<|zi Tryz.results77 ?_
     refine ⟨h30, _, _, rfl, ((le3.trans s27.le).trans le31), st87, OSl.to f86 ?_⟩
     exact hD.fin (by omega)
   ·
    replace c29 := of_decide_eq_false c29
    refine zz<|zI<|M<|O<|Y X X (zo X)<|Y X X (zah X X t_om)<|Y X X (zx X)<|U<|M ?_
    refine ⟨⟨k + 1, [(b7, .cells cur9 54)], h26⟩, ⟨rfl, trivial⟩, ?_, ⟨(le3.trans s27.le), st28, ?_, ?_, ?_⟩, ?_⟩
    ·exact zae
    ·refine OSl.to (hO_0.up s27.le) ?_
     rfl
    ·exact ⟨by omega, by omega⟩
    ·exact comp_more hz hy hk.1 hc (by simpa using c29)
    ·show s.length - ((k + 1)) < s.length - k
     omega
  ·
   replace c6 := of_decide_eq_false c6
   refine zab<|zn<|zn<|zT<|M<|zd<|O<|Y X X (zy (v := s_v) X)<|Y X X (zD (v := s_v) X)<|U<|M<|zA<|zi Tryz.results77 ?_
   refine ⟨h2, _, _, rfl, le3, st4, OSl.to hO_0 ?_⟩
   rw [List.take_of_length_le (by omega)] at hc; exact hc.symm
set_option maxRecDepth 4000 in
theorem c_slices_Compact_Lstring_string {h0 h : Heap} {w0 w : World} {rest : Own} {s : (List Str)} {s_o : List (Nat × Obj)} {s_v : Value} (s_f : OSl LStr 9 h s_v s s_o) (hb : s.length ≤ 281474976710656) (st0 : St h0 w0 h w (s_o :: rest)) : Calls Tryz.prog 58 #[s_v] w (fun e_ w' => ∃ h' s_o' v', e_ = .returned v' ∧ Le h h' ∧ St h0 w0 h' w' (s_o' :: rest) ∧ OSl LStr 9 h' v' (compactL s) s_o') := by
 refine zM (n := 61) (args := [s_v]) Tryz.func58 X X X<|zd<|O<|Y X X (r_asL X)<|U<|M<|zd<|zd<|O<|Y X X (zy (v := s_v) X)<|Y X X (r_len_own s_f X Tryz.underlying33)<|Y X X (zal X X)<|U<|M ?_
 refine zt rfl (fun c1 => ?_) (fun c1 => ?_)
 ·
  replace c1 := of_decide_eq_true c1
  refine zd<|O<|Y X X (zy (v := s_v) X)<|Y X X (zD (v := s_v) X)<|U<|M<|zA<|zk<|zi Tryz.results58 ?_
  refine ⟨h, _, _, rfl, (Le.refl _), st0, OSl.to s_f ?_⟩
  exact (comp_short (by omega)).symm
 ·
  replace c1 := of_decide_eq_false c1
  refine zz<|M<|zd<|zd<|O<|Y X X (zx X)<|U<|M<|zF ?_
  refine zX [2, 3, 4, 5, 10, 11, 12, 13, 14, 15, 16, 17, 18, 19, 20, 21, 22, 23, 24, 25, 26, 27, 28, 29, 30, 31, 32, 33, 34, 35, 36, 37, 38, 39, 40, 41, 42, 43, 44, 45, 46, 47, 48, 49, 50, 51, 52, 53, 54, 55, 56, 57, 58, 59] (G := Nat × List (Nat × Obj) × Heap) (fun ⟨k, o_0, h2⟩ => [(3, .int .i64 (k : Int))]) (fun ⟨k, o_0, h2⟩ w' => Le h h2 ∧ St h0 w0 h2 w' (o_0 :: rest) ∧ (OSl LStr 9 h2 s_v (s) o_0) ∧ (1 ≤ k ∧ k ≤ s.length) ∧ (compactL (s.take k) = s.take k)) (fun ⟨k, o_0, h2⟩ => s.length - k) ⟨1, s_o, h⟩ ⟨rfl, trivial⟩ ⟨Le.refl _, st0, (OSl.to s_f (by rfl)), (by exact ⟨by omega, by omega⟩), (by exact comp_one (by omega))⟩ ?_
  rintro ⟨k, o_0, h2⟩ _ w5 ⟨le3, st4, hO_0, hk, hc⟩
  refine zd<|zd<|O<|Y X X (zo X)<|Y X X (zy (v := s_v) X)<|Y X X (r_len_own hO_0 X Tryz.underlying33)<|Y X X (zal X X)<|U<|M ?_
  refine zt rfl (fun c6 => ?_) (fun c6 => ?_)
  ·
   replace c6 := of_decide_eq_true c6
   refine zz<|M<|zd<|zF<|zd<|zai Tryz.mixed t_kr (Cls h2 _) (Cls.drew st4)<|ze X X (fun _ _ => (zy (v := s_v) X))<|ze X X (fun _ _ => (zo X)) ?_
   have hy : ∃ y_, (s)[k]? = some y_ := ⟨_, List.getElem?_eq_getElem (by omega)⟩
   obtain ⟨y, hy⟩ := hy
   obtain ⟨b7, o8, cur9, _, e12, he10, hr_y, hc11⟩ := OSl.elem hO_0 hy
   subst e12
   obtain ⟨rfl, ls13⟩ := hr_y
   simp only [big] at ls13
   refine ze X X (fun _ _ => (zp he10 X X (hk := X) (hu := Tryz.underlying33) (hz := Tryz.sizeOf9)))<|ze X X (fun _ hC => (r_load_cur1 (j := 0) (hC.block (st4.get (k := 0) X)) hc11 X X X Tryz.isAgg9))<|ze X X (fun _ _ => (zy (v := s_v) X))<|ze X X (fun _ _ => (zo X))<|ze X X (fun _ _ => (r_sub X X t_om)) ?_
   have hz : ∃ y_, (s)[k - 1]? = some y_ := ⟨_, List.getElem?_eq_getElem (by omega)⟩
   obtain ⟨z, hz⟩ := hz
   obtain ⟨b14, o15, cur16, _, e19, he17, hr_z, hc18⟩ := OSl.elem hO_0 hz
   obtain ⟨hb20, hc21⟩ : b7 = b14 ∧ cur9 = cur16 := by cases e19; exact ⟨rfl, rfl⟩
   subst hb20
   subst hc21
   obtain ⟨rfl, ls22⟩ := hr_z
   simp only [big] at ls22
   refine ze rfl rfl (fun _ _ => (zp he17 rfl rfl (hk := (show _ = ((k - 1 : Nat) : Int) by omega)) (hu := Tryz.underlying33) (hz := Tryz.sizeOf9))) ?_
   refine ze X X (fun _ hC => (r_load_cur1 (j := 0) (hC.block (st4.get (k := 0) X)) hc18 X X X Tryz.isAgg9))<|ze X X (fun _ _ => (r_seql X X))<|zac ?_
   rintro w23 ⟨h24, s25⟩
   have st26 := st4.call0 s25
   refine M ?_
   refine zt rfl (fun c27 => ?_) (fun c27 => ?_)
   ·
    replace c27 := of_decide_eq_true c27
    refine zd<|O<|Y X X (zy (v := s_v) X)<|Y X X (zo X) ?_
    refine Y rfl rfl (r_slice_from_own (hO_0.up s25.le) rfl rfl (hk := (show _ = ((k : Nat) : Int) by omega)) (by omega) Tryz.underlying33 Tryz.sizeOf9) ?_
    refine Y X X (zD (v := (vdrop 1 s_v (k))) X)<|U<|M<|zd<|zd<|O<|Y X X (zx X)<|U<|M<|zF ?_
    refine zX [3, 5, 29, 30, 31, 32, 33, 34, 35, 36, 37, 38, 39, 40, 41, 42, 43, 44, 45, 46, 47, 48, 49, 50, 51, 52, 53] (G := Nat × Nat × List Str × List (Nat × Obj) × Heap) (fun ⟨i, k2, ys, o_0, h28⟩ => [(3, .int .i64 (i : Int)), (5, .int .i64 (k2 : Int))]) (fun ⟨i, k2, ys, o_0, h28⟩ w' => Le h24 h28 ∧ St h0 w0 h28 w' (o_0 :: rest) ∧ (OSl LStr 9 h28 s_v (ys) o_0) ∧ (1 ≤ k2 ∧ k + k2 ≤ s.length ∧ ys.length = s.length ∧ i + 1 ≤ k + k2) ∧ (Comp s ys i (k + k2))) (fun ⟨i, k2, ys, o_0, h28⟩ => s.length - (k + k2)) ⟨k, 1, s, [(b7, .cells cur9 9)], h24⟩ ⟨rfl, rfl, trivial⟩ ⟨Le.refl _, st26, (OSl.to (hO_0.up s25.le) (by rfl)), (by exact ⟨by omega, by omega, rfl, by omega⟩), (by exact Comp.start hz hy hk.1 hc (by simpa using c27))⟩ ?_
    rintro ⟨i, k2, ys, o_0, h28⟩ _ w31 ⟨le29, st30, hO_0, hk2, hD⟩
    refine zd<|zd<|O<|Y X X (zo X)<|Y X X (zy (v := (vdrop 1 s_v (k))) X)<|Y X X (r_len_vdrop X (OSl.form hO_0) Tryz.underlying33)<|Y X X (zal X X)<|U<|M ?_
    refine zt rfl (fun c32 => ?_) (fun c32 => ?_)
    ·
     replace c32 := of_decide_eq_true c32
     refine zz<|M<|zd<|zF<|zd<|zai Tryz.mixed t_kr (Cls h28 _) (Cls.drew st30)<|ze X X (fun _ _ => (zy (v := (vdrop 1 s_v (k))) X))<|ze X X (fun _ _ => (zo X)) ?_
     have hy2 : ∃ y_, (ys)[k + k2]? = some y_ := ⟨_, List.getElem?_eq_getElem (by omega)⟩
     obtain ⟨y2, hy2⟩ := hy2
     obtain ⟨b33, o34, cur35, _, e38, he36, hr_y2, hc37⟩ := OSl.elem hO_0 hy2
     subst e38
     obtain ⟨rfl, ls39⟩ := hr_y2
     simp only [big] at ls39
     refine ze rfl rfl (fun _ _ => (zp (Elem.drop' (k := k) (j := k2) he36 (by omega) (OSl.caps hO_0)) rfl rfl (hk := rfl) (hu := Tryz.underlying33) (hz := Tryz.sizeOf9))) ?_
     refine ze X X (fun _ hC => (r_load_cur1 (j := 0) (hC.block (st30.get (k := 0) X)) hc37 X X X Tryz.isAgg9))<|ze X X (fun _ _ => (zy (v := (vdrop 1 s_v (k))) X))<|ze X X (fun _ _ => (zo X))<|ze X X (fun _ _ => (r_sub X X t_om)) ?_
     have hz2 : ∃ y_, (ys)[k + k2 - 1]? = some y_ := ⟨_, List.getElem?_eq_getElem (by omega)⟩
     obtain ⟨z2, hz2⟩ := hz2
     obtain ⟨b40, o41, cur42, _, e45, he43, hr_z2, hc44⟩ := OSl.elem hO_0 hz2
     obtain ⟨hb46, hc47⟩ : b33 = b40 ∧ cur35 = cur42 := by cases e45; exact ⟨rfl, rfl⟩
     subst hb46
     subst hc47
     obtain ⟨rfl, ls48⟩ := hr_z2
     simp only [big] at ls48
     refine ze rfl rfl (fun _ _ => (zp (Elem.drop' (k := k) (j := k2 - 1) he43 (by omega) (OSl.caps hO_0)) rfl rfl (hk := (show _ = ((k2 - 1 : Nat) : Int) by omega)) (hu := Tryz.underlying33) (hz := Tryz.sizeOf9))) ?_
     refine ze X X (fun _ hC => (r_load_cur1 (j := 0) (hC.block (st30.get (k := 0) X)) hc44 X X X Tryz.isAgg9))<|ze X X (fun _ _ => (r_sneq X X))<|zac ?_
     rintro w49 ⟨h50, s51⟩
     have st52 := st30.call0 s51
     refine M ?_
     refine zt rfl (fun c53 => ?_) (fun c53 => ?_)
     ·
      replace c53 := of_decide_eq_true c53
      refine zd<|O<|Y X X (zy (v := s_v) X)<|Y X X (zo X)<|Y X X (zy (v := (vdrop 1 s_v (k))) X)<|Y X X (zo X) ?_
      obtain ⟨b54, o55, cur56, _, e59, he57, hr_y2, hc58⟩ := OSl.elem (hO_0.up s51.le) hy2
      obtain ⟨hb60, hc61⟩ : b33 = b54 ∧ cur35 = cur56 := by cases e59; exact ⟨rfl, rfl⟩
      subst hb60
      subst hc61
      obtain ⟨rfl, ls62⟩ := hr_y2
      simp only [big] at ls62
      refine Y rfl rfl (zp (Elem.drop' (k := k) (j := k2) he57 (by omega) (OSl.caps (hO_0.up s51.le))) rfl rfl (hk := rfl) (hu := Tryz.underlying33) (hz := Tryz.sizeOf9)) ?_
      refine Y X X (r_load_cur1 (j := 0) (st52.get (k := 0) X) hc58 X X X Tryz.isAgg9) ?_
      have hu2 : ∃ y_, (ys)[i]? = some y_ := ⟨_, List.getElem?_eq_getElem (by omega)⟩
      obtain ⟨u2, hu2⟩ := hu2
      obtain ⟨b63, o64, cur65, _, e68, he66, hr_u2, hc67⟩ := OSl.elem (hO_0.up s51.le) hu2
      obtain ⟨hb69, hc70⟩ : b33 = b63 ∧ cur35 = cur65 := by cases e68; exact ⟨rfl, rfl⟩
      subst hb69
      subst hc70
      obtain ⟨rfl, ls71⟩ := hr_u2
      simp only [big] at ls71
      refine Y rfl rfl (zp he66 rfl rfl (hk := (show _ = ((i : Nat) : Int) by omega)) (hu := Tryz.underlying33) (hz := Tryz.sizeOf9)) ?_
      refine OpsL.storeEl1 (k := 0) st52 (hO_0.up s51.le) rfl (by omega) he66 rfl rfl (⟨rfl, zZ⟩) Tryz.sizeOf9 ?_
      intro o72 w73 _ e74 f75 st76
      subst e74
      refine U<|M<|O<|Y X X (zo X)<|Y X X (zah X X t_om)<|Y X X (zx X)<|U<|zI<|M<|O<|Y X X (zo X)<|Y X X (zah X X t_om)<|Y X X (zx X)<|U<|M ?_
      refine ⟨⟨i + 1, k2 + 1, (ys.set i y2), o72, h50⟩, ⟨rfl, rfl, trivial⟩, ?_, ⟨(le29.trans s51.le), st76, ?_, ?_, ?_⟩, ?_⟩
      ·exact zae
      ·refine OSl.to f75 ?_
       rfl
      ·refine ⟨by omega, by omega, by first | (rw [List.length_set]; omega) | omega, by omega⟩
      ·exact hD.keep hy2 hz2 (by simpa using c53)
      ·show s.length - (k + ((k2 + 1))) < s.length - (k + k2)
       omega
     ·
      replace c53 := of_decide_eq_false c53
      refine zz<|zI<|M<|O<|Y X X (zo X)<|Y X X (zah X X t_om)<|Y X X (zx X)<|U<|M ?_
      refine ⟨⟨i, k2 + 1, ys, [(b33, .cells cur35 9)], h50⟩, ⟨rfl, rfl, trivial⟩, ?_, ⟨(le29.trans s51.le), st52, ?_, ?_, ?_⟩, ?_⟩
      ·exact zae
      ·refine OSl.to (hO_0.up s51.le) ?_
       rfl
      ·refine ⟨by omega, by omega, by first | (rw [List.length_set]; omega) | omega, by omega⟩
      ·exact hD.skip hy2 hz2 (by simpa using c53)
      ·show s.length - (k + ((k2 + 1))) < s.length - (k + k2)
       omega
    ·
     replace c32 := of_decide_eq_false c32
     refine zab<|zn<|zn<|zT<|M<|zd<|O<|Y X X (zy (v := s_v) X)<|Y X X (zo X) ?_
     refine Y rfl rfl (r_slice_from_own hO_0 rfl rfl (hk := (show _ = ((i : Nat) : Int) by omega)) (by omega) Tryz.underlying33 Tryz.sizeOf9) ?_
     refine OpsL.clearTail (k := 0) (j := i) st30 hO_0 rfl (by omega) rfl Tryz.underlying33 Tryz.zeroValue9 rfl (by decide) ?_
     intro o77 w78 _ e79 f80 st81
     subst e79
     refine U<|M<|zd<|O<|Y X X (zy (v := s_v) X)<|Y X X (zo X) ?_
     refine Y rfl rfl (r_slice_to_own hO_0 rfl rfl (hk := (show _ = ((i : Nat) : Int) by omega)) (by omega) Tryz.underlying33 Tryz.sizeOf9) ?_
     refine Y X X (zD (v := (vtake s_v (i))) X)<|U<|M<|zA<|zL<|zk<|zk<|zL<|zk<|zi Tryz.results58 ?_
     refine ⟨h28, _, _, rfl, ((le3.trans s25.le).trans le29), st81, OSl.to f80 ?_⟩
     exact hD.fin (by omega)
   ·
    replace c27 := of_decide_eq_false c27
    refine zz<|zI<|M<|O<|Y X X (zo X)<|Y X X (zah X X t_om)<|Y X X (zx X)<|U<|M ?_
    refine ⟨⟨k + 1, [(b7, .cells cur9 9)], h24⟩, ⟨rfl, trivial⟩, ?_, ⟨(le3.trans s25.le), st26, ?_, ?_, ?_⟩, ?_⟩
    ·exact zae
    ·refine OSl.to (hO_0.up s25.le) ?_
     rfl
    ·exact ⟨by omega, by omega⟩
    ·exact comp_more hz hy hk.1 hc (by simpa using c27)
    ·show s.length - ((k + 1)) < s.length - k
     omega
  ·
   replace c6 := of_decide_eq_false c6
   refine zab<|zn<|zn<|zT<|M<|zd<|O<|Y X X (zy (v := s_v) X)<|Y X X (zD (v := s_v) X)<|U<|M<|zA<|zi Tryz.results58 ?_
   refine ⟨h2, _, _, rfl, le3, st4, OSl.to hO_0 ?_⟩
   rw [List.take_of_length_le (by omega)] at hc; exact hc.symm
end Go.Pk

namespace Go.Pk
open Go Go.RowKit Go.Proofs
set_option maxRecDepth 4000 in
theorem c_postilref04_added {h : Heap} {w : World} (hs : Sub h w) {l_v : Value} {l : (List Str)} (l_f : Sl LStr h l_v l) (s : Str) (s_le : s.length ≤ 281474976710656) (hl : l.length ≤ 400000) : Calls Tryz.prog 62 #[l_v, strV s] w (Rets h w (fun h' _ res_ => ∃ u0, res_ = u0 ∧ Sl LStr h' u0 ((insBy sLt l s)))) := by
 refine zM (n := 45) (args := [l_v, strV s]) Tryz.func62 X X X ?_
 have st0 : St h w h w [] := St.start hs
 have l_f_b := l_f.le
 refine zd<|O<|Y X X (r_asL X)<|U<|M<|zd<|O<|Y X X (zx X)<|U<|M<|zd<|zF ?_
 refine zX [5, 6, 7, 8, 9, 10, 11, 12, 13, 14, 15, 16, 17, 18, 19] (G := Nat × Heap) (fun ⟨k, h1⟩ => [(5, .int .i64 (k : Int))]) (fun ⟨k, h1⟩ w' => Le h h1 ∧ St h w h1 w' [] ∧ (k ≤ l.length) ∧ (∀ j y0, j < k → l[j]? = some y0 → sLt y0 s = true)) (fun ⟨k, h1⟩ => l.length - k) ⟨0, h⟩ ⟨rfl, trivial⟩ ⟨Le.refl _, st0, zak, (by intro j _ hj; omega)⟩ ?_
 rintro ⟨k, h1⟩ _ w4 ⟨le2, st3, hk, hb⟩
 refine zd<|zd<|O<|Y X X (zo X)<|Y X X (zy (v := l_v) X)<|Y X X (zag (l_f.up le2) X Tryz.underlying33)<|Y X X (zal X X)<|Y X X (zN X) ?_
 refine zG (d := 10) rfl (fun g5 => ?_) (fun g5 => ?_)
 ·
  replace g5 := of_decide_eq_true g5
  refine za X X (d := 10) X<|Y X X (zy (v := l_v) X)<|za X X (d := 10) X<|Y X X (zo X)<|za X X (d := 10) X ?_
  have hy : ∃ y_, (l)[k]? = some y_ := ⟨_, List.getElem?_eq_getElem (by omega)⟩
  obtain ⟨y, hy⟩ := hy
  obtain ⟨b6, o7, _, he9, hc8, hr_y⟩ := Sl.elem (l_f.up le2) hy
  obtain ⟨rfl, ls10⟩ := hr_y
  simp only [big] at ls10
  refine Y X X (zp he9 X X (hk := X) (hu := Tryz.underlying33) (hz := Tryz.sizeOf9))<|za X X (d := 10) X<|Y X X (zb (j := 0) st3.sub hc8 X X X Tryz.isAgg9)<|za X X (d := 10) X<|Y X X (r_mvS X)<|za X X (d := 10) X<|Y X X (r_slss X X)<|Y X X (zK (v := (.bool _)) X X)<|U<|M ?_
  refine zt rfl (fun c11 => ?_) (fun c11 => ?_)
  ·
   refine zz<|M<|zF<|O<|Y X X (zo X)<|Y X X (zah X X t_om)<|Y X X (zx X)<|U<|zI<|M ?_
   refine ⟨⟨k + 1, h1⟩, ⟨rfl, trivial⟩, ?_, ⟨le2, st3, ?_, ?_⟩, ?_⟩
   ·exact zae
   ·first | omega | (simp; omega)
   ·intro j y0 hj h0
    rcases Nat.lt_or_ge j k with q | q
    ·exact hb j y0 q h0
    ·obtain rfl : j = k := by omega
     rw [hy] at h0; cases h0; simpa [sLt] using c11
   ·show l.length - ((k + 1)) < l.length - k
    omega
  ·
   refine zab<|zn<|zn<|zT<|M<|zd<|zd ?_
   have h2 : ∀ y0, (l)[k]? = some y0 → sLt y0 s = false := by
    intro y0 h0
    first
     | (exfalso; have := (List.getElem?_eq_some_iff.1 h0).1; omega)
     | (rw [hy] at h0; cases h0; first | assumption | (simp_all [sLt]; done) | (simp_all; done))
   refine O<|Y X X (zo X)<|Y X X (zy (v := l_v) X)<|Y X X (zag (l_f.up le2) X Tryz.underlying33)<|Y X X (zal X X)<|Y X X (zN X) ?_
   refine zG (d := 24) rfl (fun g12 => ?_) (fun g12 => ?_)
   ·
    replace g12 := of_decide_eq_true g12
    refine za X X (d := 24) X<|Y X X (zy (v := l_v) X)<|za X X (d := 24) X<|Y X X (zo X)<|za X X (d := 24) X<|Y X X (zp he9 X X (hk := X) (hu := Tryz.underlying33) (hz := Tryz.sizeOf9))<|za X X (d := 24) X<|Y X X (zb (j := 0) st3.sub hc8 X X X Tryz.isAgg9)<|za X X (d := 24) X<|Y X X (r_mvS X)<|za X X (d := 24) X<|Y X X (r_seql X X)<|Y X X (zK (v := (.bool _)) X X)<|U<|M ?_
    refine zt rfl (fun c13 => ?_) (fun c13 => ?_)
    ·
     replace c13 := of_decide_eq_true c13
     refine zd<|O<|Y X X (zy (v := l_v) X)<|Y X X (zD (v := l_v) X)<|U<|M<|zA<|zk<|zi Tryz.results62 ?_
     refine ⟨h1, _, rfl, st3.done, ?_⟩
     refine ⟨_, rfl, Sl.to (l_f.up le2) ?_⟩
     first | exact (insBy_old hb h2 (by simp_all)).symm | exact (insBy_new hb h2 (by simp_all)).symm | (rw [insBy_new hb h2 (by first | simp_all | (intro q; have := (List.getElem?_eq_some_iff.1 q).1; omega))]; simp)
    ·
     replace c13 := of_decide_eq_false c13
     refine zz<|M<|zd ?_
     have f14 := Sl.take l_f (k := k) (by omega)
     have f15 := Sl.drop l_f (k := k) (by omega)
     refine zaa (er := ([], [], [], [], 0)) (dsts := [33, 34, 35, 36, 37, 38, 39, 40, 41, 42, 43, 44, 4]) st3 Tryz.mixed ?_
     refine zQ 0 (.res (fun _ res_ => ∃ p, res_ = .slice p 0 0) (fun _ _ _ _ f => f)) [] rfl t_kr t_kr ?_ ?_
     ·
      intro hD wD τD hL hS hO 
      have st16 := St.start hS
      refine OpsL.sliceZ st16 X ⟨_, Tryz.sizeOf9⟩ Tryz.underlying33 ?_
      intro v17 w18 f19 st20
      exact U ⟨_, _, rfl, st20, _, rfl, f19⟩
     refine zh 1 [] X t_kr t_kr X X (fun hD wD τD hL hS hO  => (zy (v := l_v) X))<|zh 2 [] X t_kr t_kr X X (fun hD wD τD hL hS hO  => (zo X)) ?_
     refine zh 3 [1, 0] rfl t_kr t_kr rfl rfl (fun hD wD τD hL hS hO _ _ _ _ => (r_slice_to_sl (l_f.up le2) rfl rfl (hk := rfl) (by omega) Tryz.underlying33 Tryz.sizeOf9)) ?_
     refine zaf<|zh 5 [] X t_kr t_kr X X (fun hD wD τD hL hS hO  => (r_mvS X)) ?_
     refine zQ 6 (.res (fun h' res_ => Sl LStr h' res_ ([s])) (fun _ _ _ hl f => f.up hl)) [0] rfl t_kr t_kr ?_ ?_
     ·
      intro hD wD τD hL hS hO _ _
      have st21 := St.start hS
      refine zV (L := LStr) (xs := [s]) (cs := [strV s]) st21 (Enc.cons (L := LStr) (vs := [strV s]) (x := s) (h := hD) (⟨rfl, zZ⟩) Enc.nil) X X X Tryz.underlying33 Tryz.info9 X X X t_kr ?_
      intro v22 w23 h26 le27 f24 st25
      exact U ⟨_, _, rfl, st25, _, rfl, f24⟩
     refine zaf<|zh 8 [] X t_kr t_kr X X (fun hD wD τD hL hS hO  => (zy (v := l_v) X))<|zh 9 [] X t_kr t_kr X X (fun hD wD τD hL hS hO  => (zo X)) ?_
     refine zh 10 [1, 0] rfl t_kr t_kr rfl rfl (fun hD wD τD hL hS hO _ _ _ _ => (r_slice_from_sl (l_f.up le2) rfl rfl (hk := rfl) (by omega) Tryz.underlying33 Tryz.sizeOf9)) ?_
     refine zaf<|zaf<|zan X X X X X X ⟨t_kr, X, t_kr, X, t_kr, X, X, t_kr, (zY X (zY X (zY X (zY X cx_nil))))⟩ ?_
     intro hE29 w30 _ le31 st32 gv0_x28 gf0_x28 _ _
     have st33 := st32.snoc
     have f34 := OSl.nil LStr 9 hE29
     have f35 := OSl.nil0 LStr 9 hE29 gf0_x28
     refine zP (k := 0) (nb := 16) st33 f35 rfl (f14.up (le2.trans le31)) rfl rfl rfl Tryz.underlying33 Tryz.info9 rfl rfl rfl (by decide) rfl t_len t_len ?_
     intro v36 o37 w38 _ e39 f40 st41
     subst e39
     refine U ⟨_, rfl, _, _, Le.refl _, st41, ?_⟩
     intro hE43 w44 _ le45 st46 gv6_0x42 gf6_0x42
     refine zP (k := 0) (nb := 16) st46 (f40.up le45) rfl gf6_0x42 rfl rfl rfl Tryz.underlying33 Tryz.info9 rfl rfl rfl (by decide) rfl t_len t_len ?_
     intro v47 o48 w49 _ e50 f51 st52
     subst e50
     refine U ⟨_, rfl, _, _, Le.refl _, st52, ?_⟩
     intro hE54 w55 _ le56 st57 _ _
     refine zP (k := 0) (nb := 16) st57 (f51.up le56) rfl (f15.up (((le2.trans le31).trans le45).trans le56)) rfl rfl rfl Tryz.underlying33 Tryz.info9 rfl rfl rfl (by decide) rfl t_len t_len ?_
     intro v58 o59 w60 _ e61 f62 st63
     subst e61
     refine U ⟨_, rfl, _, _, Le.refl _, st63, ?_⟩
     intro hE65 w66 _ le67 st68 gv0_x64 gf0_x64 _ _ _ _ _ _ _ _ gv6_0x64 gf6_0x64 _ _ _ _ _ _
     refine Y X X (zD (v := v58) X) ?_
     refine U ⟨_, rfl, _, _, Le.refl _, st68, ?_⟩
     intro hE69 w70 _ le71 st72 gv0_x73 gf0_x73 _ _ _ _ _ _ _ _ gv6_0x73 gf6_0x73 _ _ _ _ _ _
     refine AllDeps.fin X<|M<|zA<|zi Tryz.results62 ?_
     obtain ⟨h74, le75, f76, st77⟩ := OSl.freeze (k := 0) st72 (f62.up (le67.trans le71)) rfl t_len
     refine ⟨h74, _, rfl, st77.done, ?_⟩
     refine ⟨_, rfl, Sl.to f76 ?_⟩
     first | exact (insBy_old hb h2 (by simp_all)).symm | exact (insBy_new hb h2 (by simp_all)).symm | (rw [insBy_new hb h2 (by first | simp_all | (intro q; have := (List.getElem?_eq_some_iff.1 q).1; omega))]; simp)
   ·
    replace g12 := of_decide_eq_false g12
    refine E X X (d := 24) X X X<|E X X (d := 24) X X X<|E X X (d := 24) X X X<|E X X (d := 24) X X X<|E X X (d := 24) X X X<|E X X (d := 24) X X X<|Y X X (zC (v := (.bool _)) X X)<|U<|M ?_
    refine zt rfl (fun c78 => ?_) (fun c78 => ?_)
    ·
     cases c78
    ·
     refine zz<|M<|zd ?_
     have f79 := Sl.take l_f (k := k) (by omega)
     have f80 := Sl.drop l_f (k := k) (by omega)
     refine zaa (er := ([], [], [], [], 0)) (dsts := [33, 34, 35, 36, 37, 38, 39, 40, 41, 42, 43, 44, 4]) st3 Tryz.mixed ?_
     refine zQ 0 (.res (fun _ res_ => ∃ p, res_ = .slice p 0 0) (fun _ _ _ _ f => f)) [] rfl t_kr t_kr ?_ ?_
     ·
      intro hD wD τD hL hS hO 
      have st81 := St.start hS
      refine OpsL.sliceZ st81 X ⟨_, Tryz.sizeOf9⟩ Tryz.underlying33 ?_
      intro v82 w83 f84 st85
      exact U ⟨_, _, rfl, st85, _, rfl, f84⟩
     refine zh 1 [] X t_kr t_kr X X (fun hD wD τD hL hS hO  => (zy (v := l_v) X))<|zh 2 [] X t_kr t_kr X X (fun hD wD τD hL hS hO  => (zo X)) ?_
     refine zh 3 [1, 0] rfl t_kr t_kr rfl rfl (fun hD wD τD hL hS hO _ _ _ _ => (r_slice_to_sl (l_f.up le2) rfl rfl (hk := rfl) (by omega) Tryz.underlying33 Tryz.sizeOf9)) ?_
     refine zaf<|zh 5 [] X t_kr t_kr X X (fun hD wD τD hL hS hO  => (r_mvS X)) ?_
     refine zQ 6 (.res (fun h' res_ => Sl LStr h' res_ ([s])) (fun _ _ _ hl f => f.up hl)) [0] rfl t_kr t_kr ?_ ?_
     ·
      intro hD wD τD hL hS hO _ _
      have st86 := St.start hS
      refine zV (L := LStr) (xs := [s]) (cs := [strV s]) st86 (Enc.cons (L := LStr) (vs := [strV s]) (x := s) (h := hD) (⟨rfl, zZ⟩) Enc.nil) X X X Tryz.underlying33 Tryz.info9 X X X t_kr ?_
      intro v87 w88 h91 le92 f89 st90
      exact U ⟨_, _, rfl, st90, _, rfl, f89⟩
     refine zaf<|zh 8 [] X t_kr t_kr X X (fun hD wD τD hL hS hO  => (zy (v := l_v) X))<|zh 9 [] X t_kr t_kr X X (fun hD wD τD hL hS hO  => (zo X)) ?_
     refine zh 10 [1, 0] rfl t_kr t_kr rfl rfl (fun hD wD τD hL hS hO _ _ _ _ => (r_slice_from_sl (l_f.up le2) rfl rfl (hk := rfl) (by omega) Tryz.underlying33 Tryz.sizeOf9)) ?_
     refine zaf<|zaf<|zan X X X X X X ⟨t_kr, X, t_kr, X, t_kr, X, X, t_kr, (zY X (zY X (zY X (zY X cx_nil))))⟩ ?_
     intro hE94 w95 _ le96 st97 gv0_x93 gf0_x93 _ _
     have st98 := st97.snoc
     have f99 := OSl.nil LStr 9 hE94
     have f100 := OSl.nil0 LStr 9 hE94 gf0_x93
     refine zP (k := 0) (nb := 16) st98 f100 rfl (f79.up (le2.trans le96)) rfl rfl rfl Tryz.underlying33 Tryz.info9 rfl rfl rfl (by decide) rfl t_len t_len ?_
     intro v101 o102 w103 _ e104 f105 st106
     subst e104
     refine U ⟨_, rfl, _, _, Le.refl _, st106, ?_⟩
     intro hE108 w109 _ le110 st111 gv6_0x107 gf6_0x107
     refine zP (k := 0) (nb := 16) st111 (f105.up le110) rfl gf6_0x107 rfl rfl rfl Tryz.underlying33 Tryz.info9 rfl rfl rfl (by decide) rfl t_len t_len ?_
     intro v112 o113 w114 _ e115 f116 st117
     subst e115
     refine U ⟨_, rfl, _, _, Le.refl _, st117, ?_⟩
     intro hE119 w120 _ le121 st122 _ _
     refine zP (k := 0) (nb := 16) st122 (f116.up le121) rfl (f80.up (((le2.trans le96).trans le110).trans le121)) rfl rfl rfl Tryz.underlying33 Tryz.info9 rfl rfl rfl (by decide) rfl t_len t_len ?_
     intro v123 o124 w125 _ e126 f127 st128
     subst e126
     refine U ⟨_, rfl, _, _, Le.refl _, st128, ?_⟩
     intro hE130 w131 _ le132 st133 gv0_x129 gf0_x129 _ _ _ _ _ _ _ _ gv6_0x129 gf6_0x129 _ _ _ _ _ _
     refine Y X X (zD (v := v123) X) ?_
     refine U ⟨_, rfl, _, _, Le.refl _, st133, ?_⟩
     intro hE134 w135 _ le136 st137 gv0_x138 gf0_x138 _ _ _ _ _ _ _ _ gv6_0x138 gf6_0x138 _ _ _ _ _ _
     refine AllDeps.fin X<|M<|zA<|zi Tryz.results62 ?_
     obtain ⟨h139, le140, f141, st142⟩ := OSl.freeze (k := 0) st137 (f127.up (le132.trans le136)) rfl t_len
     refine ⟨h139, _, rfl, st142.done, ?_⟩
     refine ⟨_, rfl, Sl.to f141 ?_⟩
     first | exact (insBy_old hb h2 (by simp_all)).symm | exact (insBy_new hb h2 (by simp_all)).symm | (rw [insBy_new hb h2 (by first | simp_all | (intro q; have := (List.getElem?_eq_some_iff.1 q).1; omega))]; simp)
 ·
  replace g5 := of_decide_eq_false g5
  refine E X X (d := 10) X X X<|E X X (d := 10) X X X<|E X X (d := 10) X X X<|E X X (d := 10) X X X<|E X X (d := 10) X X X<|E X X (d := 10) X X X<|Y X X (zC (v := (.bool _)) X X)<|U<|M ?_
  refine zt rfl (fun c143 => ?_) (fun c143 => ?_)
  ·
   cases c143
  ·
   refine zab<|zn<|zn<|zT<|M<|zd<|zd ?_
   have h2 : ∀ y0, (l)[k]? = some y0 → sLt y0 s = false := by
    intro y0 h0
    first
     | (exfalso; have := (List.getElem?_eq_some_iff.1 h0).1; omega)
     | (rw [hy] at h0; cases h0; first | assumption | (simp_all [sLt]; done) | (simp_all; done))
   refine O<|Y X X (zo X)<|Y X X (zy (v := l_v) X)<|Y X X (zag (l_f.up le2) X Tryz.underlying33)<|Y X X (zal X X)<|Y X X (zN X) ?_
   refine zG (d := 24) rfl (fun g144 => ?_) (fun g144 => ?_)
   ·
    replace g144 := of_decide_eq_true g144
    refine za X X (d := 24) X<|Y X X (zy (v := l_v) X)<|za X X (d := 24) X<|Y X X (zo X)<|za X X (d := 24) X ?_
    have hy : ∃ y_, (l)[k]? = some y_ := ⟨_, List.getElem?_eq_getElem (by omega)⟩
    obtain ⟨y, hy⟩ := hy
    obtain ⟨b145, o146, _, he148, hc147, hr_y⟩ := Sl.elem (l_f.up le2) hy
    obtain ⟨rfl, ls149⟩ := hr_y
    simp only [big] at ls149
    refine Y X X (zp he148 X X (hk := X) (hu := Tryz.underlying33) (hz := Tryz.sizeOf9))<|za X X (d := 24) X<|Y X X (zb (j := 0) st3.sub hc147 X X X Tryz.isAgg9)<|za X X (d := 24) X<|Y X X (r_mvS X)<|za X X (d := 24) X<|Y X X (r_seql X X)<|Y X X (zK (v := (.bool _)) X X)<|U<|M ?_
    refine zt rfl (fun c150 => ?_) (fun c150 => ?_)
    ·
     replace c150 := of_decide_eq_true c150
     refine zd<|O<|Y X X (zy (v := l_v) X)<|Y X X (zD (v := l_v) X)<|U<|M<|zA<|zk<|zi Tryz.results62 ?_
     refine ⟨h1, _, rfl, st3.done, ?_⟩
     refine ⟨_, rfl, Sl.to (l_f.up le2) ?_⟩
     first | exact (insBy_old hb h2 (by simp_all)).symm | exact (insBy_new hb h2 (by simp_all)).symm | (rw [insBy_new hb h2 (by first | simp_all | (intro q; have := (List.getElem?_eq_some_iff.1 q).1; omega))]; simp)
    ·
     replace c150 := of_decide_eq_false c150
     refine zz<|M<|zd ?_
     have f151 := Sl.take l_f (k := k) (by omega)
     have f152 := Sl.drop l_f (k := k) (by omega)
     refine zaa (er := ([], [], [], [], 0)) (dsts := [33, 34, 35, 36, 37, 38, 39, 40, 41, 42, 43, 44, 4]) st3 Tryz.mixed ?_
     refine zQ 0 (.res (fun _ res_ => ∃ p, res_ = .slice p 0 0) (fun _ _ _ _ f => f)) [] rfl t_kr t_kr ?_ ?_
     ·
      intro hD wD τD hL hS hO 
      have st153 := St.start hS
      refine OpsL.sliceZ st153 X ⟨_, Tryz.sizeOf9⟩ Tryz.underlying33 ?_
      intro v154 w155 f156 st157
      exact U ⟨_, _, rfl, st157, _, rfl, f156⟩
     refine zh 1 [] X t_kr t_kr X X (fun hD wD τD hL hS hO  => (zy (v := l_v) X))<|zh 2 [] X t_kr t_kr X X (fun hD wD τD hL hS hO  => (zo X)) ?_
     refine zh 3 [1, 0] rfl t_kr t_kr rfl rfl (fun hD wD τD hL hS hO _ _ _ _ => (r_slice_to_sl (l_f.up le2) rfl rfl (hk := rfl) (by omega) Tryz.underlying33 Tryz.sizeOf9)) ?_
     refine zaf<|zh 5 [] X t_kr t_kr X X (fun hD wD τD hL hS hO  => (r_mvS X)) ?_
     refine zQ 6 (.res (fun h' res_ => Sl LStr h' res_ ([s])) (fun _ _ _ hl f => f.up hl)) [0] rfl t_kr t_kr ?_ ?_
     ·
      intro hD wD τD hL hS hO _ _
      have st158 := St.start hS
      refine zV (L := LStr) (xs := [s]) (cs := [strV s]) st158 (Enc.cons (L := LStr) (vs := [strV s]) (x := s) (h := hD) (⟨rfl, zZ⟩) Enc.nil) X X X Tryz.underlying33 Tryz.info9 X X X t_kr ?_
      intro v159 w160 h163 le164 f161 st162
      exact U ⟨_, _, rfl, st162, _, rfl, f161⟩
     refine zaf<|zh 8 [] X t_kr t_kr X X (fun hD wD τD hL hS hO  => (zy (v := l_v) X))<|zh 9 [] X t_kr t_kr X X (fun hD wD τD hL hS hO  => (zo X)) ?_
     refine zh 10 [1, 0] rfl t_kr t_kr rfl rfl (fun hD wD τD hL hS hO _ _ _ _ => (r_slice_from_sl (l_f.up le2) rfl rfl (hk := rfl) (by omega) Tryz.underlying33 Tryz.sizeOf9)) ?_
     refine zaf<|zaf<|zan X X X X X X ⟨t_kr, X, t_kr, X, t_kr, X, X, t_kr, (zY X (zY X (zY X (zY X cx_nil))))⟩ ?_
     intro hE166 w167 _ le168 st169 gv0_x165 gf0_x165 _ _
     have st170 := st169.snoc
     have f171 := OSl.nil LStr 9 hE166
     have f172 := OSl.nil0 LStr 9 hE166 gf0_x165
     refine zP (k := 0) (nb := 16) st170 f172 rfl (f151.up (le2.trans le168)) rfl rfl rfl Tryz.underlying33 Tryz.info9 rfl rfl rfl (by decide) rfl t_len t_len ?_
     intro v173 o174 w175 _ e176 f177 st178
     subst e176
     refine U ⟨_, rfl, _, _, Le.refl _, st178, ?_⟩
     intro hE180 w181 _ le182 st183 gv6_0x179 gf6_0x179
     refine zP (k := 0) (nb := 16) st183 (f177.up le182) rfl gf6_0x179 rfl rfl rfl Tryz.underlying33 Tryz.info9 rfl rfl rfl (by decide) rfl t_len t_len ?_
     intro v184 o185 w186 _ e187 f188 st189
     subst e187
     refine U ⟨_, rfl, _, _, Le.refl _, st189, ?_⟩
     intro hE191 w192 _ le193 st194 _ _
     refine zP (k := 0) (nb := 16) st194 (f188.up le193) rfl (f152.up (((le2.trans le168).trans le182).trans le193)) rfl rfl rfl Tryz.underlying33 Tryz.info9 rfl rfl rfl (by decide) rfl t_len t_len ?_
     intro v195 o196 w197 _ e198 f199 st200
     subst e198
     refine U ⟨_, rfl, _, _, Le.refl _, st200, ?_⟩
     intro hE202 w203 _ le204 st205 gv0_x201 gf0_x201 _ _ _ _ _ _ _ _ gv6_0x201 gf6_0x201 _ _ _ _ _ _
     refine Y X X (zD (v := v195) X) ?_
     refine U ⟨_, rfl, _, _, Le.refl _, st205, ?_⟩
     intro hE206 w207 _ le208 st209 gv0_x210 gf0_x210 _ _ _ _ _ _ _ _ gv6_0x210 gf6_0x210 _ _ _ _ _ _
     refine AllDeps.fin X<|M<|zA<|zi Tryz.results62 ?_
     obtain ⟨h211, le212, f213, st214⟩ := OSl.freeze (k := 0) st209 (f199.up (le204.trans le208)) rfl t_len
     refine ⟨h211, _, rfl, st214.done, ?_⟩
     refine ⟨_, rfl, Sl.to f213 ?_⟩
     first | exact (insBy_old hb h2 (by simp_all)).symm | exact (insBy_new hb h2 (by simp_all)).symm | (rw [insBy_new hb h2 (by first | simp_all | (intro q; have := (List.getElem?_eq_some_iff.1 q).1; omega))]; simp)
   ·
    replace g144 := of_decide_eq_false g144
    refine E X X (d := 24) X X X<|E X X (d := 24) X X X<|E X X (d := 24) X X X<|E X X (d := 24) X X X<|E X X (d := 24) X X X<|E X X (d := 24) X X X<|Y X X (zC (v := (.bool _)) X X)<|U<|M ?_
    refine zt rfl (fun c215 => ?_) (fun c215 => ?_)
    ·
     cases c215
    ·
     refine zz<|M<|zd ?_
     have f216 := Sl.take l_f (k := k) (by omega)
     have f217 := Sl.drop l_f (k := k) (by omega)
     refine zaa (er := ([], [], [], [], 0)) (dsts := [33, 34, 35, 36, 37, 38, 39, 40, 41, 42, 43, 44, 4]) st3 Tryz.mixed ?_
     refine zQ 0 (.res (fun _ res_ => ∃ p, res_ = .slice p 0 0) (fun _ _ _ _ f => f)) [] rfl t_kr t_kr ?_ ?_
     ·
      intro hD wD τD hL hS hO 
      have st218 := St.start hS
      refine OpsL.sliceZ st218 X ⟨_, Tryz.sizeOf9⟩ Tryz.underlying33 ?_
      intro v219 w220 f221 st222
      exact U ⟨_, _, rfl, st222, _, rfl, f221⟩
     refine zh 1 [] X t_kr t_kr X X (fun hD wD τD hL hS hO  => (zy (v := l_v) X))<|zh 2 [] X t_kr t_kr X X (fun hD wD τD hL hS hO  => (zo X)) ?_
     refine zh 3 [1, 0] rfl t_kr t_kr rfl rfl (fun hD wD τD hL hS hO _ _ _ _ => (r_slice_to_sl (l_f.up le2) rfl rfl (hk := rfl) (by omega) Tryz.underlying33 Tryz.sizeOf9)) ?_
     refine zaf<|zh 5 [] X t_kr t_kr X X (fun hD wD τD hL hS hO  => (r_mvS X)) ?_
     refine zQ 6 (.res (fun h' res_ => Sl LStr h' res_ ([s])) (fun _ _ _ hl f => f.up hl)) [0] rfl t_kr t_kr ?_ ?_
     ·
      intro hD wD τD hL hS hO _ _
      have st223 := St.start hS
      refine zV (L := LStr) (xs := [s]) (cs := [strV s]) st223 (Enc.cons (L := LStr) (vs := [strV s]) (x := s) (h := hD) (⟨rfl, zZ⟩) Enc.nil) X X X Tryz.underlying33 Tryz.info9 X X X t_kr ?_
      intro v224 w225 h228 le229 f226 st227
      exact U ⟨_, _, rfl, st227, _, rfl, f226⟩
     refine zaf<|zh 8 [] X t_kr t_kr X X (fun hD wD τD hL hS hO  => (zy (v := l_v) X))<|zh 9 [] X t_kr t_kr X X (fun hD wD τD hL hS hO  => (zo X)) ?_
     refine zh 10 [1, 0] rfl t_kr t_kr rfl rfl (fun hD wD τD hL hS hO _ _ _ _ => (r_slice_from_sl (l_f.up le2) rfl rfl (hk := rfl) (by omega) Tryz.underlying33 Tryz.sizeOf9)) ?_
     refine zaf<|zaf<|zan X X X X X X ⟨t_kr, X, t_kr, X, t_kr, X, X, t_kr, (zY X (zY X (zY X (zY X cx_nil))))⟩ ?_
     intro hE231 w232 _ le233 st234 gv0_x230 gf0_x230 _ _
     have st235 := st234.snoc
     have f236 := OSl.nil LStr 9 hE231
     have f237 := OSl.nil0 LStr 9 hE231 gf0_x230
     refine zP (k := 0) (nb := 16) st235 f237 rfl (f216.up (le2.trans le233)) rfl rfl rfl Tryz.underlying33 Tryz.info9 rfl rfl rfl (by decide) rfl t_len t_len ?_
     intro v238 o239 w240 _ e241 f242 st243
     subst e241
     refine U ⟨_, rfl, _, _, Le.refl _, st243, ?_⟩
     intro hE245 w246 _ le247 st248 gv6_0x244 gf6_0x244
     refine zP (k := 0) (nb := 16) st248 (f242.up le247) rfl gf6_0x244 rfl rfl rfl Tryz.underlying33 Tryz.info9 rfl rfl rfl (by decide) rfl t_len t_len ?_
     intro v249 o250 w251 _ e252 f253 st254
     subst e252
     refine U ⟨_, rfl, _, _, Le.refl _, st254, ?_⟩
     intro hE256 w257 _ le258 st259 _ _
     refine zP (k := 0) (nb := 16) st259 (f253.up le258) rfl (f217.up (((le2.trans le233).trans le247).trans le258)) rfl rfl rfl Tryz.underlying33 Tryz.info9 rfl rfl rfl (by decide) rfl t_len t_len ?_
     intro v260 o261 w262 _ e263 f264 st265
     subst e263
     refine U ⟨_, rfl, _, _, Le.refl _, st265, ?_⟩
     intro hE267 w268 _ le269 st270 gv0_x266 gf0_x266 _ _ _ _ _ _ _ _ gv6_0x266 gf6_0x266 _ _ _ _ _ _
     refine Y X X (zD (v := v260) X) ?_
     refine U ⟨_, rfl, _, _, Le.refl _, st270, ?_⟩
     intro hE271 w272 _ le273 st274 gv0_x275 gf0_x275 _ _ _ _ _ _ _ _ gv6_0x275 gf6_0x275 _ _ _ _ _ _
     refine AllDeps.fin X<|M<|zA<|zi Tryz.results62 ?_
     obtain ⟨h276, le277, f278, st279⟩ := OSl.freeze (k := 0) st274 (f264.up (le269.trans le273)) rfl t_len
     refine ⟨h276, _, rfl, st279.done, ?_⟩
     refine ⟨_, rfl, Sl.to f278 ?_⟩
     first | exact (insBy_old hb h2 (by simp_all)).symm | exact (insBy_new hb h2 (by simp_all)).symm | (rw [insBy_new hb h2 (by first | simp_all | (intro q; have := (List.getElem?_eq_some_iff.1 q).1; omega))]; simp)
set_option maxRecDepth 4000 in
theorem c_postilref04_Under {h : Heap} {w : World} (hs : Sub h w) {t : Text} {t_v0 : Value} (t_f0 : Sl LChapter h t_v0 t.chapters) {x : Lexicon} {x_v0 : Value} (x_f0 : Sl LRule h x_v0 x.rules) {x_v1 : Value} (x_f1 : Sl LDecision h x_v1 x.decisions) {hd : Head} (hd_l1 : hd.stem.length ≤ 281474976710656) (hd_l2 : 0 ≤ hd.mark ∧ hd.mark ≤ 255) : Calls Tryz.prog 36 #[.agg #[t_v0], .agg #[x_v0, x_v1], .agg #[strV hd.stem, .int .u8 hd.mark]] w (Rets h w (fun h' _ res_ => ∃ u0, res_ = .tuple #[u0, .int .i64 (underE t x hd)] ∧ Sl LPlace h' u0 ((underR t x hd)))) := by
 refine zM (n := 50) (args := [.agg #[t_v0], .agg #[x_v0, x_v1], .agg #[strV hd.stem, .int .u8 hd.mark]]) Tryz.func36 X X X ?_
 have st0 : St h w h w [] := St.start hs
 have t_f0_b := t_f0.le
 have x_f0_b := x_f0.le
 have x_f1_b := x_f1.le
 refine zd<|O<|zr st0 (cs := [t_v0]) X X X ?_
 intro b1 w2 h3 le4 hc5 st6
 refine zr st6 (cs := [x_v0, x_v1]) X X X ?_
 intro b7 w8 h9 le10 hc11 st12
 refine zr st12 (cs := [strV (hd.stem), .int .u8 (hd.mark)]) X X X ?_
 intro b13 w14 h15 le16 hc17 st18
 refine Y X X (r_asL X)<|Y X X (zx X)<|U<|M<|zd<|zd<|O<|Y X X (zf st18.sub (hc5.up (le10.trans le16)) X Tryz.isAgg24 Tryz.sizeOf24 X)<|Y X X (zf st18.sub (hc11.up le16) X Tryz.isAgg28 Tryz.sizeOf28 X)<|zm st18 X X X Tryz.call15 X (zam st18.sub (t := t) (t_f0.up ((le4.trans le10).trans le16)) (x := x) (x_f0.up ((le4.trans le10).trans le16)) (x_f1.up ((le4.trans le10).trans le16))) ?_
 intro r19 w20 h21 le22 st23 q24
 obtain rfl := q24
 refine Y X X (zx X)<|U<|M<|zd<|O<|Y X X (zo X)<|Y X X (r_neq X X)<|U<|M ?_
 refine zt rfl (fun c25 => ?_) (fun c25 => ?_)
 ·
  replace c25 := of_decide_eq_true c25
  refine zd<|O<|Y X X (zo X)<|Y X X (r_asL X)<|Y X X (zx X)<|U<|M<|zA<|zk<|zS Tryz.results36 ?_
  refine ⟨h21, _, rfl, st23.done, ?_⟩
  refine ⟨_, tup2 rfl (zW ?_), Sl.to (Sl.nil _ _) ?_⟩
  all_goals simp_all [underR, underE]
 ·
  replace c25 := of_decide_eq_false c25
  refine zz<|M<|zd<|zd<|O<|Y X X (zf st23.sub (hc17.up le22) X Tryz.isAgg54 Tryz.sizeOf54 X)<|zm st23 X X X Tryz.call80 X (c_postilref04_Head st23.sub (hd := hd) zZ t_u8) ?_
  intro r26 w27 h28 le29 st30 q31
  obtain rfl := q31
  refine Y X X (r_not X)<|U<|M ?_
  refine zt rfl (fun c32 => ?_) (fun c32 => ?_)
  ·
   refine zd<|O<|Y X X (r_asL X)<|Y X X (zx X)<|U<|M<|zA<|zk<|zS Tryz.results36 ?_
   refine ⟨h28, _, rfl, st30.done, ?_⟩
   refine ⟨_, tup2 rfl (zW ?_), Sl.to (Sl.nil _ _) ?_⟩
   all_goals simp_all [underR, underE]
  ·
   refine zz<|M<|zd<|O<|Y X X (r_asL X)<|U<|M<|zd ?_
   have hx0 : checkN t x = 0 := by simpa using c25
   have hh0 : headB hd = true := by simpa using c32
   refine zaa (er := ([], [], [], [], 0)) (dsts := [22, 23, 24, 25, 26, 10, 11]) st30 Tryz.mixed<|zh 0 [] X t_kr t_kr X X (fun hD wD τD hL hS hO  => (zf (hL.sub hS) (hc5.up (((le10.trans le16).trans le22).trans le29)) X Tryz.isAgg24 Tryz.sizeOf24 X)) ?_
   refine zQ 1 (.res (fun h' res_ => Sl LPlace h' res_ ((placesT (t)))) (fun _ _ _ hl f => f.up hl)) [0] rfl t_kr t_kr ?_ ?_
   ·
    intro hD wD τD hL hS hO _ _
    have st33 := St.start hS
    refine zm st33 rfl rfl rfl Tryz.call59 rfl (c_postilref01_All st33.sub (t := t) (t_f0.up (((((le4.trans le10).trans le16).trans le22).trans le29).trans hL)) (by exact check_text hx0)) ?_
    intro r34 w35 h36 le37 st38 q39
    obtain ⟨v40, e42, f41⟩ := q39
    rw [← e42] at f41
    have f41_b := f41.le
    exact U ⟨_, _, rfl, st38, _, rfl, f41⟩
   refine zh 2 [] X t_kr t_kr X X (fun hD wD τD hL hS hO  => (zf (hL.sub hS) (hc5.up (((le10.trans le16).trans le22).trans le29)) X Tryz.isAgg24 Tryz.sizeOf24 X))<|zh 3 [] X t_kr t_kr X X (fun hD wD τD hL hS hO  => (zf (hL.sub hS) (hc11.up ((le16.trans le22).trans le29)) X Tryz.isAgg28 Tryz.sizeOf28 X)) ?_
   refine zQ 4 (.res (fun h' res_ => Sl LHead h' res_ ((headsL (t) (x)))) (fun _ _ _ hl f => f.up hl)) [1, 0, 2] rfl t_kr t_kr ?_ ?_
   ·
    intro hD wD τD hL hS hO _ _ _ _ gv1_0 gf1_0
    have st43 := St.start hS
    refine zm st43 rfl rfl rfl Tryz.call60 rfl (c_postilref04_All st43.sub (t := t) (t_f0.up (((((le4.trans le10).trans le16).trans le22).trans le29).trans hL)) (x := x) (x_f0.up (((((le4.trans le10).trans le16).trans le22).trans le29).trans hL)) (x_f1.up (((((le4.trans le10).trans le16).trans le22).trans le29).trans hL)) (by exact hx0)) ?_
    intro r44 w45 h46 le47 st48 q49
    obtain ⟨v50, e52, f51⟩ := q49
    rw [← e52] at f51
    have f51_b := f51.le
    exact U ⟨_, _, rfl, st48, _, rfl, f51⟩
   refine zQ 5 (.res (fun h' res_ => Sl LPlace h' res_ (((placesT (t))))) (fun _ _ _ hl f => f.up hl)) [0, 4, 3] rfl t_kr t_kr ?_ ?_
   ·
    intro hD wD τD hL hS hO gv4_0 gf4_0 _ _ gv1_0 gf1_0
    have st53 := St.start hS
    refine Y X X (zD (v := gv1_0) X) ?_
    exact U ⟨_, _, rfl, st53, _, rfl, gf1_0⟩
   refine zQ 6 (.res (fun h' res_ => Sl LHead h' res_ (((headsL (t) (x))))) (fun _ _ _ hl f => f.up hl)) [5, 4, 3, 2, 1, 0] rfl t_kr t_kr ?_ ?_
   ·
    intro hD wD τD hL hS hO _ _ gv1_0 gf1_0 _ _ _ _ gv4_0 gf4_0 gv5_0 gf5_0
    have st54 := St.start hS
    refine Y X X (zD (v := gv4_0) X) ?_
    exact U ⟨_, _, rfl, st54, _, rfl, gf4_0⟩
   refine zan X X X X X X ⟨t_kr, X, t_kr, X, t_kr, X, X, t_kr, cx_nil⟩ ?_
   intro hE55 w56 _ le57 st58 _ _ gv1_0x59 gf1_0x59 _ _ _ _ gv4_0x59 gf4_0x59 gv5_0x59 gf5_0x59 gv6_0x59 gf6_0x59
   refine AllDeps.fin X ?_
   have hpl := places_len (check_text hx0)
   have hhl : (headsL t x).length = (placesT t).length := by rw [headsL, List.length_map]
   refine M<|zd<|zd<|O<|Y X X (zx X)<|U<|M<|zF ?_
   have st63 := st58.snoc
   have f64 := OSl.nil LPlace 52 hE55
   refine zX [9, 12, 27, 28, 29, 30, 31, 32, 33, 34, 35, 36, 37, 38, 39, 40, 41, 42, 43, 44, 45] (G := Nat × Value × List (Nat × Obj) × Heap) (fun ⟨i, v_9, o_9, h60⟩ => [(9, v_9), (12, .int .i64 (i : Int))]) (fun ⟨i, v_9, o_9, h60⟩ w' => Le hE55 h60 ∧ St h w h60 w' [o_9] ∧ (OSl LPlace 52 h60 v_9 (((placesT t).take i).filter fun p => decide (headAt t x p = hd)) o_9) ∧ (i ≤ (placesT t).length)) (fun ⟨i, v_9, o_9, h60⟩ => (placesT t).length - i) ⟨0, (.slice none 0 0), [], hE55⟩ ⟨rfl, rfl, trivial⟩ ⟨Le.refl _, st63, (OSl.to f64 (by rfl)), zak⟩ ?_
   rintro ⟨i, v_9, o_9, h60⟩ _ w65 ⟨le61, st62, hO_9, hi⟩
   refine zd<|zd<|O<|Y X X (zo X)<|Y X X (zy (v := gv6_0x59) X)<|Y X X (zag (gf6_0x59.up le61) X Tryz.underlying80)<|Y X X (zal X X)<|U<|M ?_
   refine zt rfl (fun c66 => ?_) (fun c66 => ?_)
   ·
    replace c66 := of_decide_eq_true c66
    refine zz<|M<|zd<|zF<|zd<|zai Tryz.mixed t_kr (Cls h60 _) (Cls.drew st62)<|ze X X (fun _ _ => (zy (v := gv6_0x59) X))<|ze X X (fun _ _ => (zo X)) ?_
    have hhh : ∃ y_, ((((headsL (t) (x)))))[i]? = some y_ := ⟨_, List.getElem?_eq_getElem (by omega)⟩
    obtain ⟨hh, hhh⟩ := hhh
    obtain ⟨b67, o68, _, he70, hc69, hr_hh⟩ := Sl.elem (gf6_0x59.up le61) hhh
    obtain ⟨rfl, ls71, lu72⟩ := hr_hh
    simp only [big] at ls71
    refine ze X X (fun _ _ => (zp he70 X X (hk := X) (hu := Tryz.underlying80) (hz := Tryz.sizeOf54)))<|ze X X (fun _ hC => (zf hC.sub hc69 X Tryz.isAgg54 Tryz.sizeOf54 X))<|ze X X (fun _ hC => (zf hC.sub (hc17.up (((le22.trans le29).trans le57).trans le61)) X Tryz.isAgg54 Tryz.sizeOf54 X))<|ze X X (fun _ _ => (r_steql X X Tryz.eqGuardType54 (Tryz.eq_Head hh hd)))<|zac ?_
    rintro w73 ⟨h74, s75⟩
    have st76 := st62.call0 s75
    refine M ?_
    refine zt rfl (fun c77 => ?_) (fun c77 => ?_)
    ·
     replace c77 := of_decide_eq_true c77
     have hp2 : (headsL t x)[i]? = ((placesT t)[i]?).map (headAt t x) := by rw [headsL, List.getElem?_map]
     refine O<|Y X X (zy (v := v_9) X)<|Y X X (zy (v := gv5_0x59) X)<|Y X X (zo X) ?_
     have hp : ∃ y_, ((((placesT (t)))))[i]? = some y_ := ⟨_, List.getElem?_eq_getElem (by omega)⟩
     obtain ⟨p, hp⟩ := hp
     obtain ⟨b78, o79, _, he81, hc80, hr_p⟩ := Sl.elem (gf5_0x59.up (le61.trans s75.le)) hp
     obtain rfl := hr_p
     refine Y X X (zp he81 X X (hk := X) (hu := Tryz.underlying63) (hz := Tryz.sizeOf52))<|Y X X (zf st76.sub hc80 X Tryz.isAgg52 Tryz.sizeOf52 X)<|zV (L := LPlace) (xs := [p]) (cs := [.int .i64 (p.chapter), .int .i64 (p.line), .int .i64 (p.word)]) st76 (Enc.cons (L := LPlace) (vs := [.int .i64 (p.chapter), .int .i64 (p.line), .int .i64 (p.word)]) (x := p) (h := h74) (X) Enc.nil) X X X Tryz.underlying63 Tryz.info52 X X X t_kr ?_
     intro v82 w83 h86 le87 f84 st85
     refine zP (k := 0) (nb := 24) st85 (hO_9.up (s75.le.trans le87)) rfl f84 rfl rfl rfl Tryz.underlying63 Tryz.info52 rfl rfl rfl (by decide) rfl (by have q := List.length_filter_le (fun p => decide (headAt t x p = hd)) ((placesT t).take i); rw [List.length_take] at q; first | omega | (simp only [List.length_append, List.length_cons, List.length_nil]; omega)) (by have q := List.length_filter_le (fun p => decide (headAt t x p = hd)) ((placesT t).take i); rw [List.length_take] at q; first | omega | (simp only [List.length_append, List.length_cons, List.length_nil]; omega)) ?_
     intro v88 o89 w90 _ e91 f92 st93
     subst e91
     refine Y X X (zD (v := v88) X)<|U<|zI<|M<|O<|Y X X (zo X)<|Y X X (zah X X t_om)<|Y X X (zx X)<|U<|M ?_
     refine ⟨⟨i + 1, v88, o89, h86⟩, ⟨rfl, rfl, trivial⟩, ?_, ⟨((le61.trans s75.le).trans le87), st93, ?_, ?_⟩, ?_⟩
     ·exact zae
     ·refine OSl.to f92 ?_
      rw [hp, hhh] at hp2
      rw [take_snoc hp, List.filter_append]; simp only [Option.map_some, Option.some.injEq] at hp2; rw [List.filter_cons, if_pos (by rw [← hp2]; simpa using c77)]; rfl
     ·first | omega | (simp; omega)
     ·show (placesT t).length - ((i + 1)) < (placesT t).length - i
      omega
    ·
     replace c77 := of_decide_eq_false c77
     refine zz<|zI<|M<|O<|Y X X (zo X)<|Y X X (zah X X t_om)<|Y X X (zx X)<|U<|M ?_
     refine ⟨⟨i + 1, v_9, o_9, h74⟩, ⟨rfl, rfl, trivial⟩, ?_, ⟨(le61.trans s75.le), st76, ?_, ?_⟩, ?_⟩
     ·exact zae
     ·refine OSl.to (hO_9.up s75.le) ?_
      have hp : (placesT t)[i]? = some (placesT t)[i] := List.getElem?_eq_getElem (by omega)
      have hp2 : (headsL t x)[i]? = ((placesT t)[i]?).map (headAt t x) := by rw [headsL, List.getElem?_map]
      rw [hp, hhh] at hp2
      rw [take_snoc hp, List.filter_append]; simp only [Option.map_some, Option.some.injEq] at hp2; rw [List.filter_cons, if_neg (by rw [← hp2]; simpa using c77)]; simp
     ·first | omega | (simp; omega)
     ·show (placesT t).length - ((i + 1)) < (placesT t).length - i
      omega
   ·
    replace c66 := of_decide_eq_false c66
    refine zab<|zn<|zn<|zT<|M<|zd<|zd<|O<|Y X X (zy (v := v_9) X)<|Y X X (r_len_own hO_9 X Tryz.underlying63)<|Y X X (r_eql X X)<|U<|M ?_
    refine zt rfl (fun c94 => ?_) (fun c94 => ?_)
    ·
     replace c94 := of_decide_eq_true c94
     refine zd<|O<|Y X X (r_asL X)<|Y X X (zx X)<|U<|M<|zA<|zk<|zS Tryz.results36 ?_
     have hfu : ((placesT t).take i).filter (fun p => decide (headAt t x p = hd)) = underP t x hd := by rw [List.take_of_length_le (by omega)]; rfl
     refine ⟨h60, _, rfl, st62.done, ?_⟩
     refine ⟨_, tup2 rfl (zW ?_), Sl.to (Sl.nil _ _) ?_⟩
     all_goals (have q1 := c94; rw [hfu] at q1; have q2 : underP t x hd = [] := List.eq_nil_of_length_eq_zero (by omega))
     all_goals simp_all [underR, underE]
    ·
     replace c94 := of_decide_eq_false c94
     refine zz<|M<|zd<|O<|Y X X (zy (v := v_9) X)<|Y X X (zD (v := v_9) X)<|Y X X (zx X)<|U<|M<|zA<|zS Tryz.results36 ?_
     obtain ⟨h95, le96, f97, st98⟩ := OSl.freeze (k := 0) st62 hO_9 rfl (by have q := List.length_filter_le (fun p => decide (headAt t x p = hd)) ((placesT t).take i); rw [List.length_take] at q; first | omega | (simp only [List.length_append, List.length_cons, List.length_nil]; omega))
     have hfu : ((placesT t).take i).filter (fun p => decide (headAt t x p = hd)) = underP t x hd := by rw [List.take_of_length_le (by omega)]; rfl
     refine ⟨h95, _, rfl, st98.done, ?_⟩
     refine ⟨_, tup2 rfl (zW ?_), Sl.to f97 ?_⟩
     all_goals (have q1 := c94; rw [hfu] at q1; have q2 : ¬ underP t x hd = [] := by intro q; rw [q] at q1; simp at q1)
     ·simp [underE, hx0, hh0, q2]
     ·rw [hfu]; simp [underR, underE, hx0, hh0, q2]
set_option maxRecDepth 4000 in
theorem c_postilref04_Forms {h : Heap} {w : World} (hs : Sub h w) {t : Text} {t_v0 : Value} (t_f0 : Sl LChapter h t_v0 t.chapters) {x : Lexicon} {x_v0 : Value} (x_f0 : Sl LRule h x_v0 x.rules) {x_v1 : Value} (x_f1 : Sl LDecision h x_v1 x.decisions) {hd : Head} (hd_l1 : hd.stem.length ≤ 281474976710656) (hd_l2 : 0 ≤ hd.mark ∧ hd.mark ≤ 255) : Calls Tryz.prog 38 #[.agg #[t_v0], .agg #[x_v0, x_v1], .agg #[strV hd.stem, .int .u8 hd.mark]] w (Rets h w (fun h' _ res_ => ∃ u0, res_ = .tuple #[u0, .int .i64 (underE t x hd)] ∧ Sl LStr h' u0 ((formsR t x hd)))) := by
 refine zM (n := 37) (args := [.agg #[t_v0], .agg #[x_v0, x_v1], .agg #[strV hd.stem, .int .u8 hd.mark]]) Tryz.func38 X X X ?_
 have st0 : St h w h w [] := St.start hs
 have t_f0_b := t_f0.le
 have x_f0_b := x_f0.le
 have x_f1_b := x_f1.le
 refine zd<|O<|zr st0 (cs := [t_v0]) X X X ?_
 intro b1 w2 h3 le4 hc5 st6
 refine zr st6 (cs := [x_v0, x_v1]) X X X ?_
 intro b7 w8 h9 le10 hc11 st12
 refine zr st12 (cs := [strV (hd.stem), .int .u8 (hd.mark)]) X X X ?_
 intro b13 w14 h15 le16 hc17 st18
 refine Y X X (r_asL X)<|Y X X (zx X)<|U<|M<|zd<|O<|Y X X (zf st18.sub (hc5.up (le10.trans le16)) X Tryz.isAgg24 Tryz.sizeOf24 X)<|Y X X (zf st18.sub (hc11.up le16) X Tryz.isAgg28 Tryz.sizeOf28 X)<|Y X X (zf st18.sub hc17 X Tryz.isAgg54 Tryz.sizeOf54 X)<|zm st18 X X X Tryz.call36 X (c_postilref04_Under st18.sub (t := t) (t_f0.up ((le4.trans le10).trans le16)) (x := x) (x_f0.up ((le4.trans le10).trans le16)) (x_f1.up ((le4.trans le10).trans le16)) (hd := hd) zZ t_u8) ?_
 intro r19 w20 h21 le22 st23 q24
 obtain ⟨v25, rfl, f26⟩ := q24
 have f26_b := f26.le
 refine Y X X (r_mvT X)<|Y X X (zH (v := v25) X X)<|Y X X (zH (v := (.int _ _)) X X)<|Y X X (zD (v := v25) X)<|Y X X (zx X)<|U<|M<|zd<|zd<|O<|Y X X (zo X)<|Y X X (r_neq X X)<|U<|M ?_
 refine zt rfl (fun c27 => ?_) (fun c27 => ?_)
 ·
  replace c27 := of_decide_eq_true c27
  refine zd<|O<|Y X X (zo X)<|Y X X (r_asL X)<|Y X X (zx X)<|U<|M<|zA<|zk<|zS Tryz.results38 ?_
  refine ⟨h21, _, rfl, st23.done, ?_⟩
  refine ⟨_, tup2 rfl (zW ?_), Sl.to (Sl.nil _ _) ?_⟩
  all_goals simp_all [formsR]
 ·
  replace c27 := of_decide_eq_false c27
  refine zz<|M<|zd ?_
  have hu0 : underE t x hd = 0 := by simpa using c27
  have hx0 : checkN t x = 0 := under_check hu0
  have hur : underR t x hd = underP t x hd := by rw [underR, if_pos hu0]
  have hul : (underR t x hd).length ≤ 600 := by rw [hur]; exact Nat.le_trans (List.length_filter_le _ _) (places_len (check_text hx0))
  refine O<|Y X X (r_asL X)<|U<|M<|zd<|zd<|O<|Y X X (zx X)<|U<|M<|zF ?_
  refine zX [10, 11, 22, 23, 24, 25, 26, 27, 28, 29, 30, 31, 32, 33, 34, 35] (G := Nat × Value × Heap) (fun ⟨i, v_10, h28⟩ => [(10, v_10), (11, .int .i64 (i : Int))]) (fun ⟨i, v_10, h28⟩ w' => Le h21 h28 ∧ St h w h28 w' [] ∧ (Sl LStr h28 v_10 ((setL sLt (((underR t x hd).take i).map (wordD t))))) ∧ (i ≤ (underR t x hd).length)) (fun ⟨i, v_10, h28⟩ => (underR t x hd).length - i) ⟨0, (.slice none 0 0), h21⟩ ⟨rfl, rfl, trivial⟩ ⟨Le.refl _, st23, (Sl.to (Sl.nil LStr h21) (by rfl)), zak⟩ ?_
  rintro ⟨i, v_10, h28⟩ _ w31 ⟨le29, st30, hF_10, hi⟩
  refine zd<|zd<|O<|Y X X (zo X)<|Y X X (zy (v := v25) X)<|Y X X (zag (f26.up le29) X Tryz.underlying63)<|Y X X (zal X X)<|U<|M ?_
  refine zt rfl (fun c32 => ?_) (fun c32 => ?_)
  ·
   replace c32 := of_decide_eq_true c32
   refine zz<|M<|zd<|zF ?_
   have hp : ∃ y_, ((underR (t) (x) (hd)))[i]? = some y_ := ⟨_, List.getElem?_eq_getElem (by omega)⟩
   obtain ⟨p, hp⟩ := hp
   obtain ⟨b33, o34, _, he36, hc35, hr_p⟩ := Sl.elem (f26.up le29) hp
   obtain rfl := hr_p
   have hp0 : placeB t p = true := by rw [hur] at hp; exact placesT_mem (List.mem_filter.1 (List.mem_of_getElem? hp)).1
   have hw12 := wordD_len (check_text hx0) hp0
   have hsl := setL_len sLt_T (((underR t x hd).take i).map (wordD t))
   rw [List.length_map, List.length_take] at hsl
   refine zaa (er := ([], [10], [0], [], 0)) (dsts := [28, 29, 30, 31, 32, 33, 34, 35, 10]) st30 Tryz.mixed<|zh 0 [] X t_kr t_kr X X (fun hD wD τD hL hS hO  => (zy (v := v_10) X))<|zh 1 [] X t_kr t_kr X X (fun hD wD τD hL hS hO  => (zf (hL.sub hS) (hc5.up (((le10.trans le16).trans le22).trans le29)) X Tryz.isAgg24 Tryz.sizeOf24 X))<|zh 2 [] X t_kr t_kr X X (fun hD wD τD hL hS hO  => (zy (v := v25) X))<|zh 3 [] X t_kr t_kr X X (fun hD wD τD hL hS hO  => (zo X))<|zh 4 [1, 0] X t_kr t_kr X X (fun hD wD τD hL hS hO _ _ _ _ => (zp he36 X X (hk := X) (hu := Tryz.underlying63) (hz := Tryz.sizeOf52)))<|zh 5 [0] X t_kr t_kr X X (fun hD wD τD hL hS hO _ _ => (zf (hL.sub hS) hc35 X Tryz.isAgg52 Tryz.sizeOf52 X)) ?_
   refine zQ 6 (.det (strV (wordD (t) (p)))) [4, 0] rfl t_kr t_kr ?_ ?_
   ·
    intro hD wD τD hL hS hO _ _ _ _
    have st37 := St.start hS
    refine zm st37 rfl rfl rfl Tryz.call61 rfl (c_postilref01_WordAt st37.sub (t := t) (t_f0.up (((((le4.trans le10).trans le16).trans le22).trans le29).trans hL)) (p := p) (by exact hp0)) ?_
    intro r38 w39 h40 le41 st42 q43
    obtain rfl := q43
    exact U ⟨_, _, rfl, st42, (), rfl, trivial⟩
   refine zQ 7 (.res (fun h' res_ => Sl LStr h' res_ ((insBy sLt ((setL sLt (((underR t x hd).take i).map (wordD t)))) ((wordD (t) (p)))))) (fun _ _ _ hl f => f.up hl)) [6, 0] rfl t_kr t_kr ?_ ?_
   ·
    intro hD wD τD hL hS hO _ _ _ _
    have st44 := St.start hS
    refine zm st44 rfl rfl rfl Tryz.call62 rfl (c_postilref04_added st44.sub (hF_10.up hL) _ zZ (by omega)) ?_
    intro r45 w46 h47 le48 st49 q50
    obtain ⟨v51, e53, f52⟩ := q50
    rw [← e53] at f52
    have f52_b := f52.le
    exact U ⟨_, _, rfl, st49, _, rfl, f52⟩
   refine zaf<|zan X X X X X X ⟨t_kr, X, t_kr, X, t_kr, X, X, t_kr, (zY X cx_nil)⟩ ?_
   intro hE55 w56 _ le57 st58 _ _ _ _ _ _ _ _ _ _ _ _ _ _ gv7_0x54 gf7_0x54
   refine Y X X (zD (v := gv7_0x54) X) ?_
   refine U ⟨_, rfl, _, _, Le.refl _, st58, ?_⟩
   intro hE59 w60 _ le61 st62 _ _ _ _ _ _ _ _ _ _ _ _ _ _ gv7_0x63 gf7_0x63
   refine AllDeps.fin X<|zI<|M<|O<|Y X X (zo X)<|Y X X (zah X X t_om)<|Y X X (zx X)<|U<|M ?_
   refine ⟨⟨i + 1, gv7_0x54, hE59⟩, ⟨rfl, rfl, trivial⟩, ?_, ⟨((le29.trans le57).trans le61), st62, ?_, ?_⟩, ?_⟩
   ·exact zae
   ·refine Sl.to (gf7_0x54.up le61) ?_
    rw [take_snoc hp, List.map_append]; exact (setL_snoc _ _).symm
   ·first | omega | (simp; omega)
   ·show (underR t x hd).length - ((i + 1)) < (underR t x hd).length - i
    omega
  ·
   replace c32 := of_decide_eq_false c32
   refine zab<|zn<|zn<|zT<|M<|zd<|O<|Y X X (zy (v := v_10) X)<|Y X X (zD (v := v_10) X)<|Y X X (zx X)<|U<|M<|zA<|zS Tryz.results38 ?_
   refine ⟨h28, _, rfl, st30.done, ?_⟩
   refine ⟨_, tup2 rfl (zW ?_), Sl.to hF_10 ?_⟩
   ·exact hu0.symm
   ·rw [List.take_of_length_le (by omega), formsR, if_pos hu0, hur]
set_option maxRecDepth 4000 in
theorem c_postilref04_Heads {h : Heap} {w : World} (hs : Sub h w) {t : Text} {t_v0 : Value} (t_f0 : Sl LChapter h t_v0 t.chapters) {x : Lexicon} {x_v0 : Value} (x_f0 : Sl LRule h x_v0 x.rules) {x_v1 : Value} (x_f1 : Sl LDecision h x_v1 x.decisions) : Calls Tryz.prog 34 #[.agg #[t_v0], .agg #[x_v0, x_v1]] w (Rets h w (fun h' _ res_ => ∃ u0, res_ = .tuple #[u0, .int .i64 (checkN t x)] ∧ Sl LHead h' u0 ((headsN t x)))) := by
 refine zM (n := 74) (args := [.agg #[t_v0], .agg #[x_v0, x_v1]]) Tryz.func34 X X X ?_
 have st0 : St h w h w [] := St.start hs
 have t_f0_b := t_f0.le
 have x_f0_b := x_f0.le
 have x_f1_b := x_f1.le
 refine zd<|O<|zr st0 (cs := [t_v0]) X X X ?_
 intro b1 w2 h3 le4 hc5 st6
 refine zr st6 (cs := [x_v0, x_v1]) X X X ?_
 intro b7 w8 h9 le10 hc11 st12
 refine Y X X (r_asL X)<|Y X X (zx X)<|U<|M<|zd<|zd<|O<|Y X X (zf st12.sub (hc5.up le10) X Tryz.isAgg24 Tryz.sizeOf24 X)<|Y X X (zf st12.sub hc11 X Tryz.isAgg28 Tryz.sizeOf28 X)<|zm st12 X X X Tryz.call15 X (zam st12.sub (t := t) (t_f0.up (le4.trans le10)) (x := x) (x_f0.up (le4.trans le10)) (x_f1.up (le4.trans le10))) ?_
 intro r13 w14 h15 le16 st17 q18
 obtain rfl := q18
 refine Y X X (zx X)<|U<|M<|zd<|O<|Y X X (zo X)<|Y X X (r_neq X X)<|U<|M ?_
 refine zt rfl (fun c19 => ?_) (fun c19 => ?_)
 ·
  replace c19 := of_decide_eq_true c19
  refine zd<|O<|Y X X (zo X)<|Y X X (r_asL X)<|Y X X (zx X)<|U<|M<|zA<|zk<|zS Tryz.results34 ?_
  refine ⟨h15, _, rfl, st17.done, ?_⟩
  refine ⟨_, tup2 rfl (zW ?_), Sl.to (Sl.nil _ _) ?_⟩
  all_goals simp_all [headsN]
 ·
  replace c19 := of_decide_eq_false c19
  refine zz<|M<|zd<|O<|Y X X (r_asL X)<|U<|M<|zd ?_
  have hx0 : checkN t x = 0 := by simpa using c19
  refine O<|Y X X (zf st17.sub (hc5.up (le10.trans le16)) X Tryz.isAgg24 Tryz.sizeOf24 X)<|Y X X (zf st17.sub (hc11.up le16) X Tryz.isAgg28 Tryz.sizeOf28 X) ?_
  refine zm st17 rfl rfl rfl Tryz.call60 rfl (c_postilref04_All st17.sub (t := t) (t_f0.up ((le4.trans le10).trans le16)) (x := x) (x_f0.up ((le4.trans le10).trans le16)) (x_f1.up ((le4.trans le10).trans le16)) (by exact hx0)) ?_
  intro r20 w21 h22 le23 st24 q25
  obtain ⟨v26, e28, f27⟩ := q25
  rw [← e28] at f27
  have f27_b := f27.le
  refine Y X X (zD (v := r20) X)<|U ?_
  have hhl : (headsL t x).length ≤ 600 := by rw [headsL, List.length_map]; exact places_len (check_text hx0)
  refine M<|zd<|zd<|O<|Y X X (zx X)<|U<|M<|zF ?_
  refine zX [7, 9, 10, 20, 21, 22, 23, 24, 25, 26, 27, 28, 29, 30, 31, 32, 33, 34, 35, 36, 37, 38, 39, 40, 41, 42, 43, 44, 45, 46, 47, 48, 49, 50, 51, 52, 53, 54, 55, 56, 57, 58, 59, 60, 61, 62, 63, 64, 65, 66, 67, 68, 69, 70, 71, 72] (G := Nat × Value × Heap) (fun ⟨i, v_7, h29⟩ => [(7, v_7), (9, .int .i64 (i : Int))]) (fun ⟨i, v_7, h29⟩ w' => Le h22 h29 ∧ St h w h29 w' [] ∧ (Sl LHead h29 v_7 ((setL headLt ((headsL t x).take i)))) ∧ (i ≤ (headsL t x).length)) (fun ⟨i, v_7, h29⟩ => (headsL t x).length - i) ⟨0, (.slice none 0 0), h22⟩ ⟨rfl, rfl, trivial⟩ ⟨Le.refl _, st24, (Sl.to (Sl.nil LHead h22) (by rfl)), zak⟩ ?_
  rintro ⟨i, v_7, h29⟩ _ w32 ⟨le30, st31, hF_7, hi⟩
  refine zd<|zd<|O<|Y X X (zo X)<|Y X X (zy (v := r20) X)<|Y X X (zag (f27.up le30) X Tryz.underlying80)<|Y X X (zal X X)<|U<|M ?_
  refine zt rfl (fun c33 => ?_) (fun c33 => ?_)
  ·
   replace c33 := of_decide_eq_true c33
   refine zz<|M<|zd<|zF<|zd ?_
   have hsl := setL_len headLt_T ((headsL t x).take i)
   rw [List.length_take] at hsl
   obtain ⟨hd, hhd⟩ : ∃ y, (headsL t x)[i]? = some y := ⟨_, List.getElem?_eq_getElem (by omega)⟩
   refine O<|Y X X (zx X)<|U<|M<|zd<|zF ?_
   refine zX [10, 26, 27, 28, 29, 30, 31, 32, 33, 34, 35, 36, 37, 38, 39, 40, 41, 42] (G := Nat × Heap) (fun ⟨k, h34⟩ => [(10, .int .i64 (k : Int))]) (fun ⟨k, h34⟩ w' => Le h29 h34 ∧ St h w h34 w' [] ∧ (k ≤ (setL headLt ((headsL t x).take i)).length) ∧ (∀ j y0, j < k → (setL headLt ((headsL t x).take i))[j]? = some y0 → headLt y0 hd = true)) (fun ⟨k, h34⟩ => (setL headLt ((headsL t x).take i)).length - k) ⟨0, h29⟩ ⟨rfl, trivial⟩ ⟨Le.refl _, st31, zak, (by intro j _ hj; omega)⟩ ?_
   rintro ⟨k, h34⟩ _ w37 ⟨le35, st36, hk, hb⟩
   refine zd<|zd<|zai Tryz.mixed t_kr (Cls h34 _) (Cls.drew st36)<|ze X X (fun _ _ => (zo X))<|ze X X (fun _ _ => (zy (v := v_7) X))<|ze X X (fun _ _ => (zag (hF_7.up le35) X Tryz.underlying80))<|ze X X (fun _ _ => (zal X X))<|ze X X (fun _ _ => (zN X)) ?_
   refine OpsQ.split (d := 30) rfl (fun g38 => ?_) (fun g38 => ?_)
   ·
    replace g38 := of_decide_eq_true g38
    refine zq X X (d := 30) X<|ze X X (fun _ _ => (zy (v := v_7) X))<|zq X X (d := 30) X<|ze X X (fun _ _ => (zo X))<|zq X X (d := 30) X ?_
    have hy : ∃ y_, ((setL headLt ((headsL t x).take i)))[k]? = some y_ := ⟨_, List.getElem?_eq_getElem (by omega)⟩
    obtain ⟨y, hy⟩ := hy
    obtain ⟨b39, o40, _, he42, hc41, hr_y⟩ := Sl.elem (hF_7.up le35) hy
    obtain ⟨rfl, ls43, lu44⟩ := hr_y
    simp only [big] at ls43
    refine ze X X (fun _ _ => (zp he42 X X (hk := X) (hu := Tryz.underlying80) (hz := Tryz.sizeOf54)))<|zq X X (d := 30) X<|ze X X (fun _ hC => (zf hC.sub hc41 X Tryz.isAgg54 Tryz.sizeOf54 X))<|zq X X (d := 30) X<|ze X X (fun _ _ => (zy (v := r20) X))<|zq X X (d := 30) X<|ze X X (fun _ _ => (zo X))<|zq X X (d := 30) X ?_
    obtain ⟨b45, o46, _, he48, hc47, hr_hd⟩ := Sl.elem (f27.up (le30.trans le35)) hhd
    obtain ⟨rfl, ls49, lu50⟩ := hr_hd
    simp only [big] at ls49
    refine ze X X (fun _ _ => (zp he48 X X (hk := X) (hu := Tryz.underlying80) (hz := Tryz.sizeOf54)))<|zq X X (d := 30) X<|ze X X (fun _ hC => (zf hC.sub hc47 X Tryz.isAgg54 Tryz.sizeOf54 X))<|zq X X (d := 30) X<|OpsQ.calls X X (fun _ => zaj X Tryz.call78 X) (fun _ hC => Rets.quiet hC (c_postilref04_Less hC.sub (a := y) zZ t_u8 (b := hd) zZ t_u8))<|ze X X (fun _ _ => (zK (v := (.bool _)) X X))<|zac ?_
    rintro w51 ⟨h52, s53⟩
    have st54 := st36.call0 s53
    refine M ?_
    refine zt rfl (fun c55 => ?_) (fun c55 => ?_)
    ·
     refine zz<|M<|zF<|O<|Y X X (zo X)<|Y X X (zah X X t_om)<|Y X X (zx X)<|U<|zI<|M ?_
     refine ⟨⟨k + 1, h52⟩, ⟨rfl, trivial⟩, ?_, ⟨(le35.trans s53.le), st54, ?_, ?_⟩, ?_⟩
     ·exact zae
     ·first | omega | (simp; omega)
     ·intro j y0 hj h0
      rcases Nat.lt_or_ge j k with q | q
      ·exact hb j y0 q h0
      ·obtain rfl : j = k := by omega
       rw [hy] at h0; cases h0; simpa using c55
     ·show (setL headLt ((headsL t x).take i)).length - ((k + 1)) < (setL headLt ((headsL t x).take i)).length - k
      omega
    ·
     refine zab<|zn<|zn<|zT<|M<|zd ?_
     have h2 : ∀ y0, (setL headLt ((headsL t x).take i))[k]? = some y0 → headLt y0 hd = false := by
      intro y0 h0
      first
       | (exfalso; have := (List.getElem?_eq_some_iff.1 h0).1; omega)
       | (rw [hy] at h0; cases h0; first | assumption | (simp_all [sLt]; done) | (simp_all; done))
     refine zai Tryz.mixed t_kr (Cls h52 _) (Cls.drew st54)<|ze X X (fun _ _ => (zo X))<|ze X X (fun _ _ => (zy (v := v_7) X))<|ze X X (fun _ _ => (zag (hF_7.up (le35.trans s53.le)) X Tryz.underlying80))<|ze X X (fun _ _ => (r_eql X X))<|ze X X (fun _ _ => (zN X)) ?_
     refine OpsQ.split (d := 47) rfl (fun g56 => ?_) (fun g56 => ?_)
     ·
      replace g56 := of_decide_eq_true g56
      refine zj X X (d := 47) X X X<|zj X X (d := 47) X X X<|zj X X (d := 47) X X X<|zj X X (d := 47) X X X<|zj X X (d := 47) X X X<|zj X X (d := 47) X X X<|zj X X (d := 47) X X X<|zj X X (d := 47) X X X<|zj X X (d := 47) X X X<|ze X X (fun _ _ => (zK (v := (.bool _)) X X))<|zac ?_
      rintro w57 ⟨h58, s59⟩
      have st60 := st54.call0 s59
      refine M ?_
      refine zt rfl (fun c61 => ?_) (fun c61 => ?_)
      ·
       have f62 := Sl.take hF_7 (k := k) (by omega)
       have f63 := Sl.drop hF_7 (k := k) (by omega)
       refine zaa (er := ([], [7], [1, 11], [], 0)) (dsts := [58, 59, 60, 61, 62, 63, 64, 65, 66, 67, 68, 69, 70, 71, 72, 7]) st60 Tryz.mixed ?_
       refine zQ 0 (.res (fun _ res_ => ∃ p, res_ = .slice p 0 0) (fun _ _ _ _ f => f)) [] rfl t_kr t_kr ?_ ?_
       ·
        intro hD wD τD hL hS hO 
        have st64 := St.start hS
        refine OpsL.sliceZ st64 X ⟨_, Tryz.sizeOf54⟩ Tryz.underlying80 ?_
        intro v65 w66 f67 st68
        exact U ⟨_, _, rfl, st68, _, rfl, f67⟩
       refine zh 1 [] X t_kr t_kr X X (fun hD wD τD hL hS hO  => (zy (v := v_7) X))<|zh 2 [] X t_kr t_kr X X (fun hD wD τD hL hS hO  => (zo X)) ?_
       refine zh 3 [1, 0] rfl t_kr t_kr rfl rfl (fun hD wD τD hL hS hO _ _ _ _ => (r_slice_to_sl (hF_7.up ((le35.trans s53.le).trans s59.le)) rfl rfl (hk := rfl) (by omega) Tryz.underlying80 Tryz.sizeOf54)) ?_
       refine zaf<|zh 5 [] X t_kr t_kr X X (fun hD wD τD hL hS hO  => (zy (v := r20) X))<|zh 6 [] X t_kr t_kr X X (fun hD wD τD hL hS hO  => (zo X))<|zh 7 [1, 0] X t_kr t_kr X X (fun hD wD τD hL hS hO _ _ _ _ => (zp he48 X X (hk := X) (hu := Tryz.underlying80) (hz := Tryz.sizeOf54)))<|zh 8 [0] X t_kr t_kr X X (fun hD wD τD hL hS hO _ _ => (zf (hL.sub hS) (hc47.up (s53.le.trans s59.le)) X Tryz.isAgg54 Tryz.sizeOf54 X)) ?_
       refine zQ 9 (.res (fun h' res_ => Sl LHead h' res_ ([hd])) (fun _ _ _ hl f => f.up hl)) [0] rfl t_kr t_kr ?_ ?_
       ·
        intro hD wD τD hL hS hO _ _
        have st69 := St.start hS
        refine zV (L := LHead) (xs := [hd]) (cs := [strV (hd.stem), .int .u8 (hd.mark)]) st69 (Enc.cons (L := LHead) (vs := [strV (hd.stem), .int .u8 (hd.mark)]) (x := hd) (h := hD) (⟨rfl, zZ, t_u8⟩) Enc.nil) X X X Tryz.underlying80 Tryz.info54 X X X t_kr ?_
        intro v70 w71 h74 le75 f72 st73
        exact U ⟨_, _, rfl, st73, _, rfl, f72⟩
       refine zaf<|zh 11 [] X t_kr t_kr X X (fun hD wD τD hL hS hO  => (zy (v := v_7) X))<|zh 12 [] X t_kr t_kr X X (fun hD wD τD hL hS hO  => (zo X)) ?_
       refine zh 13 [1, 0] rfl t_kr t_kr rfl rfl (fun hD wD τD hL hS hO _ _ _ _ => (r_slice_from_sl (hF_7.up ((le35.trans s53.le).trans s59.le)) rfl rfl (hk := rfl) (by omega) Tryz.underlying80 Tryz.sizeOf54)) ?_
       refine zaf<|zaf<|zan X X X X X X ⟨t_kr, X, t_kr, X, t_kr, X, X, t_kr, (zY X (zY X (zY X (zY X cx_nil))))⟩ ?_
       intro hE77 w78 _ le79 st80 gv0_x76 gf0_x76 _ _
       have st81 := st80.snoc
       have f82 := OSl.nil LHead 54 hE77
       have f83 := OSl.nil0 LHead 54 hE77 gf0_x76
       refine zP (k := 0) (nb := 24) st81 f83 rfl (f62.up (((le35.trans s53.le).trans s59.le).trans le79)) rfl rfl rfl Tryz.underlying80 Tryz.info54 rfl rfl rfl (by decide) rfl t_len t_len ?_
       intro v84 o85 w86 _ e87 f88 st89
       subst e87
       refine U ⟨_, rfl, _, _, Le.refl _, st89, ?_⟩
       intro hE91 w92 _ le93 st94 gv9_0x90 gf9_0x90
       refine zP (k := 0) (nb := 24) st94 (f88.up le93) rfl gf9_0x90 rfl rfl rfl Tryz.underlying80 Tryz.info54 rfl rfl rfl (by decide) rfl t_len t_len ?_
       intro v95 o96 w97 _ e98 f99 st100
       subst e98
       refine U ⟨_, rfl, _, _, Le.refl _, st100, ?_⟩
       intro hE102 w103 _ le104 st105 _ _
       refine zP (k := 0) (nb := 24) st105 (f99.up le104) rfl (f63.up (((((le35.trans s53.le).trans s59.le).trans le79).trans le93).trans le104)) rfl rfl rfl Tryz.underlying80 Tryz.info54 rfl rfl rfl (by decide) rfl t_len t_len ?_
       intro v106 o107 w108 _ e109 f110 st111
       subst e109
       refine U ⟨_, rfl, _, _, Le.refl _, st111, ?_⟩
       intro hE113 w114 _ le115 st116 gv0_x112 gf0_x112 _ _ _ _ _ _ _ _ _ _ _ _ _ _ gv9_0x112 gf9_0x112 _ _ _ _ _ _
       refine Y X X (zD (v := v106) X) ?_
       refine U ⟨_, rfl, _, _, Le.refl _, st116, ?_⟩
       intro hE117 w118 _ le119 st120 gv0_x121 gf0_x121 _ _ _ _ _ _ _ _ _ _ _ _ _ _ gv9_0x121 gf9_0x121 _ _ _ _ _ _
       refine AllDeps.fin X<|zI<|M<|O<|Y X X (zo X)<|Y X X (zah X X t_om)<|Y X X (zx X)<|U<|M ?_
       obtain ⟨h122, le123, f124, st125⟩ := OSl.freeze (k := 0) st120 (f110.up (le115.trans le119)) rfl t_len
       refine ⟨⟨i + 1, v106, h122⟩, ⟨rfl, rfl, trivial⟩, ?_, ⟨(((((((((le30.trans le35).trans s53.le).trans s59.le).trans le79).trans le93).trans le104).trans le115).trans le119).trans le123), st125.take 0, ?_, ?_⟩, ?_⟩
       ·exact zae
       ·refine Sl.to f124 ?_
        rw [take_snoc hhd, setL_snoc]
        first | exact (insBy_old hb h2 (by simp_all)).symm | exact (insBy_new hb h2 (by first | (simp_all; done) | (intro q; have := (List.getElem?_eq_some_iff.1 q).1; omega))).symm | (rw [insBy_new hb h2 (by first | (simp_all; done) | (intro q; have := (List.getElem?_eq_some_iff.1 q).1; omega))]; simp)
       ·first | omega | (simp; omega)
       ·show (headsL t x).length - ((i + 1)) < (headsL t x).length - i
        omega
      ·
       cases c61
     ·
      replace g56 := of_decide_eq_false g56
      refine zq X X (d := 47) X<|ze X X (fun _ _ => (zy (v := v_7) X))<|zq X X (d := 47) X<|ze X X (fun _ _ => (zo X))<|zq X X (d := 47) X<|ze X X (fun _ _ => (zp he42 X X (hk := X) (hu := Tryz.underlying80) (hz := Tryz.sizeOf54)))<|zq X X (d := 47) X<|ze X X (fun _ hC => (zf hC.sub (hc41.up s53.le) X Tryz.isAgg54 Tryz.sizeOf54 X))<|zq X X (d := 47) X<|ze X X (fun _ _ => (zy (v := r20) X))<|zq X X (d := 47) X<|ze X X (fun _ _ => (zo X))<|zq X X (d := 47) X<|ze X X (fun _ _ => (zp he48 X X (hk := X) (hu := Tryz.underlying80) (hz := Tryz.sizeOf54)))<|zq X X (d := 47) X<|ze X X (fun _ hC => (zf hC.sub (hc47.up s53.le) X Tryz.isAgg54 Tryz.sizeOf54 X))<|zq X X (d := 47) X<|ze X X (fun _ _ => (r_stneq X X Tryz.eqGuardType54 (Tryz.eq_Head y hd)))<|ze X X (fun _ _ => (zC (v := (.bool _)) X X))<|zac ?_
      rintro w126 ⟨h127, s128⟩
      have st129 := st54.call0 s128
      refine M ?_
      refine zt rfl (fun c130 => ?_) (fun c130 => ?_)
      ·
       replace c130 := of_decide_eq_true c130
       have f131 := Sl.take hF_7 (k := k) (by omega)
       have f132 := Sl.drop hF_7 (k := k) (by omega)
       refine zaa (er := ([], [7], [1, 11], [], 0)) (dsts := [58, 59, 60, 61, 62, 63, 64, 65, 66, 67, 68, 69, 70, 71, 72, 7]) st129 Tryz.mixed ?_
       refine zQ 0 (.res (fun _ res_ => ∃ p, res_ = .slice p 0 0) (fun _ _ _ _ f => f)) [] rfl t_kr t_kr ?_ ?_
       ·
        intro hD wD τD hL hS hO 
        have st133 := St.start hS
        refine OpsL.sliceZ st133 X ⟨_, Tryz.sizeOf54⟩ Tryz.underlying80 ?_
        intro v134 w135 f136 st137
        exact U ⟨_, _, rfl, st137, _, rfl, f136⟩
       refine zh 1 [] X t_kr t_kr X X (fun hD wD τD hL hS hO  => (zy (v := v_7) X))<|zh 2 [] X t_kr t_kr X X (fun hD wD τD hL hS hO  => (zo X)) ?_
       refine zh 3 [1, 0] rfl t_kr t_kr rfl rfl (fun hD wD τD hL hS hO _ _ _ _ => (r_slice_to_sl (hF_7.up ((le35.trans s53.le).trans s128.le)) rfl rfl (hk := rfl) (by omega) Tryz.underlying80 Tryz.sizeOf54)) ?_
       refine zaf<|zh 5 [] X t_kr t_kr X X (fun hD wD τD hL hS hO  => (zy (v := r20) X))<|zh 6 [] X t_kr t_kr X X (fun hD wD τD hL hS hO  => (zo X))<|zh 7 [1, 0] X t_kr t_kr X X (fun hD wD τD hL hS hO _ _ _ _ => (zp he48 X X (hk := X) (hu := Tryz.underlying80) (hz := Tryz.sizeOf54)))<|zh 8 [0] X t_kr t_kr X X (fun hD wD τD hL hS hO _ _ => (zf (hL.sub hS) (hc47.up (s53.le.trans s128.le)) X Tryz.isAgg54 Tryz.sizeOf54 X)) ?_
       refine zQ 9 (.res (fun h' res_ => Sl LHead h' res_ ([hd])) (fun _ _ _ hl f => f.up hl)) [0] rfl t_kr t_kr ?_ ?_
       ·
        intro hD wD τD hL hS hO _ _
        have st138 := St.start hS
        refine zV (L := LHead) (xs := [hd]) (cs := [strV (hd.stem), .int .u8 (hd.mark)]) st138 (Enc.cons (L := LHead) (vs := [strV (hd.stem), .int .u8 (hd.mark)]) (x := hd) (h := hD) (⟨rfl, zZ, t_u8⟩) Enc.nil) X X X Tryz.underlying80 Tryz.info54 X X X t_kr ?_
        intro v139 w140 h143 le144 f141 st142
        exact U ⟨_, _, rfl, st142, _, rfl, f141⟩
       refine zaf<|zh 11 [] X t_kr t_kr X X (fun hD wD τD hL hS hO  => (zy (v := v_7) X))<|zh 12 [] X t_kr t_kr X X (fun hD wD τD hL hS hO  => (zo X)) ?_
       refine zh 13 [1, 0] rfl t_kr t_kr rfl rfl (fun hD wD τD hL hS hO _ _ _ _ => (r_slice_from_sl (hF_7.up ((le35.trans s53.le).trans s128.le)) rfl rfl (hk := rfl) (by omega) Tryz.underlying80 Tryz.sizeOf54)) ?_
       refine zaf<|zaf<|zan X X X X X X ⟨t_kr, X, t_kr, X, t_kr, X, X, t_kr, (zY X (zY X (zY X (zY X cx_nil))))⟩ ?_
       intro hE146 w147 _ le148 st149 gv0_x145 gf0_x145 _ _
       have st150 := st149.snoc
       have f151 := OSl.nil LHead 54 hE146
       have f152 := OSl.nil0 LHead 54 hE146 gf0_x145
       refine zP (k := 0) (nb := 24) st150 f152 rfl (f131.up (((le35.trans s53.le).trans s128.le).trans le148)) rfl rfl rfl Tryz.underlying80 Tryz.info54 rfl rfl rfl (by decide) rfl t_len t_len ?_
       intro v153 o154 w155 _ e156 f157 st158
       subst e156
       refine U ⟨_, rfl, _, _, Le.refl _, st158, ?_⟩
       intro hE160 w161 _ le162 st163 gv9_0x159 gf9_0x159
       refine zP (k := 0) (nb := 24) st163 (f157.up le162) rfl gf9_0x159 rfl rfl rfl Tryz.underlying80 Tryz.info54 rfl rfl rfl (by decide) rfl t_len t_len ?_
       intro v164 o165 w166 _ e167 f168 st169
       subst e167
       refine U ⟨_, rfl, _, _, Le.refl _, st169, ?_⟩
       intro hE171 w172 _ le173 st174 _ _
       refine zP (k := 0) (nb := 24) st174 (f168.up le173) rfl (f132.up (((((le35.trans s53.le).trans s128.le).trans le148).trans le162).trans le173)) rfl rfl rfl Tryz.underlying80 Tryz.info54 rfl rfl rfl (by decide) rfl t_len t_len ?_
       intro v175 o176 w177 _ e178 f179 st180
       subst e178
       refine U ⟨_, rfl, _, _, Le.refl _, st180, ?_⟩
       intro hE182 w183 _ le184 st185 gv0_x181 gf0_x181 _ _ _ _ _ _ _ _ _ _ _ _ _ _ gv9_0x181 gf9_0x181 _ _ _ _ _ _
       refine Y X X (zD (v := v175) X) ?_
       refine U ⟨_, rfl, _, _, Le.refl _, st185, ?_⟩
       intro hE186 w187 _ le188 st189 gv0_x190 gf0_x190 _ _ _ _ _ _ _ _ _ _ _ _ _ _ gv9_0x190 gf9_0x190 _ _ _ _ _ _
       refine AllDeps.fin X<|zI<|M<|O<|Y X X (zo X)<|Y X X (zah X X t_om)<|Y X X (zx X)<|U<|M ?_
       obtain ⟨h191, le192, f193, st194⟩ := OSl.freeze (k := 0) st189 (f179.up (le184.trans le188)) rfl t_len
       refine ⟨⟨i + 1, v175, h191⟩, ⟨rfl, rfl, trivial⟩, ?_, ⟨(((((((((le30.trans le35).trans s53.le).trans s128.le).trans le148).trans le162).trans le173).trans le184).trans le188).trans le192), st194.take 0, ?_, ?_⟩, ?_⟩
       ·exact zae
       ·refine Sl.to f193 ?_
        rw [take_snoc hhd, setL_snoc]
        first | exact (insBy_old hb h2 (by simp_all)).symm | exact (insBy_new hb h2 (by first | (simp_all; done) | (intro q; have := (List.getElem?_eq_some_iff.1 q).1; omega))).symm | (rw [insBy_new hb h2 (by first | (simp_all; done) | (intro q; have := (List.getElem?_eq_some_iff.1 q).1; omega))]; simp)
       ·first | omega | (simp; omega)
       ·show (headsL t x).length - ((i + 1)) < (headsL t x).length - i
        omega
      ·
       replace c130 := of_decide_eq_false c130
       refine zz<|zI<|M<|O<|Y X X (zo X)<|Y X X (zah X X t_om)<|Y X X (zx X)<|U<|M ?_
       refine ⟨⟨i + 1, v_7, h127⟩, ⟨rfl, rfl, trivial⟩, ?_, ⟨(((le30.trans le35).trans s53.le).trans s128.le), st129, ?_, ?_⟩, ?_⟩
       ·exact zae
       ·refine Sl.to (hF_7.up ((le35.trans s53.le).trans s128.le)) ?_
        rw [take_snoc hhd, setL_snoc]
        first | exact (insBy_old hb h2 (by simp_all)).symm | exact (insBy_new hb h2 (by first | (simp_all; done) | (intro q; have := (List.getElem?_eq_some_iff.1 q).1; omega))).symm | (rw [insBy_new hb h2 (by first | (simp_all; done) | (intro q; have := (List.getElem?_eq_some_iff.1 q).1; omega))]; simp)
       ·first | omega | (simp; omega)
       ·show (headsL t x).length - ((i + 1)) < (headsL t x).length - i
        omega
   ·
    replace g38 := of_decide_eq_false g38
    refine zj X X (d := 30) X X X<|zj X X (d := 30) X X X<|zj X X (d := 30) X X X<|zj X X (d := 30) X X X<|zj X X (d := 30) X X X<|zj X X (d := 30) X X X<|zj X X (d := 30) X X X<|zj X X (d := 30) X X X<|zj X X (d := 30) X X X<|ze X X (fun _ _ => (zC (v := (.bool _)) X X))<|zac ?_
    rintro w195 ⟨h196, s197⟩
    have st198 := st36.call0 s197
    refine M ?_
    refine zt rfl (fun c199 => ?_) (fun c199 => ?_)
    ·
     cases c199
    ·
     refine zab<|zn<|zn<|zT<|M<|zd ?_
     have h2 : ∀ y0, (setL headLt ((headsL t x).take i))[k]? = some y0 → headLt y0 hd = false := by
      intro y0 h0
      first
       | (exfalso; have := (List.getElem?_eq_some_iff.1 h0).1; omega)
       | (rw [hy] at h0; cases h0; first | assumption | (simp_all [sLt]; done) | (simp_all; done))
     refine zai Tryz.mixed t_kr (Cls h196 _) (Cls.drew st198)<|ze X X (fun _ _ => (zo X))<|ze X X (fun _ _ => (zy (v := v_7) X))<|ze X X (fun _ _ => (zag (hF_7.up (le35.trans s197.le)) X Tryz.underlying80))<|ze X X (fun _ _ => (r_eql X X))<|ze X X (fun _ _ => (zN X)) ?_
     refine OpsQ.split (d := 47) rfl (fun g200 => ?_) (fun g200 => ?_)
     ·
      replace g200 := of_decide_eq_true g200
      refine zj X X (d := 47) X X X<|zj X X (d := 47) X X X<|zj X X (d := 47) X X X<|zj X X (d := 47) X X X<|zj X X (d := 47) X X X<|zj X X (d := 47) X X X<|zj X X (d := 47) X X X<|zj X X (d := 47) X X X<|zj X X (d := 47) X X X<|ze X X (fun _ _ => (zK (v := (.bool _)) X X))<|zac ?_
      rintro w201 ⟨h202, s203⟩
      have st204 := st198.call0 s203
      refine M ?_
      refine zt rfl (fun c205 => ?_) (fun c205 => ?_)
      ·
       have f206 := Sl.take hF_7 (k := k) (by omega)
       obtain ⟨b207, o208, _, he210, hc209, hr_hd⟩ := Sl.elem (f27.up (((le30.trans le35).trans s197.le).trans s203.le)) hhd
       obtain ⟨rfl, ls211, lu212⟩ := hr_hd
       simp only [big] at ls211
       have f213 := Sl.drop hF_7 (k := k) (by omega)
       refine zaa (er := ([], [7], [1, 11], [], 0)) (dsts := [58, 59, 60, 61, 62, 63, 64, 65, 66, 67, 68, 69, 70, 71, 72, 7]) st204 Tryz.mixed ?_
       refine zQ 0 (.res (fun _ res_ => ∃ p, res_ = .slice p 0 0) (fun _ _ _ _ f => f)) [] rfl t_kr t_kr ?_ ?_
       ·
        intro hD wD τD hL hS hO 
        have st214 := St.start hS
        refine OpsL.sliceZ st214 X ⟨_, Tryz.sizeOf54⟩ Tryz.underlying80 ?_
        intro v215 w216 f217 st218
        exact U ⟨_, _, rfl, st218, _, rfl, f217⟩
       refine zh 1 [] X t_kr t_kr X X (fun hD wD τD hL hS hO  => (zy (v := v_7) X))<|zh 2 [] X t_kr t_kr X X (fun hD wD τD hL hS hO  => (zo X)) ?_
       refine zh 3 [1, 0] rfl t_kr t_kr rfl rfl (fun hD wD τD hL hS hO _ _ _ _ => (r_slice_to_sl (hF_7.up ((le35.trans s197.le).trans s203.le)) rfl rfl (hk := rfl) (by omega) Tryz.underlying80 Tryz.sizeOf54)) ?_
       refine zaf<|zh 5 [] X t_kr t_kr X X (fun hD wD τD hL hS hO  => (zy (v := r20) X))<|zh 6 [] X t_kr t_kr X X (fun hD wD τD hL hS hO  => (zo X))<|zh 7 [1, 0] X t_kr t_kr X X (fun hD wD τD hL hS hO _ _ _ _ => (zp he210 X X (hk := X) (hu := Tryz.underlying80) (hz := Tryz.sizeOf54)))<|zh 8 [0] X t_kr t_kr X X (fun hD wD τD hL hS hO _ _ => (zf (hL.sub hS) hc209 X Tryz.isAgg54 Tryz.sizeOf54 X)) ?_
       refine zQ 9 (.res (fun h' res_ => Sl LHead h' res_ ([hd])) (fun _ _ _ hl f => f.up hl)) [0] rfl t_kr t_kr ?_ ?_
       ·
        intro hD wD τD hL hS hO _ _
        have st219 := St.start hS
        refine zV (L := LHead) (xs := [hd]) (cs := [strV (hd.stem), .int .u8 (hd.mark)]) st219 (Enc.cons (L := LHead) (vs := [strV (hd.stem), .int .u8 (hd.mark)]) (x := hd) (h := hD) (⟨rfl, zZ, t_u8⟩) Enc.nil) X X X Tryz.underlying80 Tryz.info54 X X X t_kr ?_
        intro v220 w221 h224 le225 f222 st223
        exact U ⟨_, _, rfl, st223, _, rfl, f222⟩
       refine zaf<|zh 11 [] X t_kr t_kr X X (fun hD wD τD hL hS hO  => (zy (v := v_7) X))<|zh 12 [] X t_kr t_kr X X (fun hD wD τD hL hS hO  => (zo X)) ?_
       refine zh 13 [1, 0] rfl t_kr t_kr rfl rfl (fun hD wD τD hL hS hO _ _ _ _ => (r_slice_from_sl (hF_7.up ((le35.trans s197.le).trans s203.le)) rfl rfl (hk := rfl) (by omega) Tryz.underlying80 Tryz.sizeOf54)) ?_
       refine zaf<|zaf<|zan X X X X X X ⟨t_kr, X, t_kr, X, t_kr, X, X, t_kr, (zY X (zY X (zY X (zY X cx_nil))))⟩ ?_
       intro hE227 w228 _ le229 st230 gv0_x226 gf0_x226 _ _
       have st231 := st230.snoc
       have f232 := OSl.nil LHead 54 hE227
       have f233 := OSl.nil0 LHead 54 hE227 gf0_x226
       refine zP (k := 0) (nb := 24) st231 f233 rfl (f206.up (((le35.trans s197.le).trans s203.le).trans le229)) rfl rfl rfl Tryz.underlying80 Tryz.info54 rfl rfl rfl (by decide) rfl t_len t_len ?_
       intro v234 o235 w236 _ e237 f238 st239
       subst e237
       refine U ⟨_, rfl, _, _, Le.refl _, st239, ?_⟩
       intro hE241 w242 _ le243 st244 gv9_0x240 gf9_0x240
       refine zP (k := 0) (nb := 24) st244 (f238.up le243) rfl gf9_0x240 rfl rfl rfl Tryz.underlying80 Tryz.info54 rfl rfl rfl (by decide) rfl t_len t_len ?_
       intro v245 o246 w247 _ e248 f249 st250
       subst e248
       refine U ⟨_, rfl, _, _, Le.refl _, st250, ?_⟩
       intro hE252 w253 _ le254 st255 _ _
       refine zP (k := 0) (nb := 24) st255 (f249.up le254) rfl (f213.up (((((le35.trans s197.le).trans s203.le).trans le229).trans le243).trans le254)) rfl rfl rfl Tryz.underlying80 Tryz.info54 rfl rfl rfl (by decide) rfl t_len t_len ?_
       intro v256 o257 w258 _ e259 f260 st261
       subst e259
       refine U ⟨_, rfl, _, _, Le.refl _, st261, ?_⟩
       intro hE263 w264 _ le265 st266 gv0_x262 gf0_x262 _ _ _ _ _ _ _ _ _ _ _ _ _ _ gv9_0x262 gf9_0x262 _ _ _ _ _ _
       refine Y X X (zD (v := v256) X) ?_
       refine U ⟨_, rfl, _, _, Le.refl _, st266, ?_⟩
       intro hE267 w268 _ le269 st270 gv0_x271 gf0_x271 _ _ _ _ _ _ _ _ _ _ _ _ _ _ gv9_0x271 gf9_0x271 _ _ _ _ _ _
       refine AllDeps.fin X<|zI<|M<|O<|Y X X (zo X)<|Y X X (zah X X t_om)<|Y X X (zx X)<|U<|M ?_
       obtain ⟨h272, le273, f274, st275⟩ := OSl.freeze (k := 0) st270 (f260.up (le265.trans le269)) rfl t_len
       refine ⟨⟨i + 1, v256, h272⟩, ⟨rfl, rfl, trivial⟩, ?_, ⟨(((((((((le30.trans le35).trans s197.le).trans s203.le).trans le229).trans le243).trans le254).trans le265).trans le269).trans le273), st275.take 0, ?_, ?_⟩, ?_⟩
       ·exact zae
       ·refine Sl.to f274 ?_
        rw [take_snoc hhd, setL_snoc]
        first | exact (insBy_old hb h2 (by simp_all)).symm | exact (insBy_new hb h2 (by first | (simp_all; done) | (intro q; have := (List.getElem?_eq_some_iff.1 q).1; omega))).symm | (rw [insBy_new hb h2 (by first | (simp_all; done) | (intro q; have := (List.getElem?_eq_some_iff.1 q).1; omega))]; simp)
       ·first | omega | (simp; omega)
       ·show (headsL t x).length - ((i + 1)) < (headsL t x).length - i
        omega
      ·
       cases c205
     ·
      replace g200 := of_decide_eq_false g200
      refine zq X X (d := 47) X<|ze X X (fun _ _ => (zy (v := v_7) X))<|zq X X (d := 47) X<|ze X X (fun _ _ => (zo X))<|zq X X (d := 47) X ?_
      have hy : ∃ y_, ((setL headLt ((headsL t x).take i)))[k]? = some y_ := ⟨_, List.getElem?_eq_getElem (by omega)⟩
      obtain ⟨y, hy⟩ := hy
      obtain ⟨b276, o277, _, he279, hc278, hr_y⟩ := Sl.elem (hF_7.up (le35.trans s197.le)) hy
      obtain ⟨rfl, ls280, lu281⟩ := hr_y
      simp only [big] at ls280
      refine ze X X (fun _ _ => (zp he279 X X (hk := X) (hu := Tryz.underlying80) (hz := Tryz.sizeOf54)))<|zq X X (d := 47) X<|ze X X (fun _ hC => (zf hC.sub hc278 X Tryz.isAgg54 Tryz.sizeOf54 X))<|zq X X (d := 47) X<|ze X X (fun _ _ => (zy (v := r20) X))<|zq X X (d := 47) X<|ze X X (fun _ _ => (zo X))<|zq X X (d := 47) X ?_
      obtain ⟨b282, o283, _, he285, hc284, hr_hd⟩ := Sl.elem (f27.up ((le30.trans le35).trans s197.le)) hhd
      obtain ⟨rfl, ls286, lu287⟩ := hr_hd
      simp only [big] at ls286
      refine ze X X (fun _ _ => (zp he285 X X (hk := X) (hu := Tryz.underlying80) (hz := Tryz.sizeOf54)))<|zq X X (d := 47) X<|ze X X (fun _ hC => (zf hC.sub hc284 X Tryz.isAgg54 Tryz.sizeOf54 X))<|zq X X (d := 47) X<|ze X X (fun _ _ => (r_stneq X X Tryz.eqGuardType54 (Tryz.eq_Head y hd)))<|ze X X (fun _ _ => (zC (v := (.bool _)) X X))<|zac ?_
      rintro w288 ⟨h289, s290⟩
      have st291 := st198.call0 s290
      refine M ?_
      refine zt rfl (fun c292 => ?_) (fun c292 => ?_)
      ·
       replace c292 := of_decide_eq_true c292
       have f293 := Sl.take hF_7 (k := k) (by omega)
       have f294 := Sl.drop hF_7 (k := k) (by omega)
       refine zaa (er := ([], [7], [1, 11], [], 0)) (dsts := [58, 59, 60, 61, 62, 63, 64, 65, 66, 67, 68, 69, 70, 71, 72, 7]) st291 Tryz.mixed ?_
       refine zQ 0 (.res (fun _ res_ => ∃ p, res_ = .slice p 0 0) (fun _ _ _ _ f => f)) [] rfl t_kr t_kr ?_ ?_
       ·
        intro hD wD τD hL hS hO 
        have st295 := St.start hS
        refine OpsL.sliceZ st295 X ⟨_, Tryz.sizeOf54⟩ Tryz.underlying80 ?_
        intro v296 w297 f298 st299
        exact U ⟨_, _, rfl, st299, _, rfl, f298⟩
       refine zh 1 [] X t_kr t_kr X X (fun hD wD τD hL hS hO  => (zy (v := v_7) X))<|zh 2 [] X t_kr t_kr X X (fun hD wD τD hL hS hO  => (zo X)) ?_
       refine zh 3 [1, 0] rfl t_kr t_kr rfl rfl (fun hD wD τD hL hS hO _ _ _ _ => (r_slice_to_sl (hF_7.up ((le35.trans s197.le).trans s290.le)) rfl rfl (hk := rfl) (by omega) Tryz.underlying80 Tryz.sizeOf54)) ?_
       refine zaf<|zh 5 [] X t_kr t_kr X X (fun hD wD τD hL hS hO  => (zy (v := r20) X))<|zh 6 [] X t_kr t_kr X X (fun hD wD τD hL hS hO  => (zo X))<|zh 7 [1, 0] X t_kr t_kr X X (fun hD wD τD hL hS hO _ _ _ _ => (zp he285 X X (hk := X) (hu := Tryz.underlying80) (hz := Tryz.sizeOf54)))<|zh 8 [0] X t_kr t_kr X X (fun hD wD τD hL hS hO _ _ => (zf (hL.sub hS) (hc284.up s290.le) X Tryz.isAgg54 Tryz.sizeOf54 X)) ?_
       refine zQ 9 (.res (fun h' res_ => Sl LHead h' res_ ([hd])) (fun _ _ _ hl f => f.up hl)) [0] rfl t_kr t_kr ?_ ?_
       ·
        intro hD wD τD hL hS hO _ _
        have st300 := St.start hS
        refine zV (L := LHead) (xs := [hd]) (cs := [strV (hd.stem), .int .u8 (hd.mark)]) st300 (Enc.cons (L := LHead) (vs := [strV (hd.stem), .int .u8 (hd.mark)]) (x := hd) (h := hD) (⟨rfl, zZ, t_u8⟩) Enc.nil) X X X Tryz.underlying80 Tryz.info54 X X X t_kr ?_
        intro v301 w302 h305 le306 f303 st304
        exact U ⟨_, _, rfl, st304, _, rfl, f303⟩
       refine zaf<|zh 11 [] X t_kr t_kr X X (fun hD wD τD hL hS hO  => (zy (v := v_7) X))<|zh 12 [] X t_kr t_kr X X (fun hD wD τD hL hS hO  => (zo X)) ?_
       refine zh 13 [1, 0] rfl t_kr t_kr rfl rfl (fun hD wD τD hL hS hO _ _ _ _ => (r_slice_from_sl (hF_7.up ((le35.trans s197.le).trans s290.le)) rfl rfl (hk := rfl) (by omega) Tryz.underlying80 Tryz.sizeOf54)) ?_
       refine zaf<|zaf<|zan X X X X X X ⟨t_kr, X, t_kr, X, t_kr, X, X, t_kr, (zY X (zY X (zY X (zY X cx_nil))))⟩ ?_
       intro hE308 w309 _ le310 st311 gv0_x307 gf0_x307 _ _
       have st312 := st311.snoc
       have f313 := OSl.nil LHead 54 hE308
       have f314 := OSl.nil0 LHead 54 hE308 gf0_x307
       refine zP (k := 0) (nb := 24) st312 f314 rfl (f293.up (((le35.trans s197.le).trans s290.le).trans le310)) rfl rfl rfl Tryz.underlying80 Tryz.info54 rfl rfl rfl (by decide) rfl t_len t_len ?_
       intro v315 o316 w317 _ e318 f319 st320
       subst e318
       refine U ⟨_, rfl, _, _, Le.refl _, st320, ?_⟩
       intro hE322 w323 _ le324 st325 gv9_0x321 gf9_0x321
       refine zP (k := 0) (nb := 24) st325 (f319.up le324) rfl gf9_0x321 rfl rfl rfl Tryz.underlying80 Tryz.info54 rfl rfl rfl (by decide) rfl t_len t_len ?_
       intro v326 o327 w328 _ e329 f330 st331
       subst e329
       refine U ⟨_, rfl, _, _, Le.refl _, st331, ?_⟩
       intro hE333 w334 _ le335 st336 _ _
       refine zP (k := 0) (nb := 24) st336 (f330.up le335) rfl (f294.up (((((le35.trans s197.le).trans s290.le).trans le310).trans le324).trans le335)) rfl rfl rfl Tryz.underlying80 Tryz.info54 rfl rfl rfl (by decide) rfl t_len t_len ?_
       intro v337 o338 w339 _ e340 f341 st342
       subst e340
       refine U ⟨_, rfl, _, _, Le.refl _, st342, ?_⟩
       intro hE344 w345 _ le346 st347 gv0_x343 gf0_x343 _ _ _ _ _ _ _ _ _ _ _ _ _ _ gv9_0x343 gf9_0x343 _ _ _ _ _ _
       refine Y X X (zD (v := v337) X) ?_
       refine U ⟨_, rfl, _, _, Le.refl _, st347, ?_⟩
       intro hE348 w349 _ le350 st351 gv0_x352 gf0_x352 _ _ _ _ _ _ _ _ _ _ _ _ _ _ gv9_0x352 gf9_0x352 _ _ _ _ _ _
       refine AllDeps.fin X<|zI<|M<|O<|Y X X (zo X)<|Y X X (zah X X t_om)<|Y X X (zx X)<|U<|M ?_
       obtain ⟨h353, le354, f355, st356⟩ := OSl.freeze (k := 0) st351 (f341.up (le346.trans le350)) rfl t_len
       refine ⟨⟨i + 1, v337, h353⟩, ⟨rfl, rfl, trivial⟩, ?_, ⟨(((((((((le30.trans le35).trans s197.le).trans s290.le).trans le310).trans le324).trans le335).trans le346).trans le350).trans le354), st356.take 0, ?_, ?_⟩, ?_⟩
       ·exact zae
       ·refine Sl.to f355 ?_
        rw [take_snoc hhd, setL_snoc]
        first | exact (insBy_old hb h2 (by simp_all)).symm | exact (insBy_new hb h2 (by first | (simp_all; done) | (intro q; have := (List.getElem?_eq_some_iff.1 q).1; omega))).symm | (rw [insBy_new hb h2 (by first | (simp_all; done) | (intro q; have := (List.getElem?_eq_some_iff.1 q).1; omega))]; simp)
       ·first | omega | (simp; omega)
       ·show (headsL t x).length - ((i + 1)) < (headsL t x).length - i
        omega
      ·
       replace c292 := of_decide_eq_false c292
       refine zz<|zI<|M<|O<|Y X X (zo X)<|Y X X (zah X X t_om)<|Y X X (zx X)<|U<|M ?_
       refine ⟨⟨i + 1, v_7, h289⟩, ⟨rfl, rfl, trivial⟩, ?_, ⟨(((le30.trans le35).trans s197.le).trans s290.le), st291, ?_, ?_⟩, ?_⟩
       ·exact zae
       ·refine Sl.to (hF_7.up ((le35.trans s197.le).trans s290.le)) ?_
        rw [take_snoc hhd, setL_snoc]
        first | exact (insBy_old hb h2 (by simp_all)).symm | exact (insBy_new hb h2 (by first | (simp_all; done) | (intro q; have := (List.getElem?_eq_some_iff.1 q).1; omega))).symm | (rw [insBy_new hb h2 (by first | (simp_all; done) | (intro q; have := (List.getElem?_eq_some_iff.1 q).1; omega))]; simp)
       ·first | omega | (simp; omega)
       ·show (headsL t x).length - ((i + 1)) < (headsL t x).length - i
        omega
  ·
   replace c33 := of_decide_eq_false c33
   refine zab<|zn<|zn<|zT<|M<|zd<|O<|Y X X (zy (v := v_7) X)<|Y X X (zD (v := v_7) X)<|Y X X (zx X)<|U<|M<|zA<|zS Tryz.results34 ?_
   refine ⟨h29, _, rfl, st31.done, ?_⟩
   refine ⟨_, tup2 rfl (zW ?_), Sl.to hF_7 ?_⟩
   ·exact hx0.symm
   ·rw [List.take_of_length_le (by omega)]; simp [headsN, hx0]
end Go.Pk
