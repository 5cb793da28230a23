/- A PART OF THE PROOF: contracts of functions, each walked once (much of it printed by a program of the author's own). -/
import Derived.Test.YtfpiiheehdedmaaGreatDoorT7
import Derived.Test.YtfpiiheehdedmaaGreatDoorT2
import Derived.Test.YtfpiiheehdedmaaGreatDoorT1
import Derived.Test.YtfpiiheehdedmaaGreatDoorT5
import Derived.Test.YtfpiiheehdedmaaGreatDoorT6
set_option linter.unusedSimpArgs false
set_option linter.unusedVariables false
set_option maxRecDepth 4000
namespace Go.Pk
open Go Go.RowKit Go.Proofs
theorem c_leaf_open {h : Heap} {w : World} (hs : Sub h w) {t : Text} {t_v0 : Value} (t_f0 : Sl LChapter h t_v0 t.chapters) : Calls Tryz.prog 162 #[.agg #[t_v0]] w (Rets h w (fun h' _ res_ => ∃ u0, res_ = .tuple #[u0, .int .i64 ((if zbu t then 0 else 10))] ∧ Box LText h' (zbu t) t u0)) := by
 refine zS (n := 13) Tryz.func162 X X X<|have st0:=t_s0 hs;have t_f0_b:=t_f0.le;W.sr<|zG st0 (cs := [t_v0]) X X X<|fun b1 w2 h3 le4 hc5 st6=>zaj X X<|zz X X<|Y<|zj<|W.sr<|zy st6.sub hc5 X zaO zac X X<|zn st6 X X X Tryz.call131 X (c_leaf_Check st6.sub (t := t) (t_f0.up le4))<|fun r7 w8 h9 le10 st11 q12=> ?_
 obtain rfl := q12
 refine zz X X<|Y<|W.sr<|zk X X<|zcF X X X<|Y ?_
 refine zH rfl (fun c13 => ?_) (fun c13 => ?_)
 ·
  refine W.sr<|zk X X<|zaj X X<|zz X X<|Y<|zB<|zd<|zbs Tryz.results162 ?_
  refine ⟨h9, _, rfl, st11.done, ?_⟩
  refine ⟨_, tup2 rfl (zar ?_), Box.nil ?_⟩
  ·simp_all
  simp_all
 refine zC<|O<|W.sr<|zy st11.sub (hc5.up le10) X zaO zac X X ?_
 refine zq rfl rfl (zbW (cs := [t_v0]) (by obtain ⟨_, _, rfl⟩ := Sl.form t_f0; kernel_rfl)) ?_
 refine zG st11 (cs := [t_v0]) X X X<|fun b14 w15 h16 le17 hc18 st19=>v_asP X X<|zz X X<|Y<|zB<|zbs Tryz.results162 ?_
 refine ⟨h16, _, rfl, st19.done, ?_⟩
 refine ⟨_, tup2 rfl (zar ?_), Box.some ?_ hc18 ⟨_, rfl, (t_f0.up ((le4.trans le10).trans le17))⟩⟩
 ·simp_all
 simp_all
theorem zit {h : Heap} {w : World} (hs : Sub h w) {t_b : Nat} {t : Text} {t_v0 : Value} (t_f0 : Sl LChapter h t_v0 t.chapters) (t_c : Cells h t_b 0 [t_v0]) {p : Place} : Calls Tryz.prog 122 #[.pointer (some ⟨t_b, 0, none⟩), .agg #[.int .i64 p.chapter, .int .i64 p.line, .int .i64 p.word]] w (Rets h w (fun h' _ res_ => ∃ u0, res_ = u0 ∧ Sl LStr h' u0 ((zcT t p).getD []))) := by
 refine zS (n := 50) Tryz.func122 X X X<|have st0:=t_s0 hs;have t_f0_b:=t_f0.le;W.sr<|zG st0 (cs := [.int .i64 (p.chapter), .int .i64 (p.line), .int .i64 (p.word)]) X X X<|fun b1 w2 h3 le4 hc5 st6=>zcz X X<|Y<|zj<|zj ?_
 rcases Bool.eq_false_or_eq_true ((!(zcJ (([(p.chapter)])) (0) (((t.chapters.length : Int) - 1))))) with g7 | g7
 ·
  have g7_r := g7
  refine zbh (er := ([], [], [], [], 0)) (dsts := [5, 6, 7, 8, 9, 10, 11, 12, 13, 14, 15, 16, 17, 18, 19, 20, 21, 22, 23, 24, 25, 26, 27, 28, 29, 30, 31, 32, 33, 34, 35]) st6 Tryz.mixed<|zf 0 [] X t_kr t_kr X X (fun hD wD τD hL hS hO  => (r_mvP X))<|zf 1 [0] X t_kr t_kr X X (fun hD wD τD hL hS hO _ _ => (zdv X))<|zf 2 [0] X t_kr t_kr X X (fun hD wD τD hL hS hO _ _ => (zL X Tryz.underlying240 X zac X))<|zf 3 [0] X t_kr t_kr X X (fun hD wD τD hL hS hO _ _ => (zL X zaF X zbi X))<|zf 4 [0] X t_kr t_kr X X (fun hD wD τD hL hS hO _ _ => (ze (j := 0) (hL.sub hS) (t_c.up le4) X X X zby))<|zf 5 [0] X t_kr t_kr X X (fun hD wD τD hL hS hO _ _ => (r_len (t_f0.up le4) X zay))<|zf 6 [0] X t_kr t_kr X X (fun hD wD τD hL hS hO _ _ => (r_sub X X t_om))<|zf 7 [] X t_kr t_kr X X (fun hD wD τD hL hS hO  => (zL X zan X zr X))<|zf 8 [0] X t_kr t_kr X X (fun hD wD τD hL hS hO _ _ => (ze (j := 0) (hL.sub hS) hc5 X X X zN)) ?_
  refine zax 9 (.res (fun h' res_ => Sl LInt h' res_ ([(p.chapter)])) (fun _ _ _ hl f => f.up hl)) [0] rfl t_kr t_kr ?_ ?_
  ·
   intro hD wD τD hL hS hO _ _
   have st8 := St.start hS
   refine zaL (L := LInt) (xs := [(p.chapter)]) (cs := [.int .i64 (p.chapter)]) st8 (Enc.cons (L := LInt) (vs := [.int .i64 (p.chapter)]) (x := (p.chapter)) (h := hD) (X) Enc.nil) X X X zp Tryz.info3 X X X t_kr<|fun v9 w10 h13 le14 f11 st12=> ?_
   exact zt ⟨_, _, rfl, st12, _, rfl, f11⟩
  refine zax 10 (.det (.bool (zcJ (([(p.chapter)])) (0) (((t.chapters.length : Int) - 1))))) [3, 0] rfl t_kr t_kr ?_ ?_
  ·
   intro hD wD τD hL hS hO _ _ gv9_0 gf9_0
   have st15 := St.start hS
   refine zn st15 X X X zft X (zfn st15.sub _ _ gf9_0)<|fun r16 w17 h18 le19 st20 q21=> ?_
   obtain rfl := q21
   exact zt ⟨_, _, rfl, st20, (), rfl, trivial⟩
  refine zf 11 [0] X t_kr t_kr X X (fun hD wD τD hL hS hO _ _ => (Run.lit (r_not X) g7_r))<|zf 12 [0, 1] X t_kr t_kr X X (fun hD wD τD hL hS hO _ _ _ _ => (zfv X))<|zaZ 13 [0] X t_kr t_kr X X X X (fun hD wD τD hL hS hO _ _ => X)<|zaZ 14 [0, 1] X t_kr t_kr X X X X (fun hD wD τD hL hS hO _ _ _ _ => X)<|zaZ 15 [0, 2] X t_kr t_kr X X X X (fun hD wD τD hL hS hO _ _ _ _ => X)<|zaZ 16 [0, 3] X t_kr t_kr X X X X (fun hD wD τD hL hS hO _ _ _ _ => X)<|zaZ 17 [0, 4] X t_kr t_kr X X X X (fun hD wD τD hL hS hO _ _ _ _ => X)<|zaZ 18 [5] X t_kr t_kr X X X X (fun hD wD τD hL hS hO _ _ => X)<|zaZ 19 [0, 6] X t_kr t_kr X X X X (fun hD wD τD hL hS hO _ _ _ _ => X)<|zaZ 20 [2, 0, 7] X t_kr t_kr X X X X (fun hD wD τD hL hS hO _ _ _ _ _ _ => X)<|zaZ 21 [0, 8] X t_kr t_kr X X X X (fun hD wD τD hL hS hO _ _ _ _ => X)<|zaZ 22 [0, 9] X t_kr t_kr X X X X (fun hD wD τD hL hS hO _ _ _ _ => X)<|zaZ 23 [0, 10] X t_kr t_kr X X X X (fun hD wD τD hL hS hO _ _ _ _ => X)<|zaZ 24 [0, 11] X t_kr t_kr X X X X (fun hD wD τD hL hS hO _ _ _ _ => X)<|zaZ 25 [12] X t_kr t_kr X X X X (fun hD wD τD hL hS hO _ _ => X)<|zaZ 26 [0, 13] X t_kr t_kr X X X X (fun hD wD τD hL hS hO _ _ _ _ => X)<|zaZ 27 [0, 14] X t_kr t_kr X X X X (fun hD wD τD hL hS hO _ _ _ _ => X)<|zaZ 28 [3, 0, 15] X t_kr t_kr X X X X (fun hD wD τD hL hS hO _ _ _ _ _ _ => X)<|zaZ 29 [0, 16] X t_kr t_kr X X X X (fun hD wD τD hL hS hO _ _ _ _ => X)<|zf 30 [17, 0] X t_kr t_kr X X (fun hD wD τD hL hS hO _ _ _ _ => (zhf (v := (.bool _)) X X))<|zbN X X X X X X ⟨t_kr, X, t_kr, X, t_kr, X, X, t_kr, zcl⟩<|fun hE22 w23 _ le24 st25 _ _ _ _ _ _ _ _ _ _ _ _ _ _ _ _ _ _ gv9_0x26 gf9_0x26 _ _ _ _ _ _ _ _ _ _ _ _ _ _ _ _ _ _ _ _ _ _ _ _ _ _ _ _ _ _ _ _ _ _ _ _ _ _ _ _ _ _=>AllDeps.fin X<|O ?_
  refine zad rfl (fun c27 => ?_) (fun c27 => ?_)
  ·
   refine W.sr<|zcz X X<|Y<|zB<|zd<|zc Tryz.results122 ?_
   refine ⟨hE22, _, rfl, st25.done, ?_⟩
   refine ⟨_, rfl, Sl.to (Sl.nil _ _) ?_⟩
   have q : zcT t p = none := line_none1 (by
    have q := g7
    simp [zcJ, inB] at q
    omega)
   simp [q]
  cases c27
 have g7_r := g7
 have q1 : 0 ≤ p.chapter ∧ p.chapter < t.chapters.length := by
  have q := g7
  simp [zcJ, inB] at q
  omega
 obtain ⟨c, hc⟩ : ∃ y_, (t.chapters)[p.chapter.toNat]? = some y_ := t_ge (by omega)
 obtain ⟨b28, o29, _, he31, hc30, hr_c⟩ := Sl.elem (t_f0.up le4) hc
 obtain ⟨v32, rfl, f33⟩ := hr_c
 have f33_b := f33.le
 refine zbh (er := ([], [], [], [], 0)) (dsts := [5, 6, 7, 8, 9, 10, 11, 12, 13, 14, 15, 16, 17, 18, 19, 20, 21, 22, 23, 24, 25, 26, 27, 28, 29, 30, 31, 32, 33, 34, 35]) st6 Tryz.mixed<|zf 0 [] X t_kr t_kr X X (fun hD wD τD hL hS hO  => (r_mvP X))<|zf 1 [0] X t_kr t_kr X X (fun hD wD τD hL hS hO _ _ => (zdv X))<|zf 2 [0] X t_kr t_kr X X (fun hD wD τD hL hS hO _ _ => (zL X Tryz.underlying240 X zac X))<|zf 3 [0] X t_kr t_kr X X (fun hD wD τD hL hS hO _ _ => (zL X zaF X zbi X))<|zf 4 [0] X t_kr t_kr X X (fun hD wD τD hL hS hO _ _ => (ze (j := 0) (hL.sub hS) (t_c.up le4) X X X zby))<|zf 5 [0] X t_kr t_kr X X (fun hD wD τD hL hS hO _ _ => (r_len (t_f0.up le4) X zay))<|zf 6 [0] X t_kr t_kr X X (fun hD wD τD hL hS hO _ _ => (r_sub X X t_om))<|zf 7 [] X t_kr t_kr X X (fun hD wD τD hL hS hO  => (zL X zan X zr X))<|zf 8 [0] X t_kr t_kr X X (fun hD wD τD hL hS hO _ _ => (ze (j := 0) (hL.sub hS) hc5 X X X zN)) ?_
 refine zax 9 (.res (fun h' res_ => Sl LInt h' res_ ([(p.chapter)])) (fun _ _ _ hl f => f.up hl)) [0] rfl t_kr t_kr ?_ ?_
 ·
  intro hD wD τD hL hS hO _ _
  have st34 := St.start hS
  refine zaL (L := LInt) (xs := [(p.chapter)]) (cs := [.int .i64 (p.chapter)]) st34 (Enc.cons (L := LInt) (vs := [.int .i64 (p.chapter)]) (x := (p.chapter)) (h := hD) (X) Enc.nil) X X X zp Tryz.info3 X X X t_kr<|fun v35 w36 h39 le40 f37 st38=> ?_
  exact zt ⟨_, _, rfl, st38, _, rfl, f37⟩
 refine zax 10 (.det (.bool (zcJ (([(p.chapter)])) (0) (((t.chapters.length : Int) - 1))))) [3, 0] rfl t_kr t_kr ?_ ?_
 ·
  intro hD wD τD hL hS hO _ _ gv9_0 gf9_0
  have st41 := St.start hS
  refine zn st41 X X X zft X (zfn st41.sub _ _ gf9_0)<|fun r42 w43 h44 le45 st46 q47=> ?_
  obtain rfl := q47
  exact zt ⟨_, _, rfl, st46, (), rfl, trivial⟩
 refine zf 11 [0] X t_kr t_kr X X (fun hD wD τD hL hS hO _ _ => (Run.lit (r_not X) g7_r))<|zf 12 [0, 1] X t_kr t_kr X X (fun hD wD τD hL hS hO _ _ _ _ => (zfv X))<|zbk 13 [0] X t_kr t_kr X X X (fun hD wD τD hL hS hO _ _ => ⟨rfl, (r_mvP X)⟩)<|zbk 14 [0, 1] X t_kr t_kr X X X (fun hD wD τD hL hS hO _ _ _ _ => ⟨rfl, (zdv X)⟩)<|zbk 15 [0, 2] X t_kr t_kr X X X (fun hD wD τD hL hS hO _ _ _ _ => ⟨rfl, (zL X Tryz.underlying240 X zac X)⟩)<|zbk 16 [0, 3] X t_kr t_kr X X X (fun hD wD τD hL hS hO _ _ _ _ => ⟨rfl, (zL X zaF X zbi X)⟩)<|zbk 17 [0, 4] X t_kr t_kr X X X (fun hD wD τD hL hS hO _ _ _ _ => ⟨rfl, (ze (j := 0) (hL.sub hS) (t_c.up le4) X X X zby)⟩)<|zbk 18 [5] X t_kr t_kr X X X (fun hD wD τD hL hS hO _ _ => ⟨rfl, (zL X zan X zr X)⟩)<|zbk 19 [0, 6] X t_kr t_kr X X X (fun hD wD τD hL hS hO _ _ _ _ => ⟨rfl, (ze (j := 0) (hL.sub hS) hc5 X X X zN)⟩) ?_
 refine zbk 20 [2, 0, 7] rfl t_kr t_kr rfl rfl rfl (fun hD wD τD hL hS hO _ _ _ _ _ _ => ⟨rfl, (zao he31 rfl rfl (hk := (show _ = ((p.chapter.toNat : Nat) : Int) by omega)) (hu := zay) (hz := zbg))⟩) ?_
 refine zbk 21 [0, 8] X t_kr t_kr X X X (fun hD wD τD hL hS hO _ _ _ _ => ⟨rfl, (zL X zal X zbq X)⟩)<|zbk 22 [0, 9] X t_kr t_kr X X X (fun hD wD τD hL hS hO _ _ _ _ => ⟨rfl, (ze (j := 1) (hL.sub hS) hc30 X X X zbH)⟩)<|zbk 23 [0, 10] X t_kr t_kr X X X (fun hD wD τD hL hS hO _ _ _ _ => ⟨rfl, (r_len f33 X zaH)⟩)<|zbk 24 [0, 11] X t_kr t_kr X X X (fun hD wD τD hL hS hO _ _ _ _ => ⟨rfl, (r_sub X X t_om)⟩)<|zbk 25 [12] X t_kr t_kr X X X (fun hD wD τD hL hS hO _ _ => ⟨rfl, (zL X zan X zr X)⟩)<|zbk 26 [0, 13] X t_kr t_kr X X X (fun hD wD τD hL hS hO _ _ _ _ => ⟨rfl, (ze (j := 1) (hL.sub hS) hc5 X X X zN)⟩) ?_
 refine zax 27 (.res (fun h' res_ => Sl LInt h' res_ ([(p.line)])) (fun _ _ _ hl f => f.up hl)) [0, 14] rfl t_kr t_kr ?_ ?_
 ·
  intro hD wD τD hL hS hO _ _ _ _
  have st48 := St.start hS
  refine M X X X<|zaL (L := LInt) (xs := [(p.line)]) (cs := [.int .i64 (p.line)]) st48 (Enc.cons (L := LInt) (vs := [.int .i64 (p.line)]) (x := (p.line)) (h := hD) (X) Enc.nil) X X X zp Tryz.info3 X X X t_kr<|fun v49 w50 h53 le54 f51 st52=> ?_
  exact zt ⟨_, _, rfl, st52, _, rfl, f51⟩
 refine zax 28 (.det (.bool (zcJ (([(p.line)])) (0) (((c.lines.length : Int) - 1))))) [3, 0, 15] rfl t_kr t_kr ?_ ?_
 ·
  intro hD wD τD hL hS hO _ _ gv27_0 gf27_0 _ _
  have st55 := St.start hS
  refine M X X X<|zn st55 X X X zft X (zfn st55.sub _ _ gf27_0)<|fun r56 w57 h58 le59 st60 q61=> ?_
  obtain rfl := q61
  exact zt ⟨_, _, rfl, st60, (), rfl, trivial⟩
 refine zbk 29 [0, 16] X t_kr t_kr X X X (fun hD wD τD hL hS hO _ _ _ _ => ⟨rfl, (r_not X)⟩)<|zf 30 [17, 0] X t_kr t_kr X X (fun hD wD τD hL hS hO _ _ _ _ => (zgf (v := (.bool _)) X X))<|zbN X X X X X X ⟨t_kr, X, t_kr, X, t_kr, X, X, t_kr, zcl⟩<|fun hE62 w63 _ le64 st65 _ _ _ _ _ _ _ _ _ _ _ _ _ _ _ _ _ _ gv9_0x66 gf9_0x66 _ _ _ _ _ _ _ _ _ _ _ _ _ _ _ _ _ _ _ _ _ _ _ _ _ _ _ _ _ _ _ _ _ _ gv27_0x66 gf27_0x66 _ _ _ _ _ _=>AllDeps.fin X<|O ?_
 refine zad rfl (fun c67 => ?_) (fun c67 => ?_)
 ·
  refine W.sr<|zcz X X<|Y<|zB<|zd<|zc Tryz.results122 ?_
  refine ⟨hE62, _, rfl, st65.done, ?_⟩
  refine ⟨_, rfl, Sl.to (Sl.nil _ _) ?_⟩
  have q : zcT t p = none := line_none2 hc (by
   have q := c67
   simp [zcJ, inB] at q
   omega)
  simp [q]
 refine zC<|O<|zj ?_
 have q1 : 0 ≤ p.chapter ∧ p.chapter < t.chapters.length ∧ 0 ≤ p.line ∧ p.line < c.lines.length := by
  have q := g7
  have q0 := c67
  simp [zcJ, inB] at q q0
  omega
 refine zbj Tryz.mixed t_kr (Cls hE62 _) (Cls.drew st65)<|u_mvP X X<|zl X X (fun _ _ => (zdv X))<|zD X Tryz.underlying240 X zac X X<|zD X zaF X zbi X X<|have l68:=le4.trans le64;zl X X (fun _ hC => (ze (j := 0) hC.sub (t_c.up l68) X X X zby))<|zD X zan X zr X X<|zl X X (fun _ hC => (ze (j := 0) hC.sub (hc5.up le64) X X X zN)) ?_
 refine zl rfl rfl (fun _ _ => (zao he31 rfl rfl (hk := (show _ = ((p.chapter.toNat : Nat) : Int) by omega)) (hu := zay) (hz := zbg))) ?_
 refine zD X zal X zbq X X<|zl X X (fun _ hC => (ze (j := 1) hC.sub (hc30.up le64) X X X zbH))<|zD X zan X zr X X<|zl X X (fun _ hC => (ze (j := 1) hC.sub (hc5.up le64) X X X zN)) ?_
 obtain ⟨ln, hln⟩ : ∃ y_, (c.lines)[p.line.toNat]? = some y_ := t_ge (by omega)
 obtain ⟨b69, o70, _, he72, hc71, hr_ln⟩ := Sl.elem (f33.up le64) hln
 obtain ⟨v73, rfl, f74⟩ := hr_ln
 have f74_b := f74.le
 refine zl rfl rfl (fun _ _ => (zao he72 rfl rfl (hk := (show _ = ((p.line.toNat : Nat) : Int) by omega)) (hu := zaH) (hz := zcV))) ?_
 refine zl X X (fun _ hC => (ze (j := 0) hC.sub hc71 X X X zdk))<|u_assign (v := v73) X X<|zaN ?_
 rintro w75 ⟨h76, s77⟩
 have st78 := st65.call0 s77
 refine O<|zB<|zc Tryz.results122 ?_
 refine ⟨h76, _, rfl, st78.done, ?_⟩
 refine ⟨_, rfl, Sl.to (f74.up s77.le) ?_⟩
 rw [line_some hc q1.1 hln q1.2.2.1]; rfl
theorem c_leaf_book_has {h : Heap} {w : World} (hs : Sub h w) {t_b : Nat} {t : Text} {t_v0 : Value} (t_f0 : Sl LChapter h t_v0 t.chapters) (t_c : Cells h t_b 0 [t_v0]) {p : Place} : Calls Tryz.prog 163 #[.pointer (some ⟨t_b, 0, none⟩), .agg #[.int .i64 p.chapter, .int .i64 p.line, .int .i64 p.word]] w (Rets h w (fun _ _ res_ => res_ = .bool (zbB t p))) := by
 refine zS (n := 14) Tryz.func163 X X X<|have st0:=t_s0 hs;have t_f0_b:=t_f0.le;W.sr<|zG st0 (cs := [.int .i64 (p.chapter), .int .i64 (p.line), .int .i64 (p.word)]) X X X<|fun b1 w2 h3 le4 hc5 st6=>zJ X X<|Y<|zj<|have qb:=line_le t_f0 p;zbh (er := ([], [], [], [], 0)) (dsts := [5, 6, 7, 8, 9, 10, 11, 12, 13, 4]) st6 Tryz.mixed<|zf 0 [] X t_kr t_kr X X (fun hD wD τD hL hS hO  => (r_mvP X))<|zf 1 [] X t_kr t_kr X X (fun hD wD τD hL hS hO  => (zZ (hL.sub hS) hc5 X zaD zO X)) ?_
 refine zax 2 (.res (fun h' res_ => Sl LStr h' res_ ((zcT (t) (p)).getD [])) (fun _ _ _ hl f => f.up hl)) [1, 0] rfl t_kr t_kr ?_ ?_
 ·
  intro hD wD τD hL hS hO _ _ _ _
  have st7 := St.start hS
  refine zn st7 X X X Tryz.call122 X (zit st7.sub (t := t) (t_f0.up (le4.trans hL)) (t_c.up (le4.trans hL)) (p := p))<|fun r8 w9 h10 le11 st12 q13=> ?_
  obtain ⟨v14, e16, f15⟩ := q13
  rw [← e16] at f15
  have f15_b := f15.le
  exact zt ⟨_, _, rfl, st12, _, rfl, f15⟩
 refine zax 3 (.det (.int .i64 (((zcT (t) (p)).getD []).length : Int))) [0] rfl t_kr t_kr ?_ ?_
 ·
  intro hD wD τD hL hS hO gv2_0 gf2_0
  have st17 := St.start hS
  refine zaJ gf2_0 X zA X ?_
  exact zt ⟨_, _, rfl, st17, (), rfl, trivial⟩
 refine zf 4 [0] X t_kr t_kr X X (fun hD wD τD hL hS hO _ _ => (r_sub X X t_om))<|zf 5 [] X t_kr t_kr X X (fun hD wD τD hL hS hO  => (zL X zan X zr X))<|zf 6 [0] X t_kr t_kr X X (fun hD wD τD hL hS hO _ _ => (ze (j := 2) (hL.sub hS) hc5 X X X zN)) ?_
 refine zax 7 (.res (fun h' res_ => Sl LInt h' res_ ([(p.word)])) (fun _ _ _ hl f => f.up hl)) [0] rfl t_kr t_kr ?_ ?_
 ·
  intro hD wD τD hL hS hO _ _
  have st18 := St.start hS
  refine zaL (L := LInt) (xs := [(p.word)]) (cs := [.int .i64 (p.word)]) st18 (Enc.cons (L := LInt) (vs := [.int .i64 (p.word)]) (x := (p.word)) (h := hD) (X) Enc.nil) X X X zp Tryz.info3 X X X t_kr<|fun v19 w20 h23 le24 f21 st22=> ?_
  exact zt ⟨_, _, rfl, st22, _, rfl, f21⟩
 refine zax 8 (.det (.bool (zcJ (([(p.word)])) (0) (((((zcT (t) (p)).getD []).length : Int) - 1))))) [3, 0, 5] rfl t_kr t_kr ?_ ?_
 ·
  intro hD wD τD hL hS hO _ _ gv7_0 gf7_0 gv2_0 gf2_0
  have st25 := St.start hS
  refine zn st25 X X X zft X (zfn st25.sub _ _ gf7_0)<|fun r26 w27 h28 le29 st30 q31=> ?_
  obtain rfl := q31
  exact zt ⟨_, _, rfl, st30, (), rfl, trivial⟩
 refine zf 9 [8, 7, 6, 5, 4, 3, 2, 1, 0] X t_kr t_kr X X (fun hD wD τD hL hS hO _ _ _ _ gv2_0 gf2_0 _ _ _ _ _ _ _ _ gv7_0 gf7_0 _ _ => (r_asB X))<|zbN X X X X X X ⟨t_kr, X, t_kr, X, t_kr, X, X, t_kr, zcl⟩<|fun hE32 w33 _ le34 st35 _ _ _ _ gv2_0x36 gf2_0x36 _ _ _ _ _ _ _ _ gv7_0x36 gf7_0x36 _ _ _ _=>AllDeps.fin X<|O<|zB<|zc Tryz.results163 ?_
 refine ⟨hE32, _, rfl, st35.done, ?_⟩
 refine zw ?_
 rw [place_eq]
 cases hq : zcT t p with
 | none => simp [zcJ, inB]; omega
 | some l => simp [zcJ]
theorem c_leaf_placed {h : Heap} {w : World} (hs : Sub h w) {t : Text} {t_v0 : Value} (t_f0 : Sl LChapter h t_v0 t.chapters) {p : Place} : Calls Tryz.prog 121 #[.agg #[t_v0], .agg #[.int .i64 p.chapter, .int .i64 p.line, .int .i64 p.word]] w (Rets h w (fun h' _ res_ => ∃ u0, res_ = .tuple #[u0, .int .i64 ((if zbu t && zbB t p then 0 else if zbu t then 12 else 10))] ∧ Box LText h' (zbu t && zbB t p) t u0)) := by
 refine zS (n := 21) Tryz.func121 X X X<|have st0:=t_s0 hs;have t_f0_b:=t_f0.le;W.sr<|zG st0 (cs := [t_v0]) X X X<|fun b1 w2 h3 le4 hc5 st6=>zG st6 (cs := [.int .i64 (p.chapter), .int .i64 (p.line), .int .i64 (p.word)]) X X X<|fun b7 w8 h9 le10 hc11 st12=>zaj X X<|zz X X<|Y<|W.sr<|zy st12.sub (hc5.up le10) X zaO zac X X<|have l13:=le4.trans le10;zn st12 X X X Tryz.call162 X (c_leaf_open st12.sub (t := t) (t_f0.up l13))<|fun r14 w15 h16 le17 st18 q19=> ?_
 rcases Bool.eq_false_or_eq_true (zbu (t)) with hb20 | hb20
 ·
  simp only [hb20, if_true, if_false, Bool.false_eq_true, reduceIte] at q19
  obtain ⟨v21, rfl, f22⟩ := q19
  obtain ⟨b23, vs24, rfl, hc25, hr26⟩ := f22
  obtain ⟨v27, rfl, f28⟩ := hr26
  have f28_b := f28.le
  refine zdu X X<|zak (v := (.pointer (some _))) X X X<|zak (v := (.int _ _)) X X X<|v_asP X X<|zz X X<|Y<|zj<|W.sr<|zk X X<|zcF X X X<|Y ?_
  refine zad rfl (fun c29 => ?_) (fun c29 => ?_)
  ·
   exact absurd c29 (by decide)
  refine zC<|O<|zj<|W.sr<|v_mvP X X<|zy st18.sub (hc11.up le17) X zaD zO X X<|zn st18 X X X Tryz.call163 X (c_leaf_book_has st18.sub (t := (t)) f28 hc25 (p := p))<|fun r30 w31 h32 le33 st34 q35=> ?_
  obtain rfl := q35
  refine zbQ X X<|Y ?_
  refine zad rfl (fun c36 => ?_) (fun c36 => ?_)
  ·
   refine W.sr<|zaj X X<|zz X X<|Y<|zB<|zd<|zbs Tryz.results121 ?_
   refine ⟨h32, _, rfl, st34.done, ?_⟩
   refine ⟨_, tup2 rfl (zar ?_), Box.nil ?_⟩
   ·simp_all
   simp_all
  refine zC<|O<|W.sr<|v_mvP X X<|v_asP X X<|zz X X<|Y<|zB<|zbs Tryz.results121 ?_
  refine ⟨h32, _, rfl, st34.done, ?_⟩
  refine ⟨_, tup2 rfl (zar ?_), Box.some ?_ (hc25.up le33) ⟨_, rfl, (f28.up le33)⟩⟩
  ·simp_all
  simp_all
 simp only [hb20, if_true, if_false, Bool.false_eq_true, reduceIte] at q19
 obtain ⟨v37, rfl, f38⟩ := q19
 obtain rfl := f38
 refine zdu X X<|zak (v := (.pointer none)) X X X<|zak (v := (.int _ _)) X X X<|zaj X X<|zz X X<|Y<|zj<|W.sr<|zk X X<|zcF X X X<|Y ?_
 refine zad rfl (fun c39 => ?_) (fun c39 => ?_)
 ·
  refine W.sr<|zk X X<|zaj X X<|zz X X<|Y<|zB<|zd<|zbs Tryz.results121 ?_
  refine ⟨h16, _, rfl, st18.done, ?_⟩
  refine ⟨_, tup2 rfl (zar ?_), Box.nil ?_⟩
  ·simp_all
  simp_all
 exact absurd c39 (by decide)
theorem zgJ {h : Heap} {w : World} (hs : Sub h w) {t : Text} {t_v0 : Value} (t_f0 : Sl LChapter h t_v0 t.chapters) {p : Place} : Calls Tryz.prog 85 #[.agg #[t_v0], .agg #[.int .i64 p.chapter, .int .i64 p.line, .int .i64 p.word]] w (Rets h w (fun _ _ res_ => res_ = .tuple #[strV ((if zbu t then (zgA t p).getD [] else [])), .int .i64 ((if zbu t && zbB t p then 0 else if zbu t then 12 else 10))])) := by
 refine zS (n := 24) Tryz.func85 X X X<|have st0:=t_s0 hs;have t_f0_b:=t_f0.le;W.sr<|zG st0 (cs := [t_v0]) X X X<|fun b1 w2 h3 le4 hc5 st6=>zG st6 (cs := [.int .i64 (p.chapter), .int .i64 (p.line), .int .i64 (p.word)]) X X X<|fun b7 w8 h9 le10 hc11 st12=>zdR X X<|zz X X<|Y<|W.sr<|zy st12.sub (hc5.up le10) X zaO zac X X<|zy st12.sub hc11 X zaD zO X X<|have l13:=le4.trans le10;zn st12 X X X Tryz.call121 X (c_leaf_placed st12.sub (t := t) (t_f0.up l13) (p := p))<|fun r14 w15 h16 le17 st18 q19=> ?_
 rcases Bool.eq_false_or_eq_true (zbu (t) && zbB (t) (p)) with hb20 | hb20
 ·
  simp only [hb20, if_true, if_false, Bool.false_eq_true, reduceIte] at q19
  obtain ⟨v21, rfl, f22⟩ := q19
  obtain ⟨b23, vs24, rfl, hc25, hr26⟩ := f22
  obtain ⟨v27, rfl, f28⟩ := hr26
  have f28_b := f28.le
  refine zdu X X<|zak (v := (.pointer (some _))) X X X<|zak (v := (.int _ _)) X X X<|v_asP X X<|zz X X<|Y<|zj<|W.sr<|zk X X<|zcF X X X<|Y ?_
  refine zad rfl (fun c29 => ?_) (fun c29 => ?_)
  ·
   exact absurd c29 (by decide)
  refine zC<|O<|zj ?_
  have q1 : zbB t p = true := by simp_all
  have q2 := place_eq t p
  have q3 : 0 ≤ p.word ∧ p.word < (((zcT t p).getD []).length : Int) := by
   rw [q1] at q2
   simp [inB] at q2
   omega
  obtain ⟨wd, hwd⟩ : ∃ y_, (((zcT ((t)) (p)).getD []))[p.word.toNat]? = some y_ := t_ge (by omega)
  refine zbh (er := ([], [], [], [], 0)) (dsts := [17, 18, 19, 20, 21, 22, 23, 4, 5]) st18 Tryz.mixed<|zf 0 [] X t_kr t_kr X X (fun hD wD τD hL hS hO  => (r_mvP X))<|zf 1 [] X t_kr t_kr X X (fun hD wD τD hL hS hO  => (zZ (hL.sub hS) (hc11.up le17) X zaD zO X)) ?_
  refine zax 2 (.res (fun h' res_ => Sl LStr h' res_ ((zcT ((t)) (p)).getD [])) (fun _ _ _ hl f => f.up hl)) [1, 0] rfl t_kr t_kr ?_ ?_
  ·
   intro hD wD τD hL hS hO _ _ _ _
   have st30 := St.start hS
   refine zn st30 X X X Tryz.call122 X (zit st30.sub (t := (t)) (f28.up hL) (hc25.up hL) (p := p))<|fun r31 w32 h33 le34 st35 q36=> ?_
   obtain ⟨v37, e39, f38⟩ := q36
   rw [← e39] at f38
   have f38_b := f38.le
   exact zt ⟨_, _, rfl, st35, _, rfl, f38⟩
  refine zf 3 [] X t_kr t_kr X X (fun hD wD τD hL hS hO  => (zL X zan X zr X))<|zf 4 [0] X t_kr t_kr X X (fun hD wD τD hL hS hO _ _ => (ze (j := 2) (hL.sub hS) (hc11.up le17) X X X zN)) ?_
  refine zax 5 (.res (fun h' res_ => ∃ b o, res_ = .pointer (some ⟨b, o, none⟩) ∧ Cells h' b o [strV wd]) (by rintro _ _ _ hl ⟨b, o, e, c⟩; exact ⟨b, o, e, c.up hl⟩)) [2, 0] rfl t_kr t_kr ?_ ?_
  ·
   intro hD wD τD hL hS hO gv2_0 gf2_0 _ _
   have st40 := St.start hS
   obtain ⟨b_, o_, _, he_, hc_, hr_⟩ := Sl.elem gf2_0 hwd
   obtain ⟨rfl, ls41⟩ := hr_
   simp only [big] at ls41
   refine zq rfl rfl (zao he_ rfl rfl (hk := (show _ = ((p.word.toNat : Nat) : Int) by omega)) (hu := zA) (hz := zW)) ?_
   exact zt ⟨_, _, rfl, st40, _, rfl, _, _, rfl, hc_⟩
  refine zax 6 (.det (strV wd)) [0] rfl t_kr t_kr ?_ ?_
  ·
   intro hD wD τD hL hS hO gv5_ gf5_
   obtain ⟨gb5, go5, rfl, gc5⟩ := gf5_
   have st42 := St.start hS
   refine E (j := 0) hS gc5 X X X zaw X ?_
   exact zt ⟨_, _, rfl, st42, (), rfl, trivial⟩
  refine zf 7 [6, 5, 4, 3, 2, 1, 0] X t_kr t_kr X X (fun hD wD τD hL hS hO _ _ _ _ gv2_0 gf2_0 _ _ _ _ gv5_ gf5_ _ _ => (r_asS X))<|zf 8 [7, 6, 5, 4, 3, 2, 1, 0] X t_kr t_kr X X (fun hD wD τD hL hS hO _ _ _ _ gv2_0 gf2_0 _ _ _ _ gv5_ gf5_ _ _ _ _ => (r_asI X))<|zbN X X X X X X ⟨t_kr, X, t_kr, X, t_kr, X, X, t_kr, zcl⟩<|fun hE43 w44 _ le45 st46 _ _ _ _ gv2_0x47 gf2_0x47 _ _ _ _ gv5_x47 gf5_x47 _ _ _ _ _ _=> ?_
  obtain ⟨gb5x47, go5x47, rfl, gc5x47⟩ := gf5_x47
  refine AllDeps.fin X<|O<|zB<|zbs Tryz.results85 ?_
  refine ⟨hE43, _, rfl, st46.done, ?_⟩
  refine tup2 (zgB ?_) (zar ?_)
  all_goals have qq : zbu t = true ∧ zbB t p = true := by simp_all
  ·simp [qq.1, word_some qq.2 hwd]
  simp [qq.1, qq.2]
 simp only [hb20, if_true, if_false, Bool.false_eq_true, reduceIte] at q19
 obtain ⟨v48, rfl, f49⟩ := q19
 obtain rfl := f49
 refine zdu X X<|zak (v := (.pointer none)) X X X<|zak (v := (.int _ _)) X X X<|zaj X X<|zz X X<|Y<|zj<|W.sr<|zk X X<|zcF X X X<|Y ?_
 refine zH rfl (fun c50 => ?_) (fun c50 => ?_)
 ·
  refine W.sr<|zk X X<|zdR X X<|zz X X<|Y<|zB<|zd<|zbs Tryz.results85 ?_
  refine ⟨h16, _, rfl, st18.done, ?_⟩
  refine tup2 (zgB ?_) (zar ?_)
  all_goals have qq : zbu t = true → zbB t p = false := by simp_all
  ·cases q0 : zbu t
   ·rfl
   ·simp [word_none (qq q0)]
  cases q0 : zbu t
  ·rfl
  simp [qq q0]
 exfalso
 revert c50
 split <;> simp
end Go.Pk

namespace Go.Pk
open Go Go.RowKit Go.Proofs
theorem c_strings_indexFunc {s : Str} (hlen : s.length ≤ 281474976710656) {g : FuncId} {caps : List Value} (p : Int → Bool) (hp : ∀ x : Int, 128 ≤ x → p x = true)
  (hf : ∀ (x : Int) h w, Sub h w → Calls Tryz.prog g (.int .i32 x :: caps).toArray w (Rets h w fun _ _ r => r = .bool (p x)))
  (hg : ∀ a w, (callFunc g a).run Tryz.prog w = .ok (.enter g a) w) {h : Heap} {w : World} (hs : Sub h w) :
  Calls Tryz.prog 236 #[strV s, .func (.func g) #[] caps.toArray, .bool true] w (Rets h w fun _ _ r => ∃ k : Int, r = .int .i64 k ∧ (0 ≤ k ↔ (s.any fun c => p (c.toNat : Int)) = true)) := by
 refine zS (n := 21) Tryz.func236 X X X<|have st0:=t_s0 hs;W.sr<|zz X X<|Y<|zj<|W.sr<|zbX X X<|OpsL.rangeS st0 X zaz X<|fun b w1 st1=>Y<|zF ?_
 refine zat ([7, 8] ++ t_rg 11 10 ++ [6]) (G := Nat × Heap) (fun ⟨k, _⟩ => []) (fun ⟨k, h'⟩ w' => Le h h' ∧ St h w h' w' [[(b, .stringIter ⟨s.toArray⟩ k)]] ∧ k ≤ s.length ∧ ∀ j c, j < k → s[j]? = some c → p (c.toNat : Int) = false) (fun ⟨k, _⟩ => s.length - k) ⟨0, h⟩ trivial ⟨Le.refl _, st1, by omega, by intros; omega⟩ ?_
 rintro ⟨k, h2⟩ _ w2 ⟨le2, st2, hk, hall⟩
 rcases Nat.lt_or_ge k s.length with hlt | hge
 ·obtain ⟨c, hc⟩ : ∃ c, s[k]? = some c := ⟨_, List.getElem?_eq_getElem hlt⟩
  refine W.sr<|OpsL.nextS st2 (k := 0) X X hc X<|fun w3 st3=> ?_
  generalize hR : Utf8.decode ⟨s.toArray⟩ k = R at st3
  refine zak (v := .bool _) X X X<|Y<|zj ?_
  refine zad rfl (fun c1 => ?_) (fun c1 => ?_)
  ·refine zC ?_
   refine O<|zF<|W.sr<|zak (v := .int _ _) X X X<|zak (v := .int _ _) X X X<|zz X X<|zz X X<|Y<|W.sr<|zhr X X<|zk X X ?_
   refine zaT rfl rfl (zcb (fs := []) (cs := caps) rfl rfl hg rfl) ((hf (R.1 : Int) h2 w3 st3.sub).mono ?_)
   rintro e w4 ⟨h4, r4, rfl, s4, rfl⟩
   refine ⟨_, rfl, ?_⟩
   have st4 := st3.call0 s4
   refine zai X X<|zq X X (r_beql X X zbE)<|Y ?_
   refine zad rfl (fun c2 => ?_) (fun c2 => ?_)
   ·have c3 : p (R.1 : Int) = true := by simpa using c2
    refine W.sr<|zk X X<|zz X X<|Y<|zB ?_
    repeat (first | refine zI ?_ | refine zd ?_)
    refine zc Tryz.results236 ?_
    refine ⟨h4, _, rfl, st4.done, (k : Int), rfl, ⟨fun _ => ?_, fun _ => by omega⟩⟩
    rw [List.any_eq_true]
    refine ⟨c, List.mem_of_getElem? hc, ?_⟩
    by_cases hl : c.toNat < 128
    ·rw [decode_low hc hl] at hR; subst hR; exact c3
    ·exact hp _ (by omega)
   ·have c3 : p (R.1 : Int) = false := by simpa using c2
    have hl : c.toNat < 128 := by
     rcases Nat.lt_or_ge c.toNat 128 with h5 | h5
     ·exact h5
     ·have q := decode_high hc (by omega)
      rw [hR] at q
      rw [hp _ (by omega)] at c3; cases c3
    rw [decode_low hc hl] at hR
    subst hR
    refine zC<|zP ?_
    refine ⟨⟨k + 1, h4⟩, trivial, ?_, ⟨le2.trans s4.le, st4, by omega, ?_⟩, ?_⟩
    ·exact zav
    ·intro j d hj hd
     rcases Nat.lt_or_ge j k with h3 | h3
     ·exact hall j d h3 hd
     ·obtain rfl : j = k := by omega
      rw [hc] at hd; cases hd
      exact c3
    ·show s.length - (k + 1) < s.length - k
     omega
  ·cases c1
 ·refine zj ?_
  refine zo<|OpsL.nextE st2 (k := 0) X X hge X<|zak (v := .bool _) X X X<|Y<|zj ?_
  refine zad rfl (fun c1 => ?_) (fun c1 => ?_)
  ·cases c1
  ·refine zaC ?_
   refine zh<|zh<|zah<|O<|W.sr<|zz X X<|Y<|zB<|zc Tryz.results236 ?_
   refine ⟨h2, _, rfl, st2.done, _, rfl, ⟨fun q => absurd q (by decide), fun q => ?_⟩⟩
   rw [List.any_eq_true] at q
   obtain ⟨c, hc, hpc⟩ := q
   obtain ⟨j, hj⟩ := List.mem_iff_getElem?.1 hc
   have hjl := (List.getElem?_eq_some_iff.1 hj).1
   rw [hall j c (by omega) hj] at hpc; cases hpc
theorem c_strings_IndexFunc {s : Str} (hlen : s.length ≤ 281474976710656) {g : FuncId} {caps : List Value} (p : Int → Bool) (hp : ∀ x : Int, 128 ≤ x → p x = true)
  (hf : ∀ (x : Int) h w, Sub h w → Calls Tryz.prog g (.int .i32 x :: caps).toArray w (Rets h w fun _ _ r => r = .bool (p x)))
  (hg : ∀ a w, (callFunc g a).run Tryz.prog w = .ok (.enter g a) w) {h : Heap} {w : World} (hs : Sub h w) :
  Calls Tryz.prog 224 #[strV s, .func (.func g) #[] caps.toArray] w (Rets h w fun _ _ r => ∃ k : Int, r = .int .i64 k ∧ (0 ≤ k ↔ (s.any fun c => p (c.toNat : Int)) = true)) := by
 refine zS (n := 8) Tryz.func224 X X X<|have st0:=t_s0 hs;W.sr<|zz X X<|Y<|W.sr<|zbX X X<|zhr X X<|zn st0 X X X Tryz.call236 X (c_strings_indexFunc hlen p hp hf hg st0.sub) ?_
 rintro v w1 h1 le1 st1 ⟨k, rfl, hk⟩
 refine zz X X<|Y<|zB<|zc Tryz.results224 ?_
 exact ⟨h1, _, rfl, st1.done, k, rfl, hk⟩
theorem ziG {s : Str} (hlen : s.length ≤ 281474976710656) {g : FuncId} {caps : List Value} (p : Int → Bool) (hp : ∀ x : Int, 128 ≤ x → p x = true)
  (hf : ∀ (x : Int) h w, Sub h w → Calls Tryz.prog g (.int .i32 x :: caps).toArray w (Rets h w fun _ _ r => r = .bool (p x)))
  (hg : ∀ a w, (callFunc g a).run Tryz.prog w = .ok (.enter g a) w) {h : Heap} {w : World} (hs : Sub h w) :
  Calls Tryz.prog 181 #[strV s, .func (.func g) #[] caps.toArray] w (Rets h w fun _ _ r => r = .bool (s.any fun c => p (c.toNat : Int))) := by
 refine zS (n := 9) Tryz.func181 X X X<|have st0:=t_s0 hs;W.sr<|zJ X X<|Y<|W.sr<|zbX X X<|zhr X X<|zn st0 X X X Tryz.call224 X (c_strings_IndexFunc hlen p hp hf hg st0.sub) ?_
 rintro v w1 h1 le1 st1 ⟨k, rfl, hk⟩
 refine zie X X X<|zJ X X<|Y<|zB<|zc Tryz.results181 ?_
 refine ⟨h1, _, rfl, st1.done, zw ?_⟩
 rw [Bool.eq_iff_iff, decide_eq_true_eq]
 exact hk
end Go.Pk

namespace Go.Pk
open Go Go.RowKit Go.Proofs
theorem c_stem_letters_1 {h : Heap} {w : World} (hs : Sub h w) (c : Int) : Calls Tryz.prog 182 #[.int .i32 c] w (Rets h w (fun _ _ res_ => res_ = .bool ((decide (c < 97) || decide (122 < c))))) := by
 refine zS (n := 9) Tryz.func182 X X X<|have st0:=t_s0 hs;W.sr<|zJ X X<|Y<|W.sr<|zk X X<|zaV X X X<|zai X X ?_
 refine zaB (d := 5) rfl (fun g1 => ?_) (fun g1 => ?_)
 ·
  refine Z X X X X X<|Z X X X X X<|zaf (v := (.bool _)) X X X<|zJ X X<|Y<|zB<|zc Tryz.results182 ?_
  refine ⟨h, _, rfl, st0.done, ?_⟩
  refine zw ?_
  first | (simp_all; done) | (simp_all; omega)
 refine M X X X<|zk X X<|M X X X<|zdr X X X<|zX (v := (.bool _)) X X X<|zJ X X<|Y<|zB<|zc Tryz.results182 ?_
 refine ⟨h, _, rfl, st0.done, ?_⟩
 refine zw ?_
 first | (simp_all; done) | (simp_all; omega)
theorem zfe {h : Heap} {w : World} (hs : Sub h w) (s : Str) (s_le : s.length ≤ 281474976710656) (lo : Int) : Calls Tryz.prog 134 #[strV s, .int .i64 lo] w (Rets h w (fun _ _ res_ => res_ = .bool (zcG s lo))) := by
 refine zS (n := 15) Tryz.func134 X X X<|have st0:=t_s0 hs;W.sr<|zJ X X<|Y<|W.sr<|zk X X<|zbX X X<|zco X zaz X<|zaL (L := LInt) (xs := [(s.length : Int)]) (cs := [.int .i64 (s.length : Int)]) st0 (Enc.cons (L := LInt) (vs := [.int .i64 (s.length : Int)]) (x := (s.length : Int)) (h := h) (X) Enc.nil) X X X zp Tryz.info3 X X X t_kr<|fun v1 w2 h5 le6 f3 st4=>zn st4 X X X Tryz.call135 X (zir st4.sub _ _ f3)<|fun r7 w8 h9 le10 st11 q12=> ?_
 obtain rfl := q12
 refine zai X X ?_
 refine zaY (d := 10) rfl (fun g13 => ?_) (fun g13 => ?_)
 ·
  refine M X X X<|zbX X X<|M X X X ?_
  refine zn st11 rfl rfl rfl Tryz.call181 rfl (ziG (s := s) zba (fun x_ : Int => (decide ((x_) < 97) || decide (122 < (x_)))) (by intro x_ hx_; simp; omega) (fun x_ h_ w_ hs_ => c_stem_letters_1 hs_ x_) Tryz.call182 st11.sub) ?_
  intro r14 w15 h16 le17 st18 q19
  obtain rfl := q19
  refine M X X X<|zbQ X X<|zaf (v := (.bool _)) X X X<|zJ X X<|Y<|zB<|zc Tryz.results134 ?_
  refine ⟨h16, _, rfl, st18.done, ?_⟩
  refine zw ?_
  rw [letters_eq]
  simp_all [zcJ]
 refine Z X X X X X<|Z X X X X X<|Z X X X X X<|zX (v := (.bool _)) X X X<|zJ X X<|Y<|zB<|zc Tryz.results134 ?_
 refine ⟨h9, _, rfl, st11.done, ?_⟩
 refine zw ?_
 rw [letters_eq]
 simp_all [zcJ]
theorem ziH {h : Heap} {w : World} (hs : Sub h w) {hd : Head} (hd_l1 : hd.stem.length ≤ 281474976710656) (hd_l2 : 0 ≤ hd.mark ∧ hd.mark ≤ 255) : Calls Tryz.prog 186 #[.agg #[strV hd.stem, .int .u8 hd.mark]] w (Rets h w (fun _ _ res_ => res_ = .bool (zdV hd))) := by
 refine zS (n := 11) Tryz.func186 X X X<|have st0:=t_s0 hs;W.sr<|zG st0 (cs := [strV (hd.stem), .int .u8 (hd.mark)]) X X X<|fun b1 w2 h3 le4 hc5 st6=>zJ X X<|Y<|W.sr<|U X zbw X zW X X<|E (j := 0) st6.sub hc5 X X X zaw X<|zn st6 X X X Tryz.call134 X (zfe st6.sub _ zba _)<|fun r7 w8 h9 le10 st11 q12=> ?_
 obtain rfl := q12
 refine zai X X ?_
 refine zaY (d := 6) rfl (fun g13 => ?_) (fun g13 => ?_)
 ·
  refine M X X X<|U X zbw X zbn X X<|M X X X<|E (j := 1) st11.sub (hc5.up le10) X X X zbG X<|M X X X<|zq X X (r_leq X X)<|zaf (v := (.bool _)) X X X<|zJ X X<|Y<|zB<|zc Tryz.results186 ?_
  refine ⟨h9, _, rfl, st11.done, ?_⟩
  refine zw ?_
  rw [head_eq _ (by omega)]
  simp_all
 refine Z X X X X X<|Z X X X X X<|Z X X X X X<|zX (v := (.bool _)) X X X<|zJ X X<|Y<|zB<|zc Tryz.results186 ?_
 refine ⟨h9, _, rfl, st11.done, ?_⟩
 refine zw ?_
 rw [head_eq _ (by omega)]
 simp_all
end Go.Pk

namespace Go.Pk
open Go Go.RowKit Go.Proofs
def _root_.Go.Proofs.Tryz.glob0 : List Value := [.func (.func 261) #[] #[], .func (.func 262) #[] #[], .func (.func 263) #[] #[], .func (.func 264) #[] #[], .func (.func 265) #[] #[]]
def _root_.Go.Proofs.Tryz.glob1 : List Value := [.bool false, .bool false, .bool false, .bool false, .nilFunc, .bool true, .bool false, .bool true, .bool false, .func (.func 269) #[] #[], .bool true, .bool true, .bool true, .bool false, .func (.func 270) #[] #[], .bool false, .bool true, .bool true, .bool false, .func (.func 271) #[] #[], .bool false, .bool false, .bool false, .bool true, .func (.func 272) #[] #[]]
set_option maxHeartbeats 4000000 in
theorem c_stem_decided {h : Heap} {w : World} (hs : Sub h w) {t : Text} {t_v0 : Value} (t_f0 : Sl LChapter h t_v0 t.chapters) {d : Decision} (d_l2 : 0 ≤ d.kind ∧ d.kind ≤ 255) (d_l3 : d.form.length ≤ 281474976710656) (d_l7 : d.to.stem.length ≤ 281474976710656) (d_l8 : 0 ≤ d.to.mark ∧ d.to.mark ≤ 255) (K1 : Cells h 1 0 Tryz.glob1) (ht : zbu t = true) : Calls Tryz.prog 138 #[.agg #[t_v0], .agg #[.int .i64 d.number, .int .u8 d.kind, strV d.form, .int .i64 d.at_.chapter, .int .i64 d.at_.line, .int .i64 d.at_.word, strV d.to.stem, .int .u8 d.to.mark, .int .i64 d.of_]] w (Rets h w (fun _ _ res_ => res_ = .bool (zaq t d))) := by
 refine zS (n := 104) Tryz.func138 X X X<|have st0:=t_s0 hs;have t_f0_b:=t_f0.le;W.sr<|zG st0 (cs := [t_v0]) X X X<|fun b1 w2 h3 le4 hc5 st6=>zG st6 (cs := [.int .i64 (d.number), .int .u8 (d.kind), strV (d.form), .int .i64 (d.at_.chapter), .int .i64 (d.at_.line), .int .i64 (d.at_.word), strV (d.to.stem), .int .u8 (d.to.mark), .int .i64 (d.of_)]) X X X<|fun b7 w8 h9 le10 hc11 st12=>zJ X X<|Y<|zj<|W.sr<|U X zi X zbn X X<|E (j := 1) st12.sub hc11 X X X zbG X ?_
 refine zq rfl rfl (zhv rfl rfl zcE (IntWalk.i64_in _ (by omega))) ?_
 refine zaL (L := LInt) (xs := [(d.kind)]) (cs := [.int .i64 (d.kind)]) st12 (Enc.cons (L := LInt) (vs := [.int .i64 (d.kind)]) (x := (d.kind)) (h := h9) (X) Enc.nil) X X X zp Tryz.info3 X X X t_kr<|fun v13 w14 h17 le18 f15 st16=>zn st16 X X X Tryz.call135 X (zir st16.sub _ _ f15)<|fun r19 w20 h21 le22 st23 q24=> ?_
 obtain rfl := q24
 refine zbQ X X<|zai X X ?_
 refine zaY (d := 15) rfl (fun g25 => ?_) (fun g25 => ?_)
 ·
  refine Z X X X X X<|Z X X X X X<|Z X X X X X<|Z X X X X X<|Z X X X X X<|zaf (v := (.bool _)) X X X<|Y ?_
  refine zad rfl (fun c26 => ?_) (fun c26 => ?_)
  ·
   refine W.sr<|zJ X X<|Y<|zB<|zd<|zc zcn ?_
   refine ⟨h21, _, rfl, st23.done, ?_⟩
   refine zw ?_
   have q := g25
   simp only [inAll_one, inB, Bool.not_eq_true', Bool.and_eq_false_iff, decide_eq_false_iff_not] at q
   have q1 : d.kind ≠ 1 := by omega
   have q2 : d.kind ≠ 2 := by omega
   have q3 : d.kind ≠ 3 := by omega
   have q4 : d.kind ≠ 4 := by omega
   simp [zaq, q1, q2, q3, q4]
  cases c26
 refine M X X X<|U X zi X zr X X<|M X X X<|E (j := 0) st23.sub (hc11.up (le18.trans le22)) X X X zN X<|M X X X<|zaL (L := LInt) (xs := [(d.number)]) (cs := [.int .i64 (d.number)]) st23 (Enc.cons (L := LInt) (vs := [.int .i64 (d.number)]) (x := (d.number)) (h := h21) (X) Enc.nil) X X X zp Tryz.info3 X X X t_kr<|fun v27 w28 h31 le32 f29 st30=>M X X X<|zn st30 X X X Tryz.call135 X (zir st30.sub _ _ f29)<|fun r33 w34 h35 le36 st37 q38=> ?_
 obtain rfl := q38
 refine M X X X<|zbQ X X<|zX (v := (.bool _)) X X X<|Y ?_
 refine zad rfl (fun c39 => ?_) (fun c39 => ?_)
 ·
  refine W.sr<|zJ X X<|Y<|zB<|zd<|zc zcn ?_
  refine ⟨h35, _, rfl, st37.done, ?_⟩
  refine zw ?_
  have q := c39
  simp only [inAll_one] at q
  simp_all [zaq]
 refine zC<|O<|zj ?_
 rcases (show d.kind = 1 ∨ d.kind = 2 ∨ d.kind = 3 ∨ d.kind = 4 by have q := g25; simp [zcJ, inB] at q; omega) with hk40 | hk40 | hk40 | hk40
 ·
  refine zo<|U X zi X zbn X X<|have l41:=((le18.trans le22).trans le32).trans le36;E (j := 1) st37.sub (hc11.up l41) X X X zbG X ?_
  refine zq rfl rfl (zdm rfl rfl (show _ = ((1 : Nat) : Int) by rw [hk40]; rfl) rfl zci zce) ?_
  have l42 := ((((le4.trans le10).trans le18).trans le22).trans le32).trans le36
  refine zab (j := 5) st37.sub (K1.up l42) (us := [.bool true, .bool false, .bool true, .bool false, .func (.func 269) #[] #[]]) X X Tryz.isAgg256 zce X X X<|zae st37 Tryz.zeroValue256 X X<|fun b43 w44 st45=>zM st45 (k := 0) X X X (za X (za X (za X (za X (za X zap))))) zce X X X<|fun w46 st47=> ?_
  obtain ⟨h48, le49, hb50, st52⟩ := st47.freeze (k := 0) rfl
  have hc51 := Cells.of hb50
  refine Y<|W.sr<|U X zi X zr X X<|E (j := 0) st52.sub (hc11.up (l41.trans le49)) X X X zN X<|U X zi X zbn X X<|E (j := 1) st52.sub (hc11.up (l41.trans le49)) X X X zbG X<|zq X X (zbW (cs := [.int .i64 (d.number), .int .u8 (d.kind), strV [], .int .i64 0, .int .i64 0, .int .i64 0, strV [], .int .u8 0, .int .i64 0]) t_kr)<|zae st52 zbD X X<|fun b53 w54 st55=>zM st55 (k := 1) X X X (za X (za X (za X (za X (za X (za X (za X (za X (za X zap))))))))) zK X X X<|fun w56 st57=>Y<|zj<|W.sr<|U X zag X zbM X X<|E (j := 0) st57.sub hc51 X X X zbZ X<|Y ?_
  refine zad rfl (fun c58 => ?_) (fun c58 => ?_)
  ·
   refine zo<|U X zi X zW X X<|E (j := 2) st57.sub (hc11.up (l41.trans le49)) X X X zaw X<|U X zi X zW X X<|zbR st57 (k := 1) X X X X zW X X X<|fun w59 st60=>Y<|zj<|W.sr<|U X zag X zbM X X<|E (j := 1) st60.sub hc51 X X X zbZ X<|Y ?_
   refine zad rfl (fun c61 => ?_) (fun c61 => ?_)
   ·
    cases c61
   refine zC<|O<|zj<|W.sr<|U X zag X zbM X X<|E (j := 2) st60.sub hc51 X X X zbZ X<|Y ?_
   refine zad rfl (fun c62 => ?_) (fun c62 => ?_)
   ·
    refine zo<|U X zi X zT X X<|zab (j := 6) st60.sub (hc11.up (l41.trans le49)) (us := [strV (d.to.stem), .int .u8 (d.to.mark)]) X X zbl zT X X X<|U X zi X zT X X<|zM st60 (k := 1) X X X (za X (za X zap)) zT X X X<|fun w63 st64=>Y<|zj<|W.sr<|U X zag X zbM X X<|E (j := 3) st64.sub hc51 X X X zbZ X<|Y ?_
    refine zad rfl (fun c65 => ?_) (fun c65 => ?_)
    ·
     cases c65
    refine zC<|O<|W.sr<|have l66:=((((le10.trans le18).trans le22).trans le32).trans le36).trans le49;zy st64.sub (hc5.up l66) X zaO zac X X<|U X zi X zO X X<|zab (j := 3) st64.sub (hc11.up (l41.trans le49)) (us := [.int .i64 (d.at_.chapter), .int .i64 (d.at_.line), .int .i64 (d.at_.word)]) X X zaD zO X X X<|have l67:=l42.trans le49;zn st64 X X X Tryz.call85 X (zgJ st64.sub (t := t) (t_f0.up l67) (p := d.at_))<|fun r68 w69 h70 le71 st72 q73=> ?_
    obtain rfl := q73
    refine zdu X X<|zak (v := (strV _)) X X X<|zak (v := (.int _ _)) X X X<|zdR X X<|zz X X<|Y<|zj ?_
    have qn : 1 ≤ d.number ∧ d.number ≤ 999 := by
     have q := c39
     simp [zcJ, inB] at q
     omega
    refine zo<|zy st72.sub (hc11.up ((l41.trans le49).trans le71)) X zaI zK X X<|zcd (st72.get (k := 1) X) X zaI zK X X<|zq X X (zge X X zeS (Tryz.eq_Decision d (Decision.mk (d.number) (d.kind) (d.form) (Place.mk 0 0 0) (Head.mk (d.to.stem) (d.to.mark)) 0)))<|zai X X ?_
    refine zaB (d := 61) rfl (fun g74 => ?_) (fun g74 => ?_)
    ·
     refine M X X X<|U X zag X zbM X X<|M X X X<|E (j := 0) st72.sub (hc51.up le71) X X X zbZ X<|M X X X<|zbQ X X<|M X X X<|zai X X<|M X X X<|U X zi X zW X X<|M X X X<|E (j := 2) st72.sub (hc11.up ((l41.trans le49).trans le71)) X X X zaw X<|M X X X<|zn st72 X X X Tryz.call134 X (zfe st72.sub _ zba _)<|fun r75 w76 h77 le78 st79 q80=> ?_
     obtain rfl := q80
     refine M X X X<|zX (v := (.bool _)) X X X<|zaf (v := (.bool _)) X X X<|zai X X ?_
     refine zaY (d := 71) rfl (fun g81 => ?_) (fun g81 => ?_)
     ·
      refine M X X X<|U X zag X zbM X X<|M X X X<|E (j := 1) st79.sub (hc51.up (le71.trans le78)) X X X zbZ X<|M X X X<|zbQ X X<|M X X X<|zai X X<|Z X X X X X<|Z X X X X X<|M X X X<|zaf (v := (.bool _)) X X X<|zaf (v := (.bool _)) X X X<|zai X X<|M X X X<|U X zag X zbM X X<|M X X X<|E (j := 2) st79.sub (hc51.up (le71.trans le78)) X X X zbZ X<|M X X X<|zbQ X X<|M X X X<|zai X X<|M X X X<|U X zi X zT X X<|M X X X<|have l82:=((l41.trans le49).trans le71).trans le78;zab (j := 6) st79.sub (hc11.up l82) (us := [strV (d.to.stem), .int .u8 (d.to.mark)]) X X zbl zT X X X<|M X X X<|zn st79 X X X Tryz.call186 X (ziH st79.sub (hd := d.to) zba t_u8)<|fun r83 w84 h85 le86 st87 q88=> ?_
      obtain rfl := q88
      refine M X X X<|zX (v := (.bool _)) X X X<|zaf (v := (.bool _)) X X X<|zai X X ?_
      refine zaY (d := 90) rfl (fun g89 => ?_) (fun g89 => ?_)
      ·
       refine M X X X<|U X zag X zbM X X<|M X X X<|E (j := 3) st87.sub (hc51.up ((le71.trans le78).trans le86)) X X X zbZ X<|M X X X<|zbQ X X<|M X X X<|zai X X<|Z X X X X X<|Z X X X X X<|Z X X X X X<|Z X X X X X<|Z X X X X X<|Z X X X X X<|Z X X X X X<|M X X X<|zaf (v := (.bool _)) X X X<|zaf (v := (.bool _)) X X X<|zJ X X<|Y<|zB<|zc zcn ?_
       refine ⟨h85, _, rfl, st87.done, ?_⟩
       refine zw ?_
       exact dec1_t ht hk40 c39 g74 g81 g89
      refine Z X X X X X<|Z X X X X X<|Z X X X X X<|Z X X X X X<|zm X X X X<|zm X X X X<|zm X X X X<|zm X X X X<|zm X X X X<|zm X X X X<|zm X X X X<|Z X X X X X<|zX (v := (.bool _)) X X X<|zJ X X<|Y<|zB<|zc zcn ?_
      refine ⟨h85, _, rfl, st87.done, ?_⟩
      refine zw ?_
      exact dec1_f1 ht hk40 c39 g74 g81 g89
     refine Z X X X X X<|Z X X X X X<|Z X X X X X<|Z X X X X X<|zm X X X X<|zm X X X X<|Z X X X X X<|zX (v := (.bool _)) X X X<|zai X X<|Z X X X X X<|Z X X X X X<|Z X X X X X<|Z X X X X X<|zm X X X X<|zm X X X X<|zm X X X X<|Z X X X X X<|zX (v := (.bool _)) X X X<|zai X X<|Z X X X X X<|Z X X X X X<|Z X X X X X<|Z X X X X X<|zm X X X X<|zm X X X X<|zm X X X X<|zm X X X X<|zm X X X X<|zm X X X X<|zm X X X X ?_
     refine Z X X X X X<|zX (v := (.bool _)) X X X<|zJ X X<|Y<|zB<|zc zcn ?_
     refine ⟨h77, _, rfl, st79.done, ?_⟩
     refine zw ?_
     exact dec1_f0 ht hk40 c39 g74 g81
    refine Z X X X X X<|Z X X X X X<|Z X X X X X<|Z X X X X X<|zm X X X X<|zm X X X X<|zm X X X X<|Z X X X X X<|zX (v := (.bool _)) X X X<|zai X X<|Z X X X X X<|Z X X X X X<|Z X X X X X<|Z X X X X X<|zm X X X X<|zm X X X X<|Z X X X X X<|zX (v := (.bool _)) X X X<|zai X X<|Z X X X X X<|Z X X X X X<|Z X X X X X<|Z X X X X X<|zm X X X X<|zm X X X X<|zm X X X X<|Z X X X X X<|zX (v := (.bool _)) X X X<|zai X X<|Z X X X X X ?_
    refine Z X X X X X<|Z X X X X X<|Z X X X X X<|zm X X X X<|zm X X X X<|zm X X X X<|zm X X X X<|zm X X X X<|zm X X X X<|zm X X X X<|Z X X X X X<|zX (v := (.bool _)) X X X<|zJ X X<|Y<|zB<|zc zcn ?_
    refine ⟨h70, _, rfl, st72.done, ?_⟩
    refine zw ?_
    exact dec1_n ht hk40 c39 g74
   cases c62
  cases c58
 ·
  refine zo<|U X zi X zbn X X<|have l90:=((le18.trans le22).trans le32).trans le36;E (j := 1) st37.sub (hc11.up l90) X X X zbG X ?_
  refine zq rfl rfl (zdm rfl rfl (show _ = ((2 : Nat) : Int) by rw [hk40]; rfl) rfl zci zce) ?_
  have l91 := ((((le4.trans le10).trans le18).trans le22).trans le32).trans le36
  refine zab (j := 10) st37.sub (K1.up l91) (us := [.bool true, .bool true, .bool true, .bool false, .func (.func 270) #[] #[]]) X X Tryz.isAgg256 zce X X X<|zae st37 Tryz.zeroValue256 X X<|fun b92 w93 st94=>zM st94 (k := 0) X X X (za X (za X (za X (za X (za X zap))))) zce X X X<|fun w95 st96=> ?_
  obtain ⟨h97, le98, hb99, st101⟩ := st96.freeze (k := 0) rfl
  have hc100 := Cells.of hb99
  refine Y<|W.sr<|U X zi X zr X X<|E (j := 0) st101.sub (hc11.up (l90.trans le98)) X X X zN X<|U X zi X zbn X X<|E (j := 1) st101.sub (hc11.up (l90.trans le98)) X X X zbG X<|zq X X (zbW (cs := [.int .i64 (d.number), .int .u8 (d.kind), strV [], .int .i64 0, .int .i64 0, .int .i64 0, strV [], .int .u8 0, .int .i64 0]) t_kr)<|zae st101 zbD X X<|fun b102 w103 st104=>zM st104 (k := 1) X X X (za X (za X (za X (za X (za X (za X (za X (za X (za X zap))))))))) zK X X X<|fun w105 st106=>Y<|zj<|W.sr<|U X zag X zbM X X<|E (j := 0) st106.sub hc100 X X X zbZ X<|Y ?_
  refine zad rfl (fun c107 => ?_) (fun c107 => ?_)
  ·
   refine zo<|U X zi X zW X X<|E (j := 2) st106.sub (hc11.up (l90.trans le98)) X X X zaw X<|U X zi X zW X X<|zbR st106 (k := 1) X X X X zW X X X<|fun w108 st109=>Y<|zj<|W.sr<|U X zag X zbM X X<|E (j := 1) st109.sub hc100 X X X zbZ X<|Y ?_
   refine zad rfl (fun c110 => ?_) (fun c110 => ?_)
   ·
    refine zo<|U X zi X zO X X<|zab (j := 3) st109.sub (hc11.up (l90.trans le98)) (us := [.int .i64 (d.at_.chapter), .int .i64 (d.at_.line), .int .i64 (d.at_.word)]) X X zaD zO X X X<|U X zi X zO X X<|zM st109 (k := 1) X X X (za X (za X (za X zap))) zO X X X<|fun w111 st112=>Y<|zj<|W.sr<|U X zag X zbM X X<|E (j := 2) st112.sub hc100 X X X zbZ X<|Y ?_
    refine zad rfl (fun c113 => ?_) (fun c113 => ?_)
    ·
     refine zo<|U X zi X zT X X<|zab (j := 6) st112.sub (hc11.up (l90.trans le98)) (us := [strV (d.to.stem), .int .u8 (d.to.mark)]) X X zbl zT X X X<|U X zi X zT X X<|zM st112 (k := 1) X X X (za X (za X zap)) zT X X X<|fun w114 st115=>Y<|zj<|W.sr<|U X zag X zbM X X<|E (j := 3) st115.sub hc100 X X X zbZ X<|Y ?_
     refine zad rfl (fun c116 => ?_) (fun c116 => ?_)
     ·
      cases c116
     refine zC<|O<|W.sr<|have l117:=((((le10.trans le18).trans le22).trans le32).trans le36).trans le98;zy st115.sub (hc5.up l117) X zaO zac X X<|U X zi X zO X X<|zab (j := 3) st115.sub (hc11.up (l90.trans le98)) (us := [.int .i64 (d.at_.chapter), .int .i64 (d.at_.line), .int .i64 (d.at_.word)]) X X zaD zO X X X<|have l118:=l91.trans le98;zn st115 X X X Tryz.call85 X (zgJ st115.sub (t := t) (t_f0.up l118) (p := d.at_))<|fun r119 w120 h121 le122 st123 q124=> ?_
     obtain rfl := q124
     refine zdu X X<|zak (v := (strV _)) X X X<|zak (v := (.int _ _)) X X X<|zdR X X<|zz X X<|Y<|zj ?_
     have qn : 1 ≤ d.number ∧ d.number ≤ 999 := by
      have q := c39
      simp [zcJ, inB] at q
      omega
     refine zo<|zy st123.sub (hc11.up ((l90.trans le98).trans le122)) X zaI zK X X<|zcd (st123.get (k := 1) X) X zaI zK X X<|zq X X (zge X X zeS (Tryz.eq_Decision d (Decision.mk (d.number) (d.kind) (d.form) (Place.mk (d.at_.chapter) (d.at_.line) (d.at_.word)) (Head.mk (d.to.stem) (d.to.mark)) 0)))<|zai X X ?_
     refine zaB (d := 61) rfl (fun g125 => ?_) (fun g125 => ?_)
     ·
      refine M X X X<|U X zag X zbM X X<|M X X X<|E (j := 0) st123.sub (hc100.up le122) X X X zbZ X<|M X X X<|zbQ X X<|M X X X<|zai X X<|M X X X<|U X zi X zW X X<|M X X X<|E (j := 2) st123.sub (hc11.up ((l90.trans le98).trans le122)) X X X zaw X<|M X X X<|zn st123 X X X Tryz.call134 X (zfe st123.sub _ zba _)<|fun r126 w127 h128 le129 st130 q131=> ?_
      obtain rfl := q131
      refine M X X X<|zX (v := (.bool _)) X X X<|zaf (v := (.bool _)) X X X<|zai X X ?_
      refine zaY (d := 71) rfl (fun g132 => ?_) (fun g132 => ?_)
      ·
       refine M X X X<|U X zag X zbM X X<|M X X X<|E (j := 1) st130.sub (hc100.up (le122.trans le129)) X X X zbZ X<|M X X X<|zbQ X X<|M X X X<|zai X X<|M X X X<|zk X X<|M X X X<|zee X X X<|M X X X<|zX (v := (.bool _)) X X X<|zaf (v := (.bool _)) X X X<|zai X X ?_
       refine zaB (d := 80) rfl (fun g133 => ?_) (fun g133 => ?_)
       ·
        refine M X X X<|U X zag X zbM X X<|M X X X<|E (j := 2) st130.sub (hc100.up (le122.trans le129)) X X X zbZ X<|M X X X<|zbQ X X<|M X X X<|zai X X<|M X X X<|U X zi X zT X X<|M X X X<|have l134:=((l90.trans le98).trans le122).trans le129;zab (j := 6) st130.sub (hc11.up l134) (us := [strV (d.to.stem), .int .u8 (d.to.mark)]) X X zbl zT X X X<|M X X X<|zn st130 X X X Tryz.call186 X (ziH st130.sub (hd := d.to) zba t_u8)<|fun r135 w136 h137 le138 st139 q140=> ?_
        obtain rfl := q140
        refine M X X X<|zX (v := (.bool _)) X X X<|zaf (v := (.bool _)) X X X<|zai X X ?_
        refine zaY (d := 90) rfl (fun g141 => ?_) (fun g141 => ?_)
        ·
         refine M X X X<|U X zag X zbM X X<|M X X X<|E (j := 3) st139.sub (hc100.up ((le122.trans le129).trans le138)) X X X zbZ X<|M X X X<|zbQ X X<|M X X X<|zai X X<|Z X X X X X<|Z X X X X X<|Z X X X X X<|Z X X X X X<|Z X X X X X<|Z X X X X X<|Z X X X X X<|M X X X<|zaf (v := (.bool _)) X X X<|zaf (v := (.bool _)) X X X<|zJ X X<|Y<|zB<|zc zcn ?_
         refine ⟨h137, _, rfl, st139.done, ?_⟩
         refine zw ?_
         exact dec2_t ht hk40 c39 g125 g132 g133 g141
        refine Z X X X X X<|Z X X X X X<|Z X X X X X<|Z X X X X X<|zm X X X X<|zm X X X X<|zm X X X X<|zm X X X X<|zm X X X X<|zm X X X X<|zm X X X X<|Z X X X X X<|zX (v := (.bool _)) X X X<|zJ X X<|Y<|zB<|zc zcn ?_
        refine ⟨h137, _, rfl, st139.done, ?_⟩
        refine zw ?_
        exact dec2_f2 ht hk40 c39 g125 g132 g133 g141
       refine Z X X X X X<|Z X X X X X<|Z X X X X X<|Z X X X X X<|zm X X X X<|zm X X X X<|zm X X X X<|Z X X X X X<|zX (v := (.bool _)) X X X<|zai X X<|Z X X X X X<|Z X X X X X<|Z X X X X X<|Z X X X X X<|zm X X X X<|zm X X X X<|zm X X X X<|zm X X X X<|zm X X X X<|zm X X X X<|zm X X X X<|Z X X X X X<|zX (v := (.bool _)) X X X<|zJ X X<|Y<|zB<|zc zcn ?_
       refine ⟨h128, _, rfl, st130.done, ?_⟩
       refine zw ?_
       exact dec2_f1 ht hk40 c39 g125 g132 g133
      refine Z X X X X X<|Z X X X X X<|Z X X X X X<|Z X X X X X<|zm X X X X<|zm X X X X<|Z X X X X X<|zX (v := (.bool _)) X X X<|zai X X<|Z X X X X X<|Z X X X X X<|Z X X X X X<|Z X X X X X<|zm X X X X<|zm X X X X<|zm X X X X<|Z X X X X X<|zX (v := (.bool _)) X X X<|zai X X<|Z X X X X X<|Z X X X X X<|Z X X X X X<|Z X X X X X<|zm X X X X<|zm X X X X<|zm X X X X<|zm X X X X<|zm X X X X<|zm X X X X<|zm X X X X ?_
      refine Z X X X X X<|zX (v := (.bool _)) X X X<|zJ X X<|Y<|zB<|zc zcn ?_
      refine ⟨h128, _, rfl, st130.done, ?_⟩
      refine zw ?_
      exact dec2_f0 ht hk40 c39 g125 g132
     refine Z X X X X X<|Z X X X X X<|Z X X X X X<|Z X X X X X<|zm X X X X<|zm X X X X<|zm X X X X<|Z X X X X X<|zX (v := (.bool _)) X X X<|zai X X<|Z X X X X X<|Z X X X X X<|Z X X X X X<|Z X X X X X<|zm X X X X<|zm X X X X<|Z X X X X X<|zX (v := (.bool _)) X X X<|zai X X<|Z X X X X X<|Z X X X X X<|Z X X X X X<|Z X X X X X<|zm X X X X<|zm X X X X<|zm X X X X<|Z X X X X X<|zX (v := (.bool _)) X X X<|zai X X<|Z X X X X X ?_
     refine Z X X X X X<|Z X X X X X<|Z X X X X X<|zm X X X X<|zm X X X X<|zm X X X X<|zm X X X X<|zm X X X X<|zm X X X X<|zm X X X X<|Z X X X X X<|zX (v := (.bool _)) X X X<|zJ X X<|Y<|zB<|zc zcn ?_
     refine ⟨h121, _, rfl, st123.done, ?_⟩
     refine zw ?_
     exact dec2_n ht hk40 c39 g125
    cases c113
   cases c110
  cases c107
 ·
  refine zo<|U X zi X zbn X X<|have l142:=((le18.trans le22).trans le32).trans le36;E (j := 1) st37.sub (hc11.up l142) X X X zbG X ?_
  refine zq rfl rfl (zdm rfl rfl (show _ = ((3 : Nat) : Int) by rw [hk40]; rfl) rfl zci zce) ?_
  have l143 := ((((le4.trans le10).trans le18).trans le22).trans le32).trans le36
  refine zab (j := 15) st37.sub (K1.up l143) (us := [.bool false, .bool true, .bool true, .bool false, .func (.func 271) #[] #[]]) X X Tryz.isAgg256 zce X X X<|zae st37 Tryz.zeroValue256 X X<|fun b144 w145 st146=>zM st146 (k := 0) X X X (za X (za X (za X (za X (za X zap))))) zce X X X<|fun w147 st148=> ?_
  obtain ⟨h149, le150, hb151, st153⟩ := st148.freeze (k := 0) rfl
  have hc152 := Cells.of hb151
  refine Y<|W.sr<|U X zi X zr X X<|E (j := 0) st153.sub (hc11.up (l142.trans le150)) X X X zN X<|U X zi X zbn X X<|E (j := 1) st153.sub (hc11.up (l142.trans le150)) X X X zbG X<|zq X X (zbW (cs := [.int .i64 (d.number), .int .u8 (d.kind), strV [], .int .i64 0, .int .i64 0, .int .i64 0, strV [], .int .u8 0, .int .i64 0]) t_kr)<|zae st153 zbD X X<|fun b154 w155 st156=>zM st156 (k := 1) X X X (za X (za X (za X (za X (za X (za X (za X (za X (za X zap))))))))) zK X X X<|fun w157 st158=>Y<|zj<|W.sr<|U X zag X zbM X X<|E (j := 0) st158.sub hc152 X X X zbZ X<|Y ?_
  refine zad rfl (fun c159 => ?_) (fun c159 => ?_)
  ·
   cases c159
  refine zC<|O<|zj<|W.sr<|U X zag X zbM X X<|E (j := 1) st158.sub hc152 X X X zbZ X<|Y ?_
  refine zad rfl (fun c160 => ?_) (fun c160 => ?_)
  ·
   refine zo<|U X zi X zO X X<|zab (j := 3) st158.sub (hc11.up (l142.trans le150)) (us := [.int .i64 (d.at_.chapter), .int .i64 (d.at_.line), .int .i64 (d.at_.word)]) X X zaD zO X X X<|U X zi X zO X X<|zM st158 (k := 1) X X X (za X (za X (za X zap))) zO X X X<|fun w161 st162=>Y<|zj<|W.sr<|U X zag X zbM X X<|E (j := 2) st162.sub hc152 X X X zbZ X<|Y ?_
   refine zad rfl (fun c163 => ?_) (fun c163 => ?_)
   ·
    refine zo<|U X zi X zT X X<|zab (j := 6) st162.sub (hc11.up (l142.trans le150)) (us := [strV (d.to.stem), .int .u8 (d.to.mark)]) X X zbl zT X X X<|U X zi X zT X X<|zM st162 (k := 1) X X X (za X (za X zap)) zT X X X<|fun w164 st165=>Y<|zj<|W.sr<|U X zag X zbM X X<|E (j := 3) st165.sub hc152 X X X zbZ X<|Y ?_
    refine zad rfl (fun c166 => ?_) (fun c166 => ?_)
    ·
     cases c166
    refine zC<|O<|W.sr<|have l167:=((((le10.trans le18).trans le22).trans le32).trans le36).trans le150;zy st165.sub (hc5.up l167) X zaO zac X X<|U X zi X zO X X<|zab (j := 3) st165.sub (hc11.up (l142.trans le150)) (us := [.int .i64 (d.at_.chapter), .int .i64 (d.at_.line), .int .i64 (d.at_.word)]) X X zaD zO X X X<|have l168:=l143.trans le150;zn st165 X X X Tryz.call85 X (zgJ st165.sub (t := t) (t_f0.up l168) (p := d.at_))<|fun r169 w170 h171 le172 st173 q174=> ?_
    obtain rfl := q174
    refine zdu X X<|zak (v := (strV _)) X X X<|zak (v := (.int _ _)) X X X<|zdR X X<|zz X X<|Y<|zj ?_
    have qn : 1 ≤ d.number ∧ d.number ≤ 999 := by
     have q := c39
     simp [zcJ, inB] at q
     omega
    refine zo<|zy st173.sub (hc11.up ((l142.trans le150).trans le172)) X zaI zK X X<|zcd (st173.get (k := 1) X) X zaI zK X X<|zq X X (zge X X zeS (Tryz.eq_Decision d (Decision.mk (d.number) (d.kind) ([]) (Place.mk (d.at_.chapter) (d.at_.line) (d.at_.word)) (Head.mk (d.to.stem) (d.to.mark)) 0)))<|zai X X ?_
    refine zaB (d := 61) rfl (fun g175 => ?_) (fun g175 => ?_)
    ·
     refine M X X X<|U X zag X zbM X X<|M X X X<|E (j := 0) st173.sub (hc152.up le172) X X X zbZ X<|M X X X<|zbQ X X<|M X X X<|zai X X<|Z X X X X X<|Z X X X X X<|Z X X X X X<|M X X X<|zaf (v := (.bool _)) X X X<|zaf (v := (.bool _)) X X X<|zai X X<|M X X X<|U X zag X zbM X X<|M X X X<|E (j := 1) st173.sub (hc152.up le172) X X X zbZ X<|M X X X<|zbQ X X<|M X X X<|zai X X<|M X X X<|zk X X<|M X X X<|zee X X X<|M X X X<|zX (v := (.bool _)) X X X<|zaf (v := (.bool _)) X X X ?_
     refine zai X X ?_
     refine zaB (d := 80) rfl (fun g176 => ?_) (fun g176 => ?_)
     ·
      refine M X X X<|U X zag X zbM X X<|M X X X<|E (j := 2) st173.sub (hc152.up le172) X X X zbZ X<|M X X X<|zbQ X X<|M X X X<|zai X X<|M X X X<|U X zi X zT X X<|M X X X<|zab (j := 6) st173.sub (hc11.up ((l142.trans le150).trans le172)) (us := [strV (d.to.stem), .int .u8 (d.to.mark)]) X X zbl zT X X X<|M X X X<|zn st173 X X X Tryz.call186 X (ziH st173.sub (hd := d.to) zba t_u8)<|fun r177 w178 h179 le180 st181 q182=> ?_
      obtain rfl := q182
      refine M X X X<|zX (v := (.bool _)) X X X<|zaf (v := (.bool _)) X X X<|zai X X ?_
      refine zaY (d := 90) rfl (fun g183 => ?_) (fun g183 => ?_)
      ·
       refine M X X X<|U X zag X zbM X X<|M X X X<|E (j := 3) st181.sub (hc152.up (le172.trans le180)) X X X zbZ X<|M X X X<|zbQ X X<|M X X X<|zai X X<|Z X X X X X<|Z X X X X X<|Z X X X X X<|Z X X X X X<|Z X X X X X<|Z X X X X X<|Z X X X X X<|M X X X<|zaf (v := (.bool _)) X X X<|zaf (v := (.bool _)) X X X<|zJ X X<|Y<|zB<|zc zcn ?_
       refine ⟨h179, _, rfl, st181.done, ?_⟩
       refine zw ?_
       exact dec3_t ht hk40 c39 g175 g176 g183
      refine Z X X X X X<|Z X X X X X<|Z X X X X X<|Z X X X X X<|zm X X X X<|zm X X X X<|zm X X X X<|zm X X X X<|zm X X X X<|zm X X X X<|zm X X X X<|Z X X X X X<|zX (v := (.bool _)) X X X<|zJ X X<|Y<|zB<|zc zcn ?_
      refine ⟨h179, _, rfl, st181.done, ?_⟩
      refine zw ?_
      exact dec3_f1 ht hk40 c39 g175 g176 g183
     refine Z X X X X X<|Z X X X X X<|Z X X X X X<|Z X X X X X<|zm X X X X<|zm X X X X<|zm X X X X<|Z X X X X X<|zX (v := (.bool _)) X X X<|zai X X<|Z X X X X X<|Z X X X X X<|Z X X X X X<|Z X X X X X<|zm X X X X<|zm X X X X<|zm X X X X<|zm X X X X<|zm X X X X<|zm X X X X<|zm X X X X<|Z X X X X X<|zX (v := (.bool _)) X X X<|zJ X X<|Y<|zB<|zc zcn ?_
     refine ⟨h171, _, rfl, st173.done, ?_⟩
     refine zw ?_
     exact dec3_f0 ht hk40 c39 g175 g176
    refine Z X X X X X<|Z X X X X X<|Z X X X X X<|Z X X X X X<|zm X X X X<|zm X X X X<|zm X X X X<|Z X X X X X<|zX (v := (.bool _)) X X X<|zai X X<|Z X X X X X<|Z X X X X X<|Z X X X X X<|Z X X X X X<|zm X X X X<|zm X X X X<|Z X X X X X<|zX (v := (.bool _)) X X X<|zai X X<|Z X X X X X<|Z X X X X X<|Z X X X X X<|Z X X X X X<|zm X X X X<|zm X X X X<|zm X X X X<|Z X X X X X<|zX (v := (.bool _)) X X X<|zai X X<|Z X X X X X ?_
    refine Z X X X X X<|Z X X X X X<|Z X X X X X<|zm X X X X<|zm X X X X<|zm X X X X<|zm X X X X<|zm X X X X<|zm X X X X<|zm X X X X<|Z X X X X X<|zX (v := (.bool _)) X X X<|zJ X X<|Y<|zB<|zc zcn ?_
    refine ⟨h171, _, rfl, st173.done, ?_⟩
    refine zw ?_
    exact dec3_n ht hk40 c39 g175
   cases c163
  cases c160
 refine zo<|U X zi X zbn X X<|have l184:=((le18.trans le22).trans le32).trans le36;E (j := 1) st37.sub (hc11.up l184) X X X zbG X ?_
 refine zq rfl rfl (zdm rfl rfl (show _ = ((4 : Nat) : Int) by rw [hk40]; rfl) rfl zci zce) ?_
 have l185 := ((((le4.trans le10).trans le18).trans le22).trans le32).trans le36
 refine zab (j := 20) st37.sub (K1.up l185) (us := [.bool false, .bool false, .bool false, .bool true, .func (.func 272) #[] #[]]) X X Tryz.isAgg256 zce X X X<|zae st37 Tryz.zeroValue256 X X<|fun b186 w187 st188=>zM st188 (k := 0) X X X (za X (za X (za X (za X (za X zap))))) zce X X X<|fun w189 st190=> ?_
 obtain ⟨h191, le192, hb193, st195⟩ := st190.freeze (k := 0) rfl
 have hc194 := Cells.of hb193
 refine Y<|W.sr<|U X zi X zr X X<|E (j := 0) st195.sub (hc11.up (l184.trans le192)) X X X zN X<|U X zi X zbn X X<|E (j := 1) st195.sub (hc11.up (l184.trans le192)) X X X zbG X<|zq X X (zbW (cs := [.int .i64 (d.number), .int .u8 (d.kind), strV [], .int .i64 0, .int .i64 0, .int .i64 0, strV [], .int .u8 0, .int .i64 0]) t_kr)<|zae st195 zbD X X<|fun b196 w197 st198=>zM st198 (k := 1) X X X (za X (za X (za X (za X (za X (za X (za X (za X (za X zap))))))))) zK X X X<|fun w199 st200=>Y<|zj<|W.sr<|U X zag X zbM X X<|E (j := 0) st200.sub hc194 X X X zbZ X<|Y ?_
 refine zad rfl (fun c201 => ?_) (fun c201 => ?_)
 ·
  cases c201
 refine zC<|O<|zj<|W.sr<|U X zag X zbM X X<|E (j := 1) st200.sub hc194 X X X zbZ X<|Y ?_
 refine zad rfl (fun c202 => ?_) (fun c202 => ?_)
 ·
  cases c202
 refine zC<|O<|zj<|W.sr<|U X zag X zbM X X<|E (j := 2) st200.sub hc194 X X X zbZ X<|Y ?_
 refine zad rfl (fun c203 => ?_) (fun c203 => ?_)
 ·
  cases c203
 refine zC<|O<|zj<|W.sr<|U X zag X zbM X X<|E (j := 3) st200.sub hc194 X X X zbZ X<|Y ?_
 refine zad rfl (fun c204 => ?_) (fun c204 => ?_)
 ·
  refine zo<|U X zi X zr X X<|E (j := 8) st200.sub (hc11.up (l184.trans le192)) X X X zN X<|U X zi X zr X X<|zbR st200 (k := 1) X X X X zr X X X<|fun w205 st206=>Y<|W.sr<|have l207:=((((le10.trans le18).trans le22).trans le32).trans le36).trans le192;zy st206.sub (hc5.up l207) X zaO zac X X<|U X zi X zO X X<|zab (j := 3) st206.sub (hc11.up (l184.trans le192)) (us := [.int .i64 (d.at_.chapter), .int .i64 (d.at_.line), .int .i64 (d.at_.word)]) X X zaD zO X X X<|have l208:=l185.trans le192;zn st206 X X X Tryz.call85 X (zgJ st206.sub (t := t) (t_f0.up l208) (p := d.at_))<|fun r209 w210 h211 le212 st213 q214=> ?_
  obtain rfl := q214
  refine zdu X X<|zak (v := (strV _)) X X X<|zak (v := (.int _ _)) X X X<|zdR X X<|zz X X<|Y<|zj ?_
  have qn : 1 ≤ d.number ∧ d.number ≤ 999 := by
   have q := c39
   simp [zcJ, inB] at q
   omega
  refine zo<|zy st213.sub (hc11.up ((l184.trans le192).trans le212)) X zaI zK X X<|zcd (st213.get (k := 1) X) X zaI zK X X<|zq X X (zge X X zeS (Tryz.eq_Decision d (Decision.mk (d.number) (d.kind) ([]) (Place.mk 0 0 0) (Head.mk ([]) 0) (d.of_))))<|zai X X ?_
  refine zaB (d := 61) rfl (fun g215 => ?_) (fun g215 => ?_)
  ·
   refine M X X X<|U X zag X zbM X X<|M X X X<|E (j := 0) st213.sub (hc194.up le212) X X X zbZ X<|M X X X<|zbQ X X<|M X X X<|zai X X<|Z X X X X X<|Z X X X X X<|Z X X X X X<|M X X X<|zaf (v := (.bool _)) X X X<|zaf (v := (.bool _)) X X X<|zai X X<|M X X X<|U X zag X zbM X X<|M X X X<|E (j := 1) st213.sub (hc194.up le212) X X X zbZ X<|M X X X<|zbQ X X<|M X X X<|zai X X<|Z X X X X X<|Z X X X X X<|M X X X<|zaf (v := (.bool _)) X X X<|zaf (v := (.bool _)) X X X<|zai X X<|M X X X ?_
   refine U X zag X zbM X X<|M X X X<|E (j := 2) st213.sub (hc194.up le212) X X X zbZ X<|M X X X<|zbQ X X<|M X X X<|zai X X<|Z X X X X X<|Z X X X X X<|Z X X X X X<|M X X X<|zaf (v := (.bool _)) X X X<|zaf (v := (.bool _)) X X X<|zai X X<|M X X X<|U X zag X zbM X X<|M X X X<|E (j := 3) st213.sub (hc194.up le212) X X X zbZ X<|M X X X<|zbQ X X<|M X X X<|zai X X<|M X X X<|U X zi X zr X X<|M X X X<|E (j := 0) st213.sub (hc11.up ((l184.trans le192).trans le212)) X X X zN X<|M X X X<|zfu X X t_om X<|M X X X<|U X zi X zr X X ?_
   refine M X X X<|E (j := 8) st213.sub (hc11.up ((l184.trans le192).trans le212)) X X X zN X<|M X X X<|zaL (L := LInt) (xs := [(d.of_)]) (cs := [.int .i64 (d.of_)]) st213 (Enc.cons (L := LInt) (vs := [.int .i64 (d.of_)]) (x := (d.of_)) (h := h211) (X) Enc.nil) X X X zp Tryz.info3 X X X t_kr<|fun v216 w217 h220 le221 f218 st219=>M X X X<|zn st219 X X X Tryz.call135 X (zir st219.sub _ _ f218)<|fun r222 w223 h224 le225 st226 q227=> ?_
   obtain rfl := q227
   refine M X X X<|zX (v := (.bool _)) X X X<|zaf (v := (.bool _)) X X X<|zJ X X<|Y<|zB<|zc zcn ?_
   refine ⟨h224, _, rfl, st226.done, ?_⟩
   refine zw ?_
   exact dec4_t ht hk40 c39 g215
  refine Z X X X X X<|Z X X X X X<|Z X X X X X<|Z X X X X X<|zm X X X X<|zm X X X X<|zm X X X X<|Z X X X X X<|zX (v := (.bool _)) X X X<|zai X X<|Z X X X X X<|Z X X X X X<|Z X X X X X<|Z X X X X X<|zm X X X X<|zm X X X X<|Z X X X X X<|zX (v := (.bool _)) X X X<|zai X X<|Z X X X X X<|Z X X X X X<|Z X X X X X<|Z X X X X X<|zm X X X X<|zm X X X X<|zm X X X X<|Z X X X X X<|zX (v := (.bool _)) X X X<|zai X X<|Z X X X X X ?_
  refine Z X X X X X<|Z X X X X X<|Z X X X X X<|zm X X X X<|zm X X X X<|zm X X X X<|zm X X X X<|zm X X X X<|zm X X X X<|zm X X X X<|Z X X X X X<|zX (v := (.bool _)) X X X<|zJ X X<|Y<|zB<|zc zcn ?_
  refine ⟨h211, _, rfl, st213.done, ?_⟩
  refine zw ?_
  exact dec4_n ht hk40 c39 g215
 cases c204
end Go.Pk

namespace Go.Pk
open Go Go.RowKit Go.Proofs
theorem ziI {xs : List Rule} {v : Value} {g : FuncId} {caps : List Value} (S : Nat → Heap → World → Prop) (p : Nat → Bool)
  (hS : ∀ k h w, S k h w → Sub h w ∧ Sl LRule h v xs) (hup : ∀ k h w h' w', S k h w → St h w h' w' [] → S k h' w')
  (hf : ∀ k x h w vs, S k h w → xs[k]? = some x → LRule.R h vs x → Calls Tryz.prog g (.agg vs.toArray :: caps).toArray w (fun e w' => ∃ h', e = .returned (.bool (p k)) ∧ Le h h' ∧ S (k + 1) h' w'))
  (hg : ∀ a w, (callFunc g a).run Tryz.prog w = .ok (.enter g a) w) {h : Heap} {w : World} (h0 : S 0 h w) :
  Calls Tryz.prog 132 #[v, .func (.func g) #[] caps.toArray] w (fun e w' => ∃ h' k b, e = .returned (.bool b) ∧ S k h' w' ∧ (b = true ↔ ∀ j, j < xs.length → p j = true)) := by
 refine zS (n := 9) Tryz.func132 X X X ?_
 have st0 : St h w h w [] := St.start (hS _ _ _ h0).1
 refine W.sr<|zG st0 (v := .func (.func g) #[] caps.toArray) (cs := [.func (.func g) #[] caps.toArray]) X X X<|fun b w1 h1 le1 hc st1=>have h1S:=hup _ _ _ _ _ h0 st1;zJ X X<|Y<|W.sr<|zaa (v := v) X X<|zdl X X X ?_
 have con := zeA (v := v) (g := 180) (caps := [.pointer (some ⟨b, 0, none⟩)]) (fun k h w => S k h w ∧ Cells h b 0 [.func (.func g) #[] caps.toArray]) (fun k => !p k) (fun k h w hs => hS k h w hs.1) (fun k x h2 w2 vs hs hx hr u hu => by
  subst hu
  obtain ⟨hs, hc2⟩ := hs
  refine zS (n := 8) Tryz.func180 X X X ?_
  have st2 : St h2 w2 h2 w2 [] := St.start (hS _ _ _ hs).1
  refine W.sr<|zG st2 (v := .agg vs.toArray) (cs := vs) X X X<|fun b3 w3 h3 le3 hc3 st3=>have hs3:=hup _ _ _ _ _ hs st3;zJ X X<|Y<|W.sr<|E (j := 0) st3.sub (hc2.up le3) X X X Tryz.isAgg210 X<|zy st3.sub hc3 X zgK zcr (LRule.len hr) X ?_
  refine zaT rfl rfl (zcb (fs := []) (cs := caps) rfl rfl hg rfl) ((hf k x h3 w3 vs hs3 hx (LRule.up hr le3)).mono ?_)
  rintro e w4 ⟨h4, rfl, le4, hs4⟩
  refine ⟨_, rfl, ?_⟩
  refine zbQ X X<|zJ X X<|Y<|zB<|zc Tryz.results180 ?_
  exact ⟨h4, rfl, hs4, hc2.up (le3.trans le4)⟩) Tryz.call180 ⟨h1S, hc⟩
 refine zaT rfl rfl (zbc rfl Tryz.call179 rfl) (con.mono ?_)
 rintro e w2 ⟨h2, k, rfl, q1, q2, q3, q4⟩
 refine ⟨_, rfl, ?_⟩
 refine zbQ X X<|zJ X X<|Y<|zB<|zc Tryz.results132 ?_
 refine ⟨h2, _, _, rfl, q4.1, ?_⟩
 simp only [Bool.not_eq_true', decide_eq_false_iff_not, Bool.not_eq_false', Bool.not_eq_true] at q2 q3 ⊢
 constructor
 ·intro hk j hj
  exact q2 j (by omega)
 ·intro hall hk
  have := q3 hk
  rw [hall k hk] at this; cases this
theorem c_stem_all_api_Rule {xs : List Rule} {v : Value} {g : FuncId} {caps : List Value} {h : Heap} {w : World} (hs : Sub h w) (hx : Sl LRule h v xs) (q : Rule → Bool)
  (hf : ∀ x h' w' vs, Le h h' → Sub h' w' → x ∈ xs → LRule.R h' vs x → ∀ u, u = .agg vs.toArray → Calls Tryz.prog g (u :: caps).toArray w' (Rets h' w' fun _ _ r => r = .bool (q x)))
  (hg : ∀ a w, (callFunc g a).run Tryz.prog w = .ok (.enter g a) w) :
  Calls Tryz.prog 132 #[v, .func (.func g) #[] caps.toArray] w (Rets h w fun _ _ r => r = .bool (xs.all q)) := by
 refine (ziI (xs := xs) (v := v) (fun _ h' w' => St h w h' w' []) (fun k => ((xs[k]?).map q).getD true) (fun k h' w' s => ⟨s.sub, hx.up s.le⟩) (fun k h1 w1 h2 w2 s1 s2 => s1.call0 s2) (fun k x h1 w1 vs s1 hk hr => ?_) hg (St.start hs)).mono ?_
 ·refine (hf x h1 w1 vs s1.le s1.sub (List.mem_of_getElem? hk) hr _ rfl).mono ?_
  rintro e w2 ⟨h2, r, rfl, s2, rfl⟩
  refine ⟨h2, ?_, s2.le, s1.call0 s2⟩
  rw [hk]; rfl
 ·rintro e w2 ⟨h2, k, b, rfl, s2, hb⟩
  refine ⟨h2, _, rfl, s2, congrArg Value.bool ?_⟩
  rw [Bool.eq_iff_iff, hb, List.all_eq_true]
  constructor
  ·intro hall x hx'
   obtain ⟨j, hj⟩ := List.mem_iff_getElem?.1 hx'
   have := hall j (List.getElem?_eq_some_iff.1 hj).1
   rw [hj] at this; exact this
  ·intro hall j hj
   rw [List.getElem?_eq_getElem hj]
   exact hall _ (List.getElem_mem hj)
theorem zhC {xs : List Decision} {v : Value} {g : FuncId} {caps : List Value} (S : Nat → Heap → World → Prop) (p : Nat → Bool)
  (hS : ∀ k h w, S k h w → Sub h w ∧ Sl LDecision h v xs) (hup : ∀ k h w h' w', S k h w → St h w h' w' [] → S k h' w')
  (hf : ∀ k x h w vs, S k h w → xs[k]? = some x → LDecision.R h vs x → Calls Tryz.prog g (.agg vs.toArray :: caps).toArray w (fun e w' => ∃ h', e = .returned (.bool (p k)) ∧ Le h h' ∧ S (k + 1) h' w'))
  (hg : ∀ a w, (callFunc g a).run Tryz.prog w = .ok (.enter g a) w) {h : Heap} {w : World} (h0 : S 0 h w) :
  Calls Tryz.prog 136 #[v, .func (.func g) #[] caps.toArray] w (fun e w' => ∃ h' k b, e = .returned (.bool b) ∧ S k h' w' ∧ (b = true ↔ ∀ j, j < xs.length → p j = true)) := by
 refine zS (n := 9) Tryz.func136 X X X ?_
 have st0 : St h w h w [] := St.start (hS _ _ _ h0).1
 refine W.sr<|zG st0 (v := .func (.func g) #[] caps.toArray) (cs := [.func (.func g) #[] caps.toArray]) X X X<|fun b w1 h1 le1 hc st1=>have h1S:=hup _ _ _ _ _ h0 st1;zJ X X<|Y<|W.sr<|zaa (v := v) X X<|zdl X X X ?_
 have con := zdN (v := v) (g := 185) (caps := [.pointer (some ⟨b, 0, none⟩)]) (fun k h w => S k h w ∧ Cells h b 0 [.func (.func g) #[] caps.toArray]) (fun k => !p k) (fun k h w hs => hS k h w hs.1) (fun k x h2 w2 vs hs hx hr u hu => by
  subst hu
  obtain ⟨hs, hc2⟩ := hs
  refine zS (n := 8) Tryz.func185 X X X ?_
  have st2 : St h2 w2 h2 w2 [] := St.start (hS _ _ _ hs).1
  refine W.sr<|zG st2 (v := .agg vs.toArray) (cs := vs) X X X<|fun b3 w3 h3 le3 hc3 st3=>have hs3:=hup _ _ _ _ _ hs st3;zJ X X<|Y<|W.sr<|E (j := 0) st3.sub (hc2.up le3) X X X Tryz.isAgg213 X<|zy st3.sub hc3 X zaI zK (LDecision.len hr) X ?_
  refine zaT rfl rfl (zcb (fs := []) (cs := caps) rfl rfl hg rfl) ((hf k x h3 w3 vs hs3 hx (LDecision.up hr le3)).mono ?_)
  rintro e w4 ⟨h4, rfl, le4, hs4⟩
  refine ⟨_, rfl, ?_⟩
  refine zbQ X X<|zJ X X<|Y<|zB<|zc Tryz.results185 ?_
  exact ⟨h4, rfl, hs4, hc2.up (le3.trans le4)⟩) Tryz.call185 ⟨h1S, hc⟩
 refine zaT rfl rfl (zbc rfl Tryz.call184 rfl) (con.mono ?_)
 rintro e w2 ⟨h2, k, rfl, q1, q2, q3, q4⟩
 refine ⟨_, rfl, ?_⟩
 refine zbQ X X<|zJ X X<|Y<|zB<|zc Tryz.results136 ?_
 refine ⟨h2, _, _, rfl, q4.1, ?_⟩
 simp only [Bool.not_eq_true', decide_eq_false_iff_not, Bool.not_eq_false', Bool.not_eq_true] at q2 q3 ⊢
 constructor
 ·intro hk j hj
  exact q2 j (by omega)
 ·intro hall hk
  have := q3 hk
  rw [hall k hk] at this; cases this
end Go.Pk

namespace Go.Pk
open Go Go.RowKit Go.Proofs
theorem c_stem_Check_1 {h : Heap} {w : World} (hs : Sub h w) {r : Rule} (r_l1 : r.cut.length ≤ 281474976710656) (r_l2 : r.put.length ≤ 281474976710656) : Calls Tryz.prog 133 #[.agg #[strV r.cut, strV r.put, .int .i64 r.least]] w (Rets h w (fun _ _ res_ => res_ = .bool (zgt r))) := by
 refine zS (n := 24) Tryz.func133 X X X<|have st0:=t_s0 hs;W.sr<|zG st0 (cs := [strV (r.cut), strV (r.put), .int .i64 (r.least)]) X X X<|fun b1 w2 h3 le4 hc5 st6=>zJ X X<|Y<|W.sr<|U X zbo X zW X X<|E (j := 0) st6.sub hc5 X X X zaw X<|zn st6 X X X Tryz.call134 X (zfe st6.sub _ zba _)<|fun r7 w8 h9 le10 st11 q12=> ?_
 obtain rfl := q12
 refine zai X X ?_
 refine zaY (d := 6) rfl (fun g13 => ?_) (fun g13 => ?_)
 ·
  refine M X X X<|U X zbo X zW X X<|M X X X<|E (j := 1) st11.sub (hc5.up le10) X X X zaw X<|M X X X<|zn st11 X X X Tryz.call134 X (zfe st11.sub _ zba _)<|fun r14 w15 h16 le17 st18 q19=> ?_
  obtain rfl := q19
  refine zaf (v := (.bool _)) X X X<|zai X X ?_
  refine zaY (d := 11) rfl (fun g20 => ?_) (fun g20 => ?_)
  ·
   refine M X X X<|U X zbo X zW X X<|M X X X<|E (j := 0) st18.sub (hc5.up (le10.trans le17)) X X X zaw X<|M X X X<|U X zbo X zW X X<|M X X X<|E (j := 1) st18.sub (hc5.up (le10.trans le17)) X X X zaw X<|M X X X<|zq X X (r_sneq X X)<|zaf (v := (.bool _)) X X X<|zai X X ?_
   refine zaB (d := 18) rfl (fun g21 => ?_) (fun g21 => ?_)
   ·
    refine M X X X<|U X zbo X zr X X<|M X X X<|E (j := 2) st18.sub (hc5.up (le10.trans le17)) X X X zN X<|M X X X<|zaL (L := LInt) (xs := [(r.least)]) (cs := [.int .i64 (r.least)]) st18 (Enc.cons (L := LInt) (vs := [.int .i64 (r.least)]) (x := (r.least)) (h := h16) (X) Enc.nil) X X X zp Tryz.info3 X X X t_kr<|fun v22 w23 h26 le27 f24 st25=>M X X X<|zn st25 X X X Tryz.call135 X (zir st25.sub _ _ f24)<|fun r28 w29 h30 le31 st32 q33=> ?_
    obtain rfl := q33
    refine zaf (v := (.bool _)) X X X<|zJ X X<|Y<|zB<|zc Tryz.results133 ?_
    refine ⟨h30, _, rfl, st32.done, ?_⟩
    refine zw ?_
    simp_all [zgt, inAll_one]
   refine Z X X X X X<|Z X X X X X<|Z X X X X X<|Z X X X X X<|zX (v := (.bool _)) X X X<|zJ X X<|Y<|zB<|zc Tryz.results133 ?_
   refine ⟨h16, _, rfl, st18.done, ?_⟩
   refine zw ?_
   simp_all [zgt, inAll_one]
  refine Z X X X X X<|Z X X X X X<|Z X X X X X<|Z X X X X X<|Z X X X X X<|zX (v := (.bool _)) X X X<|zai X X<|Z X X X X X<|Z X X X X X<|Z X X X X X<|Z X X X X X<|zX (v := (.bool _)) X X X<|zJ X X<|Y<|zB<|zc Tryz.results133 ?_
  refine ⟨h16, _, rfl, st18.done, ?_⟩
  refine zw ?_
  simp_all [zgt, inAll_one]
 refine Z X X X X X<|Z X X X X X<|Z X X X X X<|zX (v := (.bool _)) X X X<|zai X X<|Z X X X X X<|Z X X X X X<|Z X X X X X<|Z X X X X X<|Z X X X X X<|zX (v := (.bool _)) X X X<|zai X X<|Z X X X X X<|Z X X X X X<|Z X X X X X<|Z X X X X X<|zX (v := (.bool _)) X X X<|zJ X X<|Y<|zB<|zc Tryz.results133 ?_
 refine ⟨h9, _, rfl, st11.done, ?_⟩
 refine zw ?_
 simp_all [zgt, inAll_one]
theorem c_stem_Check_2 {h0 h : Heap} {w0 w : World} {rest : Own} {m : List (Int × Bool)} {m_o : List (Nat × Obj)} {m_v : Value} (m_M : OM (fun n : Int => .int .i64 n) (fun b : Bool => .bool b) m m_o m_v) (m_N : (m.map (·.1)).Nodup) {d : Decision} (d_l2 : 0 ≤ d.kind ∧ d.kind ≤ 255) (d_l3 : d.form.length ≤ 281474976710656) (d_l7 : d.to.stem.length ≤ 281474976710656) (d_l8 : 0 ≤ d.to.mark ∧ d.to.mark ≤ 255) {numbers_b : Nat} (numbers_c : Cells h numbers_b 0 [m_v]) {t_b : Nat} {t : Text} {t_v0 : Value} (t_f0 : Sl LChapter h t_v0 t.chapters) (t_c : Cells h t_b 0 [t_v0]) (K1 : Cells h 1 0 Tryz.glob1) (ht : zbu t = true) (st0 : St h0 w0 h w (m_o :: rest)) : Calls Tryz.prog 137 #[.agg #[.int .i64 d.number, .int .u8 d.kind, strV d.form, .int .i64 d.at_.chapter, .int .i64 d.at_.line, .int .i64 d.at_.word, strV d.to.stem, .int .u8 d.to.mark, .int .i64 d.of_], .pointer (some ⟨numbers_b, 0, none⟩), .pointer (some ⟨t_b, 0, none⟩)] w (fun e_ w' => ∃ h' res_ m_o', e_ = .returned res_ ∧ Le h h' ∧ St h0 w0 h' w' (m_o' :: rest) ∧ OM (fun n : Int => .int .i64 n) (fun b : Bool => .bool b) (putM m d.number true) m_o' m_v ∧ ((putM m d.number true).map (·.1)).Nodup ∧ (res_ = .bool ((!((look m d.number).getD false) && zaq t d)))) := by
 refine zS (n := 20) Tryz.func137 X X X<|have t_f0_b:=t_f0.le;W.sr<|zG st0 (cs := [.int .i64 (d.number), .int .u8 (d.kind), strV (d.form), .int .i64 (d.at_.chapter), .int .i64 (d.at_.line), .int .i64 (d.at_.word), strV (d.to.stem), .int .u8 (d.to.mark), .int .i64 (d.of_)]) X X X<|fun b1 w2 h3 le4 hc5 st6=>zJ X X<|Y<|W.sr<|E (j := 0) st6.sub (numbers_c.up le4) X X X Tryz.isAgg207 X<|U X zi X zr X X<|E (j := 0) st6.sub hc5 X X X zN X<|zq X X (r_look (k := (d.number)) (zu := false) (ziC zcE) Tryz.underlying207 m_M (st6.ent (k := 0) X) Tryz.zeroValue4 X X X)<|zJ X X<|Y<|W.sr<|E (j := 0) st6.sub (numbers_c.up le4) X X X Tryz.isAgg207 X<|U X zi X zr X X<|E (j := 0) st6.sub hc5 X X X zN X<|zey (i := 0) st6 m_M X m_N (ziC zcE) Tryz.underlying207 X (k := (d.number)) X (u := true) X<|fun o7 w8 _ e9 f10 nd11 st12=> ?_
 subst e9
 refine Y<|W.sr<|zai X X<|zbQ X X<|zai X X ?_
 refine zaY (d := 15) rfl (fun g13 => ?_) (fun g13 => ?_)
 ·
  refine M X X X<|zy st12.sub (t_c.up le4) X zaO zac X X<|M X X X<|zy st12.sub hc5 X zaI zK X X<|M X X X ?_
  refine zn st12 rfl rfl rfl Tryz.call138 rfl (c_stem_decided st12.sub (t := t) (t_f0.up le4) (d := d) t_u8 zba zba t_u8 (K1.up le4) (by assumption)) ?_
  intro r14 w15 h16 le17 st18 q19
  obtain rfl := q19
  refine zaf (v := (.bool _)) X X X<|zJ X X<|Y<|zB<|zc Tryz.results137 ?_
  refine ⟨h16, _, o7, rfl, (le4.trans le17), st18, f10, nd11, ?_⟩
  refine zw ?_
  simp_all
 refine Z X X X X X<|Z X X X X X<|Z X X X X X<|zX (v := (.bool _)) X X X<|zJ X X<|Y<|zB<|zc Tryz.results137 ?_
 refine ⟨h3, _, o7, rfl, le4, st12, f10, nd11, ?_⟩
 refine zw ?_
 simp_all
theorem zhh {h : Heap} {w : World} (hs : Sub h w) {t : Text} {t_v0 : Value} (t_f0 : Sl LChapter h t_v0 t.chapters) {x : Lexicon} {x_v0 : Value} (x_f0 : Sl LRule h x_v0 x.rules) {x_v1 : Value} (x_f1 : Sl LDecision h x_v1 x.decisions) (K1 : Cells h 1 0 Tryz.glob1) : Calls Tryz.prog 96 #[.agg #[t_v0], .agg #[x_v0, x_v1]] w (Rets h w (fun _ _ res_ => res_ = .int .i64 (zaQ t x))) := by
 refine zS (n := 40) Tryz.func96 X X X<|have st0:=t_s0 hs;have t_f0_b:=t_f0.le;have x_f0_b:=x_f0.le;have x_f1_b:=x_f1.le;W.sr<|zG st0 (cs := [t_v0]) X X X<|fun b1 w2 h3 le4 hc5 st6=>zG st6 (cs := [x_v0, x_v1]) X X X<|fun b7 w8 h9 le10 hc11 st12=>zz X X<|Y<|zj<|W.sr<|zy st12.sub (hc5.up le10) X zaO zac X X<|have l13:=le4.trans le10;zn st12 X X X Tryz.call131 X (c_leaf_Check st12.sub (t := t) (t_f0.up l13))<|fun r14 w15 h16 le17 st18 q19=> ?_
 obtain rfl := q19
 refine zz X X<|Y<|W.sr<|zk X X<|zcF X X X<|Y ?_
 refine zH rfl (fun c20 => ?_) (fun c20 => ?_)
 ·
  refine W.sr<|zk X X<|zz X X<|Y<|zB<|zd<|zc zga ?_
  refine ⟨h16, _, rfl, st18.done, ?_⟩
  refine zar ?_
  simp_all [zaQ, zck]
 refine zC<|O<|W.sr<|zgq (κ := Int) (υ := Bool) (ek := (fun n : Int => .int .i64 n)) (eu := (fun b : Bool => .bool b)) st18 X<|fun v21 o22 w23 f24 st25=> ?_
 obtain ⟨mb26, rfl⟩ := f24.form
 have nd27 : (([] : List (Int × Bool)).map (·.1)).Nodup := by simp
 refine zae st25 Tryz.zeroValue207 X X<|fun b28 w29 st30=>zbR st30 (k := 1) X X (v := (.map (some mb26))) X f24.one Tryz.sizeOf207 X X X<|fun w31 st32=> ?_
 obtain ⟨h33, le34, hb35, st37⟩ := st32.freeze (k := 1) rfl
 have hc36 := Cells.of hb35
 refine Y<|W.sr<|U X zQ X zbP X X<|E (j := 0) st37.sub (hc11.up (le17.trans le34)) X X X zcs X ?_
 refine zn st37 rfl rfl rfl Tryz.call132 rfl (c_stem_all_api_Rule st37.sub (x_f0.up ((l13.trans le17).trans le34)) (fun x_ => zgt (x_)) (fun x_ h_ w_ vs_ le_ hs_ hx_ hr_ u_ hu_ => by obtain ⟨rfl, f0_, f1_⟩ := hr_; cases hu_; simp only [big] at *; exact c_stem_Check_1 hs_ (r := x_) f0_ f1_) Tryz.call133) ?_
 intro r38 w39 h40 le41 st42 q43
 obtain rfl := q43
 refine zJ X X<|Y<|W.sr<|U X zQ X zaS X X<|E (j := 1) st42.sub (hc11.up ((le17.trans le34).trans le41)) X X X zbr X<|zdl X X X ?_
 have ht : zbu t = true := by
  have q := c20
  cases e : zbu t with
  | true => rfl
  | false => rw [e] at q; simp at q
 have con := zhC (xs := x.decisions) (v := x_v1) (g := 137) (caps := [.pointer (some ⟨b28, 0, none⟩), .pointer (some ⟨b1, 0, none⟩)]) (fun (k_ : Nat) (h_ : Heap) (w_ : World) => ∃ (m_ : List (Int × Bool)) (o_ : List (Nat × Obj)), Le h40 h_ ∧ St h w h_ w_ [o_, []] ∧ OM (fun n : Int => .int .i64 n) (fun b : Bool => .bool b) m_ o_ (.map (some mb26)) ∧ (m_.map (·.1)).Nodup ∧ (∀ n_, (look m_ n_).getD false = decide (n_ ∈ ((x.decisions).take k_).map (·.number)))) (decP t x.decisions) ?_ ?_ ?_ Tryz.call137 ⟨[], _, Le.refl _, st42, f24, nd27, by simp [look]⟩
 rotate_left
 ·rintro k_ h_ w_ ⟨m_, o_, l_, s_, _⟩
  exact ⟨s_.sub, (x_f1.up (((l13.trans le17).trans le34).trans le41)).up l_⟩
 ·rintro k_ h_ w_ h2_ w2_ ⟨m_, o_, l_, s_, q_⟩ s2_
  exact ⟨m_, o_, l_.trans s2_.le, s_.call0 s2_, q_⟩
 ·rintro k_ d_ h_ w_ vs_ ⟨m_, o_, l_, s_, hM_, hN_, hm_⟩ hx_ hr_
  obtain ⟨rfl, f0_, f1_, f2_, f3_⟩ := hr_
  simp only [big] at *
  refine (c_stem_Check_2 hM_ hN_ (d := d_) f0_ f1_ f2_ f3_ ((hc36.up le41).up l_) (t := t) ((t_f0.up (((l13.trans le17).trans le34).trans le41)).up l_) ((hc5.up (((le10.trans le17).trans le34).trans le41)).up l_) ((K1.up (((l13.trans le17).trans le34).trans le41)).up l_) (by assumption) s_).mono ?_
  rintro e_ w3_ ⟨h3_, res_, o3_, rfl, l3_, s3_, hM3_, hN3_, rfl⟩
  refine ⟨h3_, ?_, l3_, _, _, l_.trans l3_, s3_, hM3_, hN3_, ?_⟩
  ·rw [decP_some hx_, hm_]
  ·intro n_
   rw [look_putM, zbb hx_, List.map_append]
   by_cases e_ : n_ = d_.number
   ·simp [e_]
   ·simp only [if_neg e_, hm_]; simp [e_]
 refine zaT rfl rfl (zbc rfl Tryz.call136 rfl) (con.mono ?_)
 rintro _ w45 ⟨h46, k51, bb50, rfl, ⟨m52, o53, le54, st48, hM55, hN56, hm57⟩, hb49⟩
 refine ⟨_, rfl, ?_⟩
 clear con
 have hdB := decisions_iff hb49
 clear hb49
 subst hdB
 refine zJ X X<|Y<|zj<|W.sr<|zai X X<|zbQ X X<|zai X X ?_
 refine zaY (d := 24) rfl (fun g58 => ?_) (fun g58 => ?_)
 ·
  refine Z X X X X X<|Z X X X X X<|zaf (v := (.bool _)) X X X<|zai X X<|Z X X X X X<|Z X X X X X<|Z X X X X X<|Z X X X X X<|zaf (v := (.bool _)) X X X<|zai X X<|Z X X X X X<|Z X X X X X<|Z X X X X X<|Z X X X X X<|zaf (v := (.bool _)) X X X<|Y ?_
  refine zad rfl (fun c59 => ?_) (fun c59 => ?_)
  ·
   refine W.sr<|zz X X<|Y<|zB<|zd<|zc zga ?_
   refine ⟨h46, _, rfl, st48.done, ?_⟩
   refine zar ?_
   cases e : x.rules.all zgt with
   | true => exact absurd g58 (by rw [e]; simp)
   | false => simp only [zaQ, ht, zck, e]; simp
  cases c59
 refine M X X X<|zai X X<|M X X X<|zbQ X X<|zX (v := (.bool _)) X X X<|zai X X ?_
 refine zaY (d := 28) rfl (fun g60 => ?_) (fun g60 => ?_)
 ·
  refine Z X X X X X<|Z X X X X X<|Z X X X X X<|Z X X X X X<|zaf (v := (.bool _)) X X X<|zai X X<|Z X X X X X<|Z X X X X X<|Z X X X X X<|Z X X X X X<|zaf (v := (.bool _)) X X X<|Y ?_
  refine zad rfl (fun c61 => ?_) (fun c61 => ?_)
  ·
   refine W.sr<|zz X X<|Y<|zB<|zd<|zc zga ?_
   refine ⟨h46, _, rfl, st48.done, ?_⟩
   refine zar ?_
   have q : (x.decisions.all (zaq t) && decide (x.decisions.map (·.number)).Nodup) = false := by
    cases e : (x.decisions.all (zaq t) && decide (x.decisions.map (·.number)).Nodup) with
    | true => exact absurd g60 (by rw [e]; simp)
    | false => rfl
   rw [zaQ, show zck t x = (decide (x.rules.length ≤ 12) && (decide (x.decisions.length ≤ 20) && (x.rules.all zgt && (x.decisions.all (zaq t) && decide (x.decisions.map (·.number)).Nodup)))) from by simp only [zck, Bool.and_assoc], q]
   simp [ht]
  cases c61
 refine M X X X<|U X zQ X zbP X X<|M X X X<|have l62:=((le17.trans le34).trans le41).trans le54;E (j := 0) st48.sub (hc11.up l62) X X X zcs X<|M X X X<|have l63:=(((l13.trans le17).trans le34).trans le41).trans le54;zaJ (x_f0.up l63) X zaX X<|M X X X<|zdr X X X<|zX (v := (.bool _)) X X X<|zai X X ?_
 refine zaB (d := 34) rfl (fun g64 => ?_) (fun g64 => ?_)
 ·
  refine Z X X X X X<|Z X X X X X<|Z X X X X X<|Z X X X X X<|zaf (v := (.bool _)) X X X<|Y ?_
  refine zad rfl (fun c65 => ?_) (fun c65 => ?_)
  ·
   refine W.sr<|zz X X<|Y<|zB<|zd<|zc zga ?_
   refine ⟨h46, _, rfl, st48.done, ?_⟩
   refine zar ?_
   (simp_all [zaQ, zck]; omega)
  cases c65
 refine M X X X<|U X zQ X zaS X X<|M X X X<|E (j := 1) st48.sub (hc11.up l62) X X X zbr X<|M X X X<|zaJ (x_f1.up l63) X zU X<|M X X X<|zdr X X X<|zX (v := (.bool _)) X X X<|Y ?_
 refine zH rfl (fun c66 => ?_) (fun c66 => ?_)
 ·
  refine W.sr<|zz X X<|Y<|zB<|zd<|zc zga ?_
  refine ⟨h46, _, rfl, st48.done, ?_⟩
  refine zar ?_
  (simp_all [zaQ, zck]; omega)
 refine zC<|O<|W.sr<|zz X X<|Y<|zB<|zc zga ?_
 refine ⟨h46, _, rfl, st48.done, ?_⟩
 refine zar ?_
 (simp_all [zaQ, zck]; omega)
end Go.Pk

namespace Go.Pk
open Go Go.RowKit Go.Proofs
theorem zcB {h : Heap} {w : World} (hs : Sub h w) {s_v : Value} {s : (List Decision)} (s_f : Sl LDecision h s_v s) (hl : s.length * 88 ≤ 140737488355328) : Calls Tryz.prog 77 #[s_v] w (fun e_ w' => ∃ h' res_ o_, e_ = .returned res_ ∧ Le h h' ∧ St h w h' w' [o_] ∧ OSl LDecision 74 h' res_ (s) o_) := by
 refine zS (n := 8) Tryz.func77 X X X<|have st0:=t_s0 hs;have s_f_b:=s_f.le;W.sr<|zcz X X<|Y<|zj<|W.sr<|zaa (v := s_v) X X ?_
 obtain ⟨nb1, hn2, hn2_r⟩ := Sl.nilb (P := Tryz.prog) s_f
 refine zq X X (hn2_r zU X X)<|Y ?_
 refine zad rfl (fun c3 => ?_) (fun c3 => ?_)
 ·
  refine W.sr<|zcz X X<|Y<|zB<|zd<|zc Tryz.results77 ?_
  have st4 := st0.snoc
  have f5 := OSl.nil LDecision 74 h
  refine ⟨h, _, _, rfl, Le.refl _, st4, OSl.to f5 ?_⟩
  simp_all
 refine zC<|O<|W.sr<|zen (L := LDecision) st0 X ⟨_, zK⟩ zU<|fun v6 o7 w8 f9 st10=>zaa (v := s_v) X X ?_
 refine zaR (k := 0) (nb := 88) st10 f9 rfl s_f rfl rfl rfl zU Tryz.info74 rfl rfl rfl (by decide) rfl t_om t_om ?_
 intro v11 o12 w13 _ e14 f15 st16
 subst e14
 refine zaj (v := v11) X X<|Y<|zB<|zc Tryz.results77 ?_
 refine ⟨h, _, _, rfl, Le.refl _, st16, OSl.to f15 ?_⟩
 simp
theorem zdW {h : Heap} {w : World} (hs : Sub h w) {s_v : Value} {s : (List Rule)} (s_f : Sl LRule h s_v s) (hl : s.length * 40 ≤ 140737488355328) : Calls Tryz.prog 76 #[s_v] w (fun e_ w' => ∃ h' res_ o_, e_ = .returned res_ ∧ Le h h' ∧ St h w h' w' [o_] ∧ OSl LRule 68 h' res_ (s) o_) := by
 refine zS (n := 8) Tryz.func76 X X X<|have st0:=t_s0 hs;have s_f_b:=s_f.le;W.sr<|zcz X X<|Y<|zj<|W.sr<|zaa (v := s_v) X X ?_
 obtain ⟨nb1, hn2, hn2_r⟩ := Sl.nilb (P := Tryz.prog) s_f
 refine zq X X (hn2_r zaX X X)<|Y ?_
 refine zad rfl (fun c3 => ?_) (fun c3 => ?_)
 ·
  refine W.sr<|zcz X X<|Y<|zB<|zd<|zc Tryz.results76 ?_
  have st4 := st0.snoc
  have f5 := OSl.nil LRule 68 h
  refine ⟨h, _, _, rfl, Le.refl _, st4, OSl.to f5 ?_⟩
  simp_all
 refine zC<|O<|W.sr<|zen (L := LRule) st0 X ⟨_, zcr⟩ zaX<|fun v6 o7 w8 f9 st10=>zaa (v := s_v) X X ?_
 refine zaR (k := 0) (nb := 40) st10 f9 rfl s_f rfl rfl rfl zaX Tryz.info68 rfl rfl rfl (by decide) rfl t_om t_om ?_
 intro v11 o12 w13 _ e14 f15 st16
 subst e14
 refine zaj (v := v11) X X<|Y<|zB<|zc Tryz.results76 ?_
 refine ⟨h, _, _, rfl, Le.refl _, st16, OSl.to f15 ?_⟩
 simp
end Go.Pk

namespace Go.Pk
open Go Go.RowKit Go.Proofs
theorem c_stem_opened_1 {h : Heap} {w : World} (hs : Sub h w) {a : Decision} (a_l2 : 0 ≤ a.kind ∧ a.kind ≤ 255) (a_l3 : a.form.length ≤ 281474976710656) (a_l7 : a.to.stem.length ≤ 281474976710656) (a_l8 : 0 ≤ a.to.mark ∧ a.to.mark ≤ 255) {b : Decision} (b_l2 : 0 ≤ b.kind ∧ b.kind ≤ 255) (b_l3 : b.form.length ≤ 281474976710656) (b_l7 : b.to.stem.length ≤ 281474976710656) (b_l8 : 0 ≤ b.to.mark ∧ b.to.mark ≤ 255) (ha : 1 ≤ a.number ∧ a.number ≤ 999) (hb : 1 ≤ b.number ∧ b.number ≤ 999) : Calls Tryz.prog 206 #[.agg #[.int .i64 a.number, .int .u8 a.kind, strV a.form, .int .i64 a.at_.chapter, .int .i64 a.at_.line, .int .i64 a.at_.word, strV a.to.stem, .int .u8 a.to.mark, .int .i64 a.of_], .agg #[.int .i64 b.number, .int .u8 b.kind, strV b.form, .int .i64 b.at_.chapter, .int .i64 b.at_.line, .int .i64 b.at_.word, strV b.to.stem, .int .u8 b.to.mark, .int .i64 b.of_]] w (Rets h w (fun _ _ res_ => res_ = .int .i64 (b.number - a.number))) := by
 refine zS (n := 10) Tryz.func206 X X X<|have st0:=t_s0 hs;W.sr<|zG st0 (cs := [.int .i64 (a.number), .int .u8 (a.kind), strV (a.form), .int .i64 (a.at_.chapter), .int .i64 (a.at_.line), .int .i64 (a.at_.word), strV (a.to.stem), .int .u8 (a.to.mark), .int .i64 (a.of_)]) X X X<|fun b1 w2 h3 le4 hc5 st6=>zG st6 (cs := [.int .i64 (b.number), .int .u8 (b.kind), strV (b.form), .int .i64 (b.at_.chapter), .int .i64 (b.at_.line), .int .i64 (b.at_.word), strV (b.to.stem), .int .u8 (b.to.mark), .int .i64 (b.of_)]) X X X<|fun b7 w8 h9 le10 hc11 st12=>zz X X<|Y<|W.sr<|U X zi X zr X X<|E (j := 0) st12.sub hc11 X X X zN X<|U X zi X zr X X<|E (j := 0) st12.sub (hc5.up le10) X X X zN X<|zfu X X t_om X<|zz X X<|Y<|zB<|zc Tryz.results206 ?_
 refine ⟨h9, _, rfl, st12.done, ?_⟩
 refine zar ?_
 rfl
theorem c_stem_opened {h : Heap} {w : World} (hs : Sub h w) {t : Text} {t_v0 : Value} (t_f0 : Sl LChapter h t_v0 t.chapters) {x : Lexicon} {x_v0 : Value} (x_f0 : Sl LRule h x_v0 x.rules) {x_v1 : Value} (x_f1 : Sl LDecision h x_v1 x.decisions) (hx : OkD x) (hl : x.decisions.length ≤ 25) : Calls Tryz.prog 160 #[.agg #[t_v0], .agg #[x_v0, x_v1]] w (Rets h w (fun h' _ res_ => ∃ u0, res_ = u0 ∧ Box LOffice h' true (Office.mk x t (zeY x)) u0)) := by
 refine zS (n := 67) Tryz.func160 X X X<|have st0:=t_s0 hs;have t_f0_b:=t_f0.le;have x_f0_b:=x_f0.le;have x_f1_b:=x_f1.le;W.sr<|zG st0 (cs := [t_v0]) X X X<|fun b1 w2 h3 le4 hc5 st6=>zG st6 (cs := [x_v0, x_v1]) X X X<|fun b7 w8 h9 le10 hc11 st12=>zaj X X<|Y<|W.sr<|zy st12.sub hc11 X zaK zR X X<|zy st12.sub (hc5.up le10) X zaO zac X X<|zgq (κ := Int) (υ := Decision) (ek := (fun n : Int => .int .i64 n)) (eu := (fun x : Decision => .agg [.int .i64 x.number, .int .u8 x.kind, strV x.form, .int .i64 x.at_.chapter, .int .i64 x.at_.line, .int .i64 x.at_.word, strV x.to.stem, .int .u8 x.to.mark, .int .i64 x.of_].toArray)) st12 X<|fun v13 o14 w15 f16 st17=> ?_
 obtain ⟨mb18, rfl⟩ := f16.form
 have nd19 : (([] : List (Int × Decision)).map (·.1)).Nodup := by simp
 refine zq rfl rfl (zbW (cs := [x_v0, x_v1, t_v0, (.map (some mb18))]) (by obtain ⟨_, _, rfl⟩ := Sl.form x_f0; obtain ⟨_, _, rfl⟩ := Sl.form x_f1; obtain ⟨_, _, rfl⟩ := Sl.form t_f0; kernel_rfl)) ?_
 refine zG st17 (cs := [x_v0, x_v1, t_v0, (.map (some mb18))]) X X X<|fun b20 w21 h22 le23 hc24 st25=>v_asP X X<|Y<|W.sr<|U X zQ X zaS X X<|E (j := 1) st25.sub (hc11.up le23) X X X zbr X ?_
 have l26 := (le4.trans le10).trans le23
 refine zaT rfl rfl (zbc rfl Tryz.call77 rfl) ((zcB st25.sub (x_f1.up l26) (by omega)).mono ?_)
 rintro _ w28 ⟨h29, v27, o32, rfl, le30, s34, f33⟩
 refine ⟨_, rfl, ?_⟩
 have st31 := st25.call s34
 refine zaj (v := v27) X X<|Y<|W.sr<|zaa (v := v27) X X ?_
 have con := sortFunc (L := LDecision) (T := 74) Tryz.sort_api_Decision zaI zK (by decide) (fun x : Decision => [.int .i64 x.number, .int .u8 x.kind, strV x.form, .int .i64 x.at_.chapter, .int .i64 x.at_.line, .int .i64 x.at_.word, strV x.to.stem, .int .u8 x.to.mark, .int .i64 x.of_]) (by rintro _ _ _ ⟨rfl, _⟩; rfl) (fun a b : Decision => b.number - a.number) (swo_desc _) (g := 206) (caps := []) (i := 1) st31 f33 rfl (by omega) Tryz.call206 ?_
 rotate_left
 ·intro a_ ha_ b_ hb_ w_ hs_
  obtain ⟨_, rfl, p0, p1, p2, p3⟩ := OSl.memR f33 ha_
  obtain ⟨_, rfl, q0, q1, q2, q3⟩ := OSl.memR f33 hb_
  simp only [big] at *
  exact c_stem_opened_1 hs_ (a := a_) p0 p1 p2 p3 (b := b_) q0 q1 q2 q3 (by have q := (hx.2 a_ ha_); omega) (by have q := (hx.2 b_ hb_); omega)
 refine zaT rfl rfl (zbc rfl Tryz.call111 rfl) (con.mono ?_)
 rintro _ w35 ⟨rfl, ys36, o37, _, e38, hp39, hw40, f41, st42⟩
 subst e38
 refine ⟨_, rfl, ?_⟩
 clear con
 have hdl : (zdd x).length = x.decisions.length := (zdD x).length_eq
 have f43 := OSl.to f41 (show ys36 = (zdd x) from downD_eq hp39 hw40 hx.1)
 obtain ⟨h44, le45, f46, st47⟩ := OSl.freeze (k := 1) st42 f43 rfl t_om
 refine Y<|zj<|W.sr<|zaa (v := v27) X X<|zaJ f46 X zU X<|zk X X<|Y<|zF ?_
 refine zat ([8] ++ t_rg 25 12) (G := Nat × List (Nat × Obj) × Heap) (fun ⟨k, o_15, h48⟩ => [(25, .int .i64 (k : Int))]) (fun ⟨k, o_15, h48⟩ w' => Le h44 h48 ∧ St h w h48 w' [o_15, []] ∧ (OM (fun n : Int => .int .i64 n) (fun x : Decision => .agg [.int .i64 x.number, .int .u8 x.kind, strV x.form, .int .i64 x.at_.chapter, .int .i64 x.at_.line, .int .i64 x.at_.word, strV x.to.stem, .int .u8 x.to.mark, .int .i64 x.of_].toArray) (((zdd x).take k).map zfw) o_15 (.map (some mb18))) ∧ (((((zdd x).take k).map zfw).map (·.1)).Nodup) ∧ (k ≤ (zdd x).length)) (fun ⟨k, o_15, h48⟩ => (zdd x).length - k) ⟨0, o14, h44⟩ ⟨rfl, trivial⟩ ⟨Le.refl _, st47, (by have q := f16; simpa using q), (by have q := nd19; simp), zaM⟩ ?_
 rintro ⟨k, o_15, h48⟩ _ w51 ⟨le49, st50, hM_15, hN_15, hk⟩
 refine W.sr<|zaV X X X<|Y<|zj ?_
 refine zH rfl (fun c52 => ?_) (fun c52 => ?_)
 ·
  refine zC<|O<|zj<|zF<|W.sr ?_
  obtain ⟨d, hd⟩ : ∃ y_, ((zdd x))[k]? = some y_ := t_ge (by omega)
  obtain ⟨b53, o54, _, he56, hc55, hr_d⟩ := Sl.elem (f46.up le49) hd
  obtain ⟨rfl, lu57, ls58, ls59, lu60⟩ := hr_d
  simp only [big] at ls58
  simp only [big] at ls59
  refine zV he56 X X (hk := X) (hu := zU) (hz := zK) X<|zy st50.sub hc55 X zaI zK X X<|zae st50 zbD X X<|fun b61 w62 st63=>zM st63 (k := 2) X X X (za X (za X (za X (za X (za X (za X (za X (za X (za X zap))))))))) zK X X X<|fun w64 st65=> ?_
  obtain ⟨h66, le67, hb68, st70⟩ := st65.freeze (k := 2) rfl
  have hc69 := Cells.of hb68
  refine Y<|have l71:=((le30.trans le45).trans le49).trans le67;zbh (er := ([], [], [], [], 0)) (dsts := [29, 30, 31, 32, 33, 34, 35]) st70 Tryz.mixed<|zf 0 [] X t_kr t_kr X X (fun hD wD τD hL hS hO  => (r_mvP X))<|zf 1 [0] X t_kr t_kr X X (fun hD wD τD hL hS hO _ _ => (zdv X))<|zf 2 [0] X t_kr t_kr X X (fun hD wD τD hL hS hO _ _ => (zL X zdE X Tryz.sizeOf233 X))<|zf 3 [0] X t_kr t_kr X X (fun hD wD τD hL hS hO _ _ => (ze (j := 3) (hL.sub hS) (hc24.up l71) X X X Tryz.isAgg233))<|zf 4 [] X t_kr t_kr X X (fun hD wD τD hL hS hO  => (zL X zi X zr X))<|zf 5 [0] X t_kr t_kr X X (fun hD wD τD hL hS hO _ _ => (ze (j := 0) (hL.sub hS) hc69 X X X zN))<|zf 6 [] X t_kr t_kr X X (fun hD wD τD hL hS hO  => (zZ (hL.sub hS) hc69 X zaI zK X))<|zbx<|zbN X X X X X X ⟨t_kr, X, t_kr, X, t_kr, X, X, t_kr, (zbe X zcl)⟩<|fun hE73 w74 _ le75 st76 _ _ _ _ _ _ _ _ _ _ _ _ _ _=>zey (i := 0) st76 hM_15 X hN_15 (ziC zcE) Tryz.underlying233 X (k := (d.number)) X (u := d) X<|fun o77 w78 _ e79 f80 nd81 st82=> ?_
  subst e79
  refine zt ⟨undef, rfl, _, _, Le.refl _, st82, ?_⟩
  intro hE83 w84 _ le85 st86 _ _ _ _ _ _ _ _ _ _ _ _ _ _
  refine AllDeps.fin X<|zP<|O<|zo<|zaP X X t_om X<|zk X X<|Y ?_
  have l88 := ((le49.trans le67).trans le75).trans le85
  refine ⟨⟨k + 1, o77, hE83⟩, ⟨rfl, trivial⟩, ?_, ⟨l88, st86.take 2, ?_, ?_, ?_⟩, ?_⟩
  ·exact zav
  ·have q := f80
   rw [map_fill (zhT hx.1) hd] at q; exact q
  ·have q := nd81
   rw [map_fill (zhT hx.1) hd] at q; exact q
  ·first | omega | (simp; omega)
  show (zdd x).length - ((k + 1)) < (zdd x).length - k
  omega
 refine zaC<|zh<|zh<|zah<|O<|zj<|W.sr<|zaa (v := v27) X X<|zaJ (f46.up le49) X zU X<|zk X X<|Y<|zF ?_
 refine zat ([10, 11, 12] ++ t_rg 39 27) (G := Nat × List (Nat × Obj) × Heap) (fun ⟨k, o_15, h89⟩ => [(39, .int .i64 (k : Int))]) (fun ⟨k, o_15, h89⟩ w' => Le h48 h89 ∧ St h w h89 w' [o_15, []] ∧ (OM (fun n : Int => .int .i64 n) (fun x : Decision => .agg [.int .i64 x.number, .int .u8 x.kind, strV x.form, .int .i64 x.at_.chapter, .int .i64 x.at_.line, .int .i64 x.at_.word, strV x.to.stem, .int .u8 x.to.mark, .int .i64 x.of_].toArray) (((zdd x).filter (zfV x k)).map zfw) o_15 (.map (some mb18))) ∧ (((((zdd x).filter (zfV x k)).map zfw).map (·.1)).Nodup) ∧ (k ≤ (zdd x).length)) (fun ⟨k, o_15, h89⟩ => (zdd x).length - k) ⟨0, o_15, h48⟩ ⟨rfl, trivial⟩ ⟨Le.refl _, st50, (by have q := hM_15; rw [leftK_zero]; rw [List.take_of_length_le (by omega)] at q; exact q), (by have q := hN_15; rw [leftK_zero]; rw [List.take_of_length_le (by omega)] at q; exact q), zaM⟩ ?_
 rintro ⟨k, o_15, h89⟩ _ w92 ⟨le90, st91, hM_15, hN_15, hk⟩
 refine W.sr<|zaV X X X<|Y<|zj ?_
 refine zH rfl (fun c93 => ?_) (fun c93 => ?_)
 ·
  refine zC<|O<|zj<|zF<|W.sr ?_
  obtain ⟨d, hd⟩ : ∃ y_, ((zdd x))[k]? = some y_ := t_ge (by omega)
  obtain ⟨b94, o95, _, he97, hc96, hr_d⟩ := Sl.elem (f46.up (le49.trans le90)) hd
  obtain ⟨rfl, lu98, ls99, ls100, lu101⟩ := hr_d
  simp only [big] at ls99
  simp only [big] at ls100
  refine zV he97 X X (hk := X) (hu := zU) (hz := zK) X<|zy st91.sub hc96 X zaI zK X X<|zae st91 zbD X X<|fun b102 w103 st104=>zM st104 (k := 2) X X X (za X (za X (za X (za X (za X (za X (za X (za X (za X zap))))))))) zK X X X<|fun w105 st106=> ?_
  obtain ⟨h107, le108, hb109, st111⟩ := st106.freeze (k := 2) rfl
  have hc110 := Cells.of hb109
  refine Y<|zj<|have l112:=(((le30.trans le45).trans le49).trans le90).trans le108;zbh (er := ([6], [], [], [], 0)) (dsts := [44, 45, 46, 47, 48, 49, 50, 43, 51, 52, 11, 12]) st111 Tryz.mixed<|zf 0 [] X t_kr t_kr X X (fun hD wD τD hL hS hO  => (r_mvP X))<|zf 1 [0] X t_kr t_kr X X (fun hD wD τD hL hS hO _ _ => (zdv X))<|zf 2 [0] X t_kr t_kr X X (fun hD wD τD hL hS hO _ _ => (zL X zdE X Tryz.sizeOf233 X))<|zf 3 [0] X t_kr t_kr X X (fun hD wD τD hL hS hO _ _ => (ze (j := 3) (hL.sub hS) (hc24.up l112) X X X Tryz.isAgg233))<|zf 4 [] X t_kr t_kr X X (fun hD wD τD hL hS hO  => (zL X zi X zr X))<|zf 5 [0] X t_kr t_kr X X (fun hD wD τD hL hS hO _ _ => (ze (j := 0) (hL.sub hS) hc110 X X X zN))<|zf 6 [2, 0] X t_kr t_kr X X (fun hD wD τD hL hS hO _ _ _ _ => (r_look_ok (k := (d.number)) (zu := zbf) (ziC zcE) Tryz.underlying233 hM_15 ((hO X).ent (k := 0) X) zbD X X X))<|zf 7 [0] X t_kr t_kr X X (fun hD wD τD hL hS hO _ _ => (r_mvT X))<|zf 8 [0] X t_kr t_kr X X (fun hD wD τD hL hS hO _ _ => (zfR (v := (.agg (List.toArray _))) X X))<|zf 9 [1] X t_kr t_kr X X (fun hD wD τD hL hS hO _ _ => (zfR (v := (.bool _)) X X))<|zhL zbD X<|zbx<|zf 12 [11, 10, 9, 8, 7, 6, 5, 4, 3, 2, 1, 0] X t_kr t_kr X X (fun hD wD τD hL hS hO _ _ _ _ _ _ _ _ _ _ _ _ _ _ _ _ _ _ _ _ => (r_asB X))<|zbN X X X X X X ⟨t_kr, X, t_kr, X, t_kr, X, X, t_kr, (zbe X zcl)⟩<|fun b113=>fun hE115 w116 _ le117 st118 _ _ _ _ _ _ _ _ _ _ _ _ _ _ _ _ _ _=>zM st118 (k := 3) X X X (za X (za X (za X (za X (za X (za X (za X (za X (za X zap))))))))) zK X X X<|fun w119 st120=> ?_
  obtain ⟨h121, le122, hb123, st125⟩ := st120.freeze (k := 3) rfl
  have hc124 := Cells.of hb123
  refine zt ⟨undef, rfl, _, _, le122, st125, ?_⟩
  intro hE126 w127 _ le128 st129 _ _ _ _ _ _ _ _ _ _ _ _ _ _ _ _ _ _ _ _ _ _
  refine AllDeps.fin X<|O<|W.sr<|zai X X<|zai X X ?_
  refine zaY (d := 54) rfl (fun g131 => ?_) (fun g131 => ?_)
  ·
   refine M X X X<|U X zi X zbn X X<|M X X X<|E (j := 1) st129.sub (hc110.up ((le117.trans le122).trans le128)) X X X zbG X<|M X X X<|zee X X X<|zaf (v := (.bool _)) X X X<|Y ?_
   refine zH rfl (fun c132 => ?_) (fun c132 => ?_)
   ·
    have l133 := ((l112.trans le117).trans le122).trans le128
    refine zbh (er := ([], [], [], [], 0)) (dsts := [59, 60, 61, 62, 63, 64]) st129 Tryz.mixed<|zf 0 [] X t_kr t_kr X X (fun hD wD τD hL hS hO  => (r_mvP X))<|zf 1 [0] X t_kr t_kr X X (fun hD wD τD hL hS hO _ _ => (zdv X))<|zf 2 [0] X t_kr t_kr X X (fun hD wD τD hL hS hO _ _ => (zL X zdE X Tryz.sizeOf233 X))<|zf 3 [0] X t_kr t_kr X X (fun hD wD τD hL hS hO _ _ => (ze (j := 3) (hL.sub hS) (hc24.up l133) X X X Tryz.isAgg233))<|zf 4 [] X t_kr t_kr X X (fun hD wD τD hL hS hO  => (zL X zi X zr X))<|zf 5 [0] X t_kr t_kr X X (fun hD wD τD hL hS hO _ _ => (ze (j := 8) (hL.sub hS) (hc110.up ((le117.trans le122).trans le128)) X X X zN))<|zbx<|zbN X X X X X X ⟨t_kr, X, t_kr, X, t_kr, X, X, t_kr, (zbe X zcl)⟩<|fun hE135 w136 _ le137 st138 _ _ _ _=>OpsL.mapDelete (i := 0) st138 hM_15 X hN_15 (ziC zcE) Tryz.underlying233 X (k := (d.of_)) X<|fun o139 w140 _ e141 f142 nd143 st144=> ?_
    subst e141
    refine zt ⟨undef, rfl, _, _, Le.refl _, st144, ?_⟩
    intro hE145 w146 _ le147 st148 _ _ _ _ _ _ _ _ _ _ _ _
    refine AllDeps.fin X<|zP<|O<|zo<|zaP X X t_om X<|zk X X<|Y ?_
    have l150 := (((((le90.trans le108).trans le117).trans le122).trans le128).trans le137).trans le147
    refine ⟨⟨k + 1, o139, hE145⟩, ⟨rfl, trivial⟩, ?_, ⟨l150, st148.take 2, ?_, ?_, ?_⟩, ?_⟩
    ·exact zav
    ·have q := f142
     rw [map_void hd ⟨c132, (look_left hx hd).symm.trans g131⟩] at q; exact q
    ·have q := nd143
     rw [map_void hd ⟨c132, (look_left hx hd).symm.trans g131⟩] at q; exact q
    ·first | omega | (simp; omega)
    show (zdd x).length - ((k + 1)) < (zdd x).length - k
    omega
   refine zC<|zP<|O<|zo<|zaP X X t_om X<|zk X X<|Y ?_
   have l151 := (((le90.trans le108).trans le117).trans le122).trans le128
   refine ⟨⟨k + 1, o_15, hE126⟩, ⟨rfl, trivial⟩, ?_, ⟨l151, st129.take 2, ?_, ?_, ?_⟩, ?_⟩
   ·exact zav
   ·have q := hM_15
    rw [map_stay hd (by rintro ⟨e1, _⟩; exact c132 e1)] at q; exact q
   ·have q := hN_15
    rw [map_stay hd (by rintro ⟨e1, _⟩; exact c132 e1)] at q; exact q
   ·first | omega | (simp; omega)
   show (zdd x).length - ((k + 1)) < (zdd x).length - k
   omega
  refine Z X X X X X<|Z X X X X X<|Z X X X X X<|zX (v := (.bool _)) X X X<|Y ?_
  refine zad rfl (fun c152 => ?_) (fun c152 => ?_)
  ·
   cases c152
  refine zC<|zP<|O<|zo<|zaP X X t_om X<|zk X X<|Y ?_
  have l153 := (((le90.trans le108).trans le117).trans le122).trans le128
  refine ⟨⟨k + 1, o_15, hE126⟩, ⟨rfl, trivial⟩, ?_, ⟨l153, st129.take 2, ?_, ?_, ?_⟩, ?_⟩
  ·exact zav
  ·have q := hM_15
   rw [map_stay hd (by rintro ⟨_, e1⟩; rw [← look_left hx hd] at e1; rw [e1] at g131; cases g131)] at q; exact q
  ·have q := hN_15
   rw [map_stay hd (by rintro ⟨_, e1⟩; rw [← look_left hx hd] at e1; rw [e1] at g131; cases g131)] at q; exact q
  ·first | omega | (simp; omega)
  show (zdd x).length - ((k + 1)) < (zdd x).length - k
  omega
 refine zaC<|zh<|zh<|zah<|O<|W.sr<|v_mvP X X<|v_asP X X<|Y<|zB<|zc Tryz.results160 ?_
 obtain ⟨h154, le155, f156, st157⟩ := OM.freeze (k := 0) st91 hM_15 rfl
 have f156_r := f156.to (show _ = (zeY x) by rw [← leftK_end hx]; first | rfl | (congr 3; omega))
 have f156_l : FML (fun n : Int => .int .i64 n) (fun x : Decision => [.int .i64 x.number, .int .u8 x.kind, strV x.form, .int .i64 x.at_.chapter, .int .i64 x.at_.line, .int .i64 x.at_.word, strV x.to.stem, .int .u8 x.to.mark, .int .i64 x.of_]) LDecision h154 (zeY x) (.map (some mb18)) := ⟨f156_r, by intro p hp_; have q := (zht hp_).1; obtain ⟨vs_, r_⟩ := x_f1.memR q; obtain ⟨rfl, q1⟩ := r_; exact ⟨rfl, q1⟩⟩
 refine ⟨h154, _, rfl, st157.done, ?_⟩
 refine ⟨_, rfl, Box.some ?_ (hc24.up ((((le30.trans le45).trans le49).trans le90).trans le155)) ⟨_, _, _, _, rfl, (x_f0.up (((((l26.trans le30).trans le45).trans le49).trans le90).trans le155)), (x_f1.up (((((l26.trans le30).trans le45).trans le49).trans le90).trans le155)), (t_f0.up (((((l26.trans le30).trans le45).trans le49).trans le90).trans le155)), f156_l⟩⟩
 rfl
end Go.Pk

namespace Go.Pk
open Go Go.RowKit Go.Proofs
theorem c_stem_open {h : Heap} {w : World} (hs : Sub h w) {t : Text} {t_v0 : Value} (t_f0 : Sl LChapter h t_v0 t.chapters) {x : Lexicon} {x_v0 : Value} (x_f0 : Sl LRule h x_v0 x.rules) {x_v1 : Value} (x_f1 : Sl LDecision h x_v1 x.decisions) (K1 : Cells h 1 0 Tryz.glob1) : Calls Tryz.prog 117 #[.agg #[t_v0], .agg #[x_v0, x_v1]] w (Rets h w (fun h' _ res_ => ∃ u0, res_ = .tuple #[u0, .int .i64 (zaQ t x)] ∧ Box LOffice h' (decide (zaQ t x = 0)) (Office.mk x t (zeY x)) u0)) := by
 refine zS (n := 16) Tryz.func117 X X X<|have st0:=t_s0 hs;have t_f0_b:=t_f0.le;have x_f0_b:=x_f0.le;have x_f1_b:=x_f1.le;W.sr<|zG st0 (cs := [t_v0]) X X X<|fun b1 w2 h3 le4 hc5 st6=>zG st6 (cs := [x_v0, x_v1]) X X X<|fun b7 w8 h9 le10 hc11 st12=>zaj X X<|zz X X<|Y<|zj<|W.sr<|zy st12.sub (hc5.up le10) X zaO zac X X<|zy st12.sub hc11 X zaK zR X X<|have l13:=le4.trans le10;zn st12 X X X Tryz.call96 X (zhh st12.sub (t := t) (t_f0.up l13) (x := x) (x_f0.up l13) (x_f1.up l13) (K1.up l13))<|fun r14 w15 h16 le17 st18 q19=> ?_
 obtain rfl := q19
 refine zz X X<|Y<|W.sr<|zk X X<|zcF X X X<|Y ?_
 refine zH rfl (fun c20 => ?_) (fun c20 => ?_)
 ·
  refine W.sr<|zk X X<|zaj X X<|zz X X<|Y<|zB<|zd<|zbs Tryz.results117 ?_
  refine ⟨h16, _, rfl, st18.done, ?_⟩
  refine ⟨_, tup2 rfl (zar ?_), Box.nil ?_⟩
  ·rfl
  simpa using c20
 refine zC<|O<|W.sr<|zy st18.sub (hc5.up (le10.trans le17)) X zaO zac X X<|zy st18.sub (hc11.up le17) X zaK zR X X ?_
 have l21 := l13.trans le17
 refine zn st18 rfl rfl rfl Tryz.call160 rfl (c_stem_opened st18.sub (t := t) (t_f0.up l21) (x := x) (x_f0.up l21) (x_f1.up l21) (by exact zgF (by simpa using c20)) (by have q := zeF (show zaQ t x = 0 by simpa using c20); omega)) ?_
 intro r22 w23 h24 le25 st26 q27
 obtain ⟨v28, rfl, f29⟩ := q27
 obtain ⟨b30, vs31, rfl, hc32, hr33⟩ := f29
 obtain ⟨v34, v36, v38, v40, rfl, f35, f37, f39, lm41⟩ := hr33
 have f35_b := f35.le
 have f37_b := f37.le
 have f39_b := f39.le
 refine v_asP X X<|zz X X<|Y<|zB<|zbs Tryz.results117 ?_
 refine ⟨h24, _, rfl, st26.done, ?_⟩
 refine ⟨_, tup2 rfl (zar ?_), Box.some ?_ hc32 ⟨_, _, _, _, rfl, f35, f37, f39, lm41⟩⟩
 ·exact (by simpa using c20 : zaQ t x = 0).symm
 simpa using c20
end Go.Pk

namespace Go.Pk
open Go Go.RowKit Go.Proofs
theorem zgl {h : Heap} {w : World} (hs : Sub h w) (s : Str) (s_le : s.length ≤ 281474976710656) (p : Str) (p_le : p.length ≤ 281474976710656) : Calls Tryz.prog 242 #[strV s, strV p] w (Rets h w (fun _ _ res_ => res_ = .bool (zgi s p))) := by
 refine zS (n := 21) Tryz.func242 X X X<|have st0:=t_s0 hs;W.sr<|zJ X X<|Y<|W.sr<|zbX X X<|zco X zaz X<|zbX X X<|zco X zaz X<|zie X X X<|zai X X ?_
 refine zaB (d := 10) rfl (fun g1 => ?_) (fun g1 => ?_)
 ·
  refine M X X X<|zbX X X<|M X X X<|zbX X X<|M X X X<|zco X zaz X<|M X X X<|zbX X X<|M X X X<|zco X zaz X<|M X X X<|zfu X X t_om X<|M X X X ?_
  refine zq rfl rfl (r_slice_from rfl rfl (hk := (show _ = ((s.length - p.length : Nat) : Int) by omega)) (hle := by omega) (hu := zaz)) ?_
  refine M X X X<|zbX X X<|M X X X<|zhq X X X<|zaf (v := (.bool _)) X X X<|zJ X X<|Y<|zB<|zc Tryz.results242 ?_
  refine ⟨h, _, rfl, st0.done, ?_⟩
  refine zw ?_
  simp_all [zgi]
 refine Z X X X X X<|Z X X X X X<|Z X X X X X<|Z X X X X X<|Z X X X X X<|Z X X X X X<|Z X X X X X<|Z X X X X X<|Z X X X X X<|zX (v := (.bool _)) X X X<|zJ X X<|Y<|zB<|zc Tryz.results242 ?_
 refine ⟨h, _, rfl, st0.done, ?_⟩
 refine zw ?_
 (simp_all [zgi]; omega)
theorem zgm {h : Heap} {w : World} (hs : Sub h w) (s : Str) (s_le : s.length ≤ 281474976710656) (p : Str) (p_le : p.length ≤ 281474976710656) : Calls Tryz.prog 241 #[strV s, strV p] w (Rets h w (fun _ _ res_ => res_ = .tuple #[strV ((if zgi s p then s.take (s.length - p.length) else s)), .bool (zgi s p)])) := by
 refine zS (n := 18) Tryz.func241 X X X<|have st0:=t_s0 hs;W.sr<|zdR X X<|zJ X X<|Y<|zj<|W.sr<|zbX X X<|zbX X X<|zn st0 X X X Tryz.call242 X (zgl st0.sub _ zba _ zba)<|fun r1 w2 h3 le4 st5 q6=> ?_
 obtain rfl := q6
 refine zbQ X X<|Y ?_
 refine zad rfl (fun c7 => ?_) (fun c7 => ?_)
 ·
  refine W.sr<|zbX X X<|zdR X X<|zJ X X<|Y<|zB<|zd<|zbs Tryz.results241 ?_
  refine ⟨h3, _, rfl, st5.done, ?_⟩
  refine tup2 (zgB ?_) (zw ?_)
  all_goals simp_all
 refine zC<|O<|zj ?_
 have hsl : p.length ≤ s.length := by
  have q := c7
  simp [zgi] at q
  exact q.1
 refine zo<|zbX X X<|zbX X X<|zco X zaz X<|zbX X X<|zco X zaz X<|zfu X X t_om X ?_
 refine zq rfl rfl (r_slice_to rfl rfl (hk := (show _ = ((s.length - p.length : Nat) : Int) by omega)) (hle := by omega) (hu := zaz)) ?_
 refine zdR X X<|zJ X X<|Y<|zB<|zbs Tryz.results241 ?_
 refine ⟨h3, _, rfl, st5.done, ?_⟩
 refine tup2 (zgB ?_) (zw ?_)
 all_goals simp_all
theorem c_strings_CutSuffix {h : Heap} {w : World} (hs : Sub h w) (s : Str) (s_le : s.length ≤ 281474976710656) (p : Str) (p_le : p.length ≤ 281474976710656) : Calls Tryz.prog 238 #[strV s, strV p] w (Rets h w (fun _ _ res_ => res_ = .tuple #[strV ((if zgi s p then s.take (s.length - p.length) else s)), .bool (zgi s p)])) := by
 refine zS (n := 11) Tryz.func238 X X X<|have st0:=t_s0 hs;W.sr<|zdR X X<|zJ X X<|Y<|W.sr<|zbX X X<|zbX X X<|zn st0 X X X Tryz.call241 X (zgm st0.sub _ zba _ zba)<|fun r1 w2 h3 le4 st5 q6=> ?_
 obtain rfl := q6
 refine zak (v := (strV _)) X X X<|zak (v := (.bool _)) X X X<|zdR X X<|zJ X X<|Y<|zB<|zbs Tryz.results238 ?_
 refine ⟨h3, _, rfl, st5.done, ?_⟩
 refine tup2 (zgB ?_) (zw ?_)
 all_goals rfl
theorem zgv {h0 h : Heap} {w0 w : World} {rest : Own} {left_b : Nat} {left : Int} {word_b : Nat} {word : Str} (word_le : word.length ≤ 281474976710656) {o_b : Nat} {o : Office} {o_v0 : Value} (o_f0 : Sl LRule h o_v0 o.lex.rules) {o_v1 : Value} (o_f1 : Sl LDecision h o_v1 o.lex.decisions) {o_v2 : Value} (o_f2 : Sl LChapter h o_v2 o.text.chapters) {o_v3 : Value} (o_f3 : FML (fun n : Int => .int .i64 n) (fun x : Decision => [.int .i64 x.number, .int .u8 x.kind, strV x.form, .int .i64 x.at_.chapter, .int .i64 x.at_.line, .int .i64 x.at_.word, strV x.to.stem, .int .u8 x.to.mark, .int .i64 x.of_]) LDecision h o.stands o_v3) (o_c : Cells h o_b 0 [o_v0, o_v1, o_v2, o_v3]) {o_bb : Nat} (o_cc : Cells h o_bb 0 [.pointer (some ⟨o_b, 0, none⟩)]) (hl : 0 ≤ left ∧ left ≤ 4) (hw12 : word.length ≤ 12) (st0 : St h0 w0 h w ([(left_b, .cells (List.toArray [.int .i64 left]) 3)] :: [(word_b, .cells (List.toArray [strV word]) 9)] :: rest)) : Calls Tryz.prog 237 #[.pointer (some ⟨left_b, 0, none⟩), .pointer (some ⟨word_b, 0, none⟩), .pointer (some ⟨o_bb, 0, none⟩)] w (fun e_ w' => ∃ h' res_ left' word', e_ = .returned res_ ∧ Le h h' ∧ St h0 w0 h' w' ([(left_b, .cells (List.toArray [.int .i64 left']) 3)] :: [(word_b, .cells (List.toArray [strV word']) 9)] :: rest) ∧ left' = turnL left ∧ word' = zhP o.lex.rules left word ∧ (res_ = .tuple #[strV (zhP o.lex.rules left word), .bool (turnB o.lex.rules left word)])) := by
 refine zS (n := 56) Tryz.func237 X X X<|have o_f0_b:=o_f0.le;have o_f1_b:=o_f1.le;have o_f2_b:=o_f2.le;W.sr<|zdR X X<|zJ X X<|Y<|W.scope<|zj<|W.sr<|zcp (st0.get (k := 0) X) X X zN X<|zee X X X<|Y ?_
 refine zH rfl (fun c1 => ?_) (fun c1 => ?_)
 ·
  refine W.sr<|zcp (st0.get (k := 1) X) X X zaw X<|zdR X X<|zJ X X<|Y<|zB<|zd<|zez<|zbs Tryz.results237 ?_
  refine ⟨h, _, _, _, rfl, Le.refl _, st0, ?_, ?_, ?_⟩
  ·simp_all [turnL]
  ·simp_all [zhP]
  refine tup2 (zgB ?_) (zw ?_)
  ·simp_all [zhP]
  simp_all [turnB]
 refine zC<|O<|W.sr<|zcp (st0.get (k := 0) X) X X zN X<|zfu X X t_om X<|zbR st0 (k := 0) X X X X zr X X X<|fun w2 st3=>Y<|zj<|W.label<|O<|zj<|W.sr<|E (j := 0) st3.sub o_cc X X X Tryz.isAgg183 X<|zq X X (zdv X)<|U X zdE X zR X X<|U X zQ X zbP X X<|E (j := 0) st3.sub o_c X X X zcs X<|zaJ o_f0 X zaX X<|zk X X<|Y<|zF ?_
 refine zat ([3, 4, 6, 7, 8] ++ t_rg 20 35) (G := Nat × Heap) (fun ⟨i, h4⟩ => [(20, .int .i64 (i : Int))]) (fun ⟨i, h4⟩ w' => Le h h4 ∧ St h0 w0 h4 w' ([(left_b, .cells (List.toArray [.int .i64 (left - 1)]) 3)] :: [(word_b, .cells (List.toArray [strV word]) 9)] :: rest) ∧ (i ≤ o.lex.rules.length) ∧ ((o.lex.rules.take i).findSome? (made · word) = none)) (fun ⟨i, h4⟩ => o.lex.rules.length - i) ⟨0, h⟩ ⟨rfl, trivial⟩ ⟨Le.refl _, st3, zaM, zaM⟩ ?_
 rintro ⟨i, h4⟩ _ w7 ⟨le5, st6, hi, ht⟩
 refine W.sr<|zaV X X X<|Y<|zj ?_
 refine zH rfl (fun c8 => ?_) (fun c8 => ?_)
 ·
  refine zC<|O<|zj<|zF<|W.sr ?_
  obtain ⟨r, hr⟩ : ∃ y_, (o.lex.rules)[i]? = some y_ := t_ge (by omega)
  obtain ⟨b9, o10, _, he12, hc11, hr_r⟩ := Sl.elem (o_f0.up le5) hr
  obtain ⟨rfl, ls13, ls14⟩ := hr_r
  simp only [big] at ls13
  simp only [big] at ls14
  refine zV he12 X X (hk := X) (hu := zaX) (hz := zcr) X<|zy st6.sub hc11 X zgK zcr X X<|ziP st6 Tryz.zeroValue68 X X X (us := [strV (r.cut), strV (r.put), .int .i64 (r.least)]) (fun _ => X) (za X (za X (za X zap))) zcr X<|fun b15 w16 h17 le18 hc19 st20=>Y<|W.sr<|zcp (st20.get (k := 1) X) X X zaw X<|U X zbo X zW X X<|E (j := 0) st20.sub hc19 X X X zaw X<|zn st20 X X X Tryz.call238 X (c_strings_CutSuffix st20.sub _ zba _ zba)<|fun r21 w22 h23 le24 st25 q26=> ?_
  obtain rfl := q26
  have hrl : (if zgi (word) (r.cut) then (word).take ((word).length - (r.cut).length) else (word)).length ≤ word.length := by split <;> simp
  refine zdu X X<|zak (v := (strV _)) X X X<|zak (v := (.bool _)) X X X<|zdR X X<|zJ X X<|Y<|zj<|W.sr<|zai X X<|zbQ X X<|zai X X ?_
  refine zaY (d := 33) rfl (fun g27 => ?_) (fun g27 => ?_)
  ·
   refine Z X X X X X<|Z X X X X X<|Z X X X X X<|Z X X X X X<|Z X X X X X<|zaf (v := (.bool _)) X X X<|zai X X<|Z X X X X X<|Z X X X X X<|Z X X X X X<|Z X X X X X<|Z X X X X X<|Z X X X X X<|Z X X X X X<|zaf (v := (.bool _)) X X X<|Y ?_
   refine zad rfl (fun c28 => ?_) (fun c28 => ?_)
   ·
    refine zaC<|zh<|zah<|O<|zo<|zaP X X t_om X<|zk X X<|Y ?_
    have l29 := (le5.trans le18).trans le24
    refine ⟨⟨i + 1, h23⟩, ⟨rfl, trivial⟩, ?_, ⟨l29, st25, ?_, ?_⟩, ?_⟩
    ·exact zav
    ·first | omega | (simp; omega)
    ·exact turn_take ht hr (made_no (fun qh _ => by rw [qh] at g27; cases g27))
    show o.lex.rules.length - ((i + 1)) < o.lex.rules.length - i
    omega
   cases c28
  refine M X X X<|zbX X X<|M X X X<|zco X zaz X<|M X X X<|U X zbo X zr X X<|M X X X<|E (j := 2) st25.sub (hc19.up le24) X X X zN X<|M X X X<|zaV X X X<|zX (v := (.bool _)) X X X<|zai X X ?_
  refine zaB (d := 40) rfl (fun g30 => ?_) (fun g30 => ?_)
  ·
   refine Z X X X X X<|Z X X X X X<|Z X X X X X<|Z X X X X X<|Z X X X X X<|Z X X X X X<|Z X X X X X<|zaf (v := (.bool _)) X X X<|Y ?_
   refine zad rfl (fun c31 => ?_) (fun c31 => ?_)
   ·
    refine zaC<|zh<|zah<|O<|zo<|zaP X X t_om X<|zk X X<|Y ?_
    have l32 := (le5.trans le18).trans le24
    refine ⟨⟨i + 1, h23⟩, ⟨rfl, trivial⟩, ?_, ⟨l32, st25, ?_, ?_⟩, ?_⟩
    ·exact zav
    ·first | omega | (simp; omega)
    ·exact turn_take ht hr (made_no (fun qh q => by rw [if_pos qh] at g30; omega))
    show o.lex.rules.length - ((i + 1)) < o.lex.rules.length - i
    omega
   cases c31
  refine M X X X<|zbX X X<|M X X X<|zco X zaz X<|M X X X<|U X zbo X zW X X<|M X X X<|E (j := 1) st25.sub (hc19.up le24) X X X zaw X<|M X X X<|zco X zaz X<|M X X X<|zaP X X t_om X<|M X X X<|zdr X X X<|zX (v := (.bool _)) X X X<|Y ?_
  refine zH rfl (fun c33 => ?_) (fun c33 => ?_)
  ·
   refine zaC<|zh<|zah<|O<|zo<|zaP X X t_om X<|zk X X<|Y ?_
   have l34 := (le5.trans le18).trans le24
   refine ⟨⟨i + 1, h23⟩, ⟨rfl, trivial⟩, ?_, ⟨l34, st25, ?_, ?_⟩, ?_⟩
   ·exact zav
   ·first | omega | (simp; omega)
   ·exact turn_take ht hr (made_no (fun qh q => by rw [if_pos qh] at c33; omega))
   show o.lex.rules.length - ((i + 1)) < o.lex.rules.length - i
   omega
  refine zC<|O<|W.sr<|zbX X X<|U X zbo X zW X X<|E (j := 1) st25.sub (hc19.up le24) X X X zaw X<|zq X X (r_sadd X X t_om)<|zbR st25 (k := 1) X X X X zW X X X<|fun w35 st36=>Y<|W.sr<|zcp (st36.get (k := 1) X) X X zaw X<|zdR X X<|zJ X X<|Y<|zB<|zI<|zd<|zd<|zI<|zd<|zez<|zbs Tryz.results237 ?_
  have qh : zgi word r.cut = true := by simpa using g27
  have em := made_yes qh (by have q := g30; rw [if_pos qh] at q; omega) (by have q := c33; rw [if_pos qh] at q; omega)
  have es := stepOf_at ht hr em
  have hl0 : ¬ left = 0 := c1
  simp only [if_pos qh]
  refine ⟨h23, _, _, _, rfl, ((le5.trans le18).trans le24), st36, ?_, ?_, ?_⟩
  ·simp [turnL, hl0]
  ·simp [zhP, hl0, es, qh]
  refine tup2 (zgB ?_) (zw ?_)
  ·simp [zhP, hl0, es]
  simp [turnB, hl0, es]
 refine zaC<|zh<|zh<|zah<|O<|W.sr<|zcp (st6.get (k := 1) X) X X zaw X<|zdR X X<|zJ X X<|Y<|zB<|zez<|zbs Tryz.results237 ?_
 have es := stepOf_none ht (by omega)
 have hl0 : ¬ left = 0 := c1
 refine ⟨h4, _, _, _, rfl, le5, st6, ?_, ?_, ?_⟩
 ·simp [turnL, hl0]
 ·simp [zhP, hl0, es]
 refine tup2 (zgB ?_) (zw ?_)
 ·simp [zhP, hl0, es]
 simp [turnB, hl0, es]
end Go.Pk

namespace Go.Pk
open Go Go.RowKit Go.Proofs
theorem c_stem_office_turns {h : Heap} {w : World} (hs : Sub h w) {o_b : Nat} {o : Office} {o_v0 : Value} (o_f0 : Sl LRule h o_v0 o.lex.rules) {o_v1 : Value} (o_f1 : Sl LDecision h o_v1 o.lex.decisions) {o_v2 : Value} (o_f2 : Sl LChapter h o_v2 o.text.chapters) {o_v3 : Value} (o_f3 : FML (fun n : Int => .int .i64 n) (fun x : Decision => [.int .i64 x.number, .int .u8 x.kind, strV x.form, .int .i64 x.at_.chapter, .int .i64 x.at_.line, .int .i64 x.at_.word, strV x.to.stem, .int .u8 x.to.mark, .int .i64 x.of_]) LDecision h o.stands o_v3) (o_c : Cells h o_b 0 [o_v0, o_v1, o_v2, o_v3]) (word : Str) (word_le : word.length ≤ 281474976710656) : Calls Tryz.prog 228 #[.pointer (some ⟨o_b, 0, none⟩), strV word] w (fun e_ w' => ∃ h' bl bw bo, e_ = .returned (.func (.func 237) #[] #[.pointer (some ⟨bl, 0, none⟩), .pointer (some ⟨bw, 0, none⟩), .pointer (some ⟨bo, 0, none⟩)]) ∧ Le h h' ∧ St h w h' w' [[(bw, .cells [strV word].toArray 9)], [(bl, .cells [.int .i64 4].toArray 3)]] ∧ Cells h' bo 0 [.pointer (some ⟨o_b, 0, none⟩)]) := by
 refine zS (n := 7) Tryz.func228 X X X<|have st0:=t_s0 hs;have o_f0_b:=o_f0.le;have o_f1_b:=o_f1.le;have o_f2_b:=o_f2.le;W.sr<|zG st0 (cs := [.pointer (some ⟨o_b, 0, none⟩)]) X X X<|fun b1 w2 h3 le4 hc5 st6=>OpsL.boxO st6 (cs := [strV word]) X X X<|fun b7 w8 st9=>zaj X X<|Y<|W.sr<|zae st9 Tryz.zeroValue3 X X<|fun b10 w11 st12=>zbR st12 (k := 1) X X X X zr X X X<|fun w13 st14=>Y<|W.sr<|zdl X X X<|zq X X (r_asF X)<|Y<|zB<|zc Tryz.results228 ?_
 exact ⟨h3, _, _, _, rfl, le4, st14, hc5⟩
theorem c_stem_office_steps {h : Heap} {w : World} (hs : Sub h w) {o_b : Nat} {o : Office} {o_v0 : Value} (o_f0 : Sl LRule h o_v0 o.lex.rules) {o_v1 : Value} (o_f1 : Sl LDecision h o_v1 o.lex.decisions) {o_v2 : Value} (o_f2 : Sl LChapter h o_v2 o.text.chapters) {o_v3 : Value} (o_f3 : FML (fun n : Int => .int .i64 n) (fun x : Decision => [.int .i64 x.number, .int .u8 x.kind, strV x.form, .int .i64 x.at_.chapter, .int .i64 x.at_.line, .int .i64 x.at_.word, strV x.to.stem, .int .u8 x.to.mark, .int .i64 x.of_]) LDecision h o.stands o_v3) (o_c : Cells h o_b 0 [o_v0, o_v1, o_v2, o_v3]) (word : Str) (word_le : word.length ≤ 281474976710656) (hw : word.length ≤ 12) : Calls Tryz.prog 195 #[.pointer (some ⟨o_b, 0, none⟩), strV word] w (Rets h w (fun h' _ res_ => ∃ u0, res_ = u0 ∧ Sl LStr h' u0 (zcZ o.lex.rules 4 word))) := by
 refine zS (n := 30) Tryz.func195 X X X<|have st0:=t_s0 hs;have o_f0_b:=o_f0.le;have o_f1_b:=o_f1.le;have o_f2_b:=o_f2.le;W.sr<|zcz X X<|Y<|W.sr<|zbX X X<|OpsL.sliceO (L := LStr) (xs := [word]) (cs := [strV word]) st0 (Enc.cons (L := LStr) (vs := [strV word]) (x := word) (h := h) (⟨rfl, zba⟩) Enc.nil) X X X zA Tryz.info9 X X X X t_kr<|fun v1 o5 w2 f3 st4=>zaj (v := v1) X X<|Y<|W.sr<|v_mvP X X<|zbX X X ?_
 refine zaT rfl rfl (zbc rfl Tryz.call228 rfl) ((c_stem_office_turns st4.sub (o := o) o_f0 o_f1 o_f2 o_f3 o_c _ zba).mono ?_)
 rintro _ w6 ⟨h7, bl8, bw9, bo10, rfl, le11, s12, hc13⟩
 refine ⟨_, rfl, ?_⟩
 have st14 := st4.call s12
 refine zaj (v := (.func (.func 237) #[] #[.pointer (some ⟨bl8, 0, none⟩), .pointer (some ⟨bw9, 0, none⟩), .pointer (some ⟨bo10, 0, none⟩)])) X X<|Y<|zj<|W.sr<|zaa (v := (.func (.func 237) #[] #[.pointer (some ⟨bl8, 0, none⟩), .pointer (some ⟨bw9, 0, none⟩), .pointer (some ⟨bo10, 0, none⟩)])) X X ?_
 have con := zgv (left_b := bl8) (left := 4) (word_b := bw9) (word := word) (by omega) (o := o) (o_f0.up le11) (o_f1.up le11) (o_f2.up le11) (o_f3.up le11) (o_c.up le11) hc13 (by omega) (by exact hw) (st14.perm (List.reverse_perm _).symm)
 refine zaT rfl rfl (zcb (fs := []) (cs := [.pointer (some ⟨bl8, 0, none⟩), .pointer (some ⟨bw9, 0, none⟩), .pointer (some ⟨bo10, 0, none⟩)]) rfl rfl Tryz.call237 rfl) (con.mono ?_)
 rintro _ w15 ⟨h16, _, l17, w18, rfl, le19, s20, rfl, rfl, rfl⟩
 refine ⟨_, rfl, ?_⟩
 clear con
 have st21 := s20.perm (List.reverse_perm _).symm
 refine zdu X X<|zak (v := (strV _)) X X X<|zak (v := (.bool _)) X X X<|zdR X X<|zJ X X<|Y<|zF ?_
 have l26 := le11.trans le19
 refine zat ([5, 7, 8] ++ t_rg 19 10) (G := Nat × List Str × Str × Str × Bool × Int × Value × List (Nat × Obj) × Heap) (fun ⟨k, ini, la, cw, tb, lf, v_5, o_5, h23⟩ => [(5, v_5), (7, strV cw), (8, .bool tb)]) (fun ⟨k, ini, la, cw, tb, lf, v_5, o_5, h23⟩ w' => Le h16 h23 ∧ St h w h23 w' [o_5, [(bw9, .cells (List.toArray [strV cw]) 9)], [(bl8, .cells (List.toArray [.int .i64 lf]) 3)]] ∧ (OSl LStr 9 h23 v_5 (ini ++ [la]) o_5) ∧ (k ≤ 4) ∧ (ini.length = k) ∧ (la.length ≤ 12) ∧ (cw.length ≤ 12) ∧ (0 ≤ lf ∧ lf ≤ 4) ∧ (zcZ o.lex.rules 4 word = ini ++ zcZ o.lex.rules (4 - k) la) ∧ (tb = true → k < 4 ∧ zdO o.lex.rules la = some cw ∧ lf = 3 - k) ∧ (tb = false → zcZ o.lex.rules (4 - k) la = [la])) (fun ⟨k, ini, la, cw, tb, lf, v_5, o_5, h23⟩ => 4 - k) ⟨0, [], word, (zhP o.lex.rules 4 word), (turnB o.lex.rules 4 word), (turnL 4), v1, o5, h16⟩ ⟨rfl, rfl, rfl, trivial⟩ ⟨Le.refl _, st21, (OSl.to (f3.up l26) (by rfl)), zaM, (by rfl), (by exact hw), (by exact turnW_len hw), (by decide), (by rfl), (by exact fun q => ⟨by omega, (turn_true q).2, by decide⟩), (by exact fun q => turn_false q (by rfl))⟩ ?_
 rintro ⟨k, ini, la, cw, tb, lf, v_5, o_5, h23⟩ _ w27 ⟨le24, st25, hO_5, hk, hn, hla, hcw, hlf, hq, ht, hf⟩
 refine zj<|W.sr<|zai X X<|Y ?_
 refine zad rfl (fun c28 => ?_) (fun c28 => ?_)
 ·
  refine zC<|O<|zj<|zF<|zo<|zaa (v := v_5) X X<|zbX X X<|zaL (L := LStr) (xs := [cw]) (cs := [strV cw]) st25 (Enc.cons (L := LStr) (vs := [strV cw]) (x := cw) (h := h23) (⟨rfl, zba⟩) Enc.nil) X X X zA Tryz.info9 X X X t_kr<|fun v29 w30 h33 le34 f31 st32=> ?_
  refine zaR (k := 0) (nb := 16) st32 (hO_5.up le34) rfl f31 rfl rfl rfl zA Tryz.info9 rfl rfl rfl (by decide) rfl (by simp [hn]; omega) (by simp [hn]; omega) ?_
  intro v35 o36 w37 _ e38 f39 st40
  subst e38
  refine zaj (v := v35) X X<|zt<|zP<|O<|zo<|zaa (v := (.func (.func 237) #[] #[.pointer (some ⟨bl8, 0, none⟩), .pointer (some ⟨bw9, 0, none⟩), .pointer (some ⟨bo10, 0, none⟩)])) X X ?_
  have con := zgv (left_b := bl8) (left := lf) (word_b := bw9) (word := cw) (by omega) (o := o) (o_f0.up ((l26.trans le24).trans le34)) (o_f1.up ((l26.trans le24).trans le34)) (o_f2.up ((l26.trans le24).trans le34)) (o_f3.up ((l26.trans le24).trans le34)) (o_c.up ((l26.trans le24).trans le34)) (hc13.up ((le19.trans le24).trans le34)) (by omega) (by exact hcw) (st40.perm (List.reverse_perm _).symm)
  refine zaT rfl rfl (zcb (fs := []) (cs := [.pointer (some ⟨bl8, 0, none⟩), .pointer (some ⟨bw9, 0, none⟩), .pointer (some ⟨bo10, 0, none⟩)]) rfl rfl Tryz.call237 rfl) (con.mono ?_)
  rintro _ w41 ⟨h42, _, l43, w44, rfl, le45, s46, rfl, rfl, rfl⟩
  refine ⟨_, rfl, ?_⟩
  clear con
  have st47 := s46.perm (List.reverse_perm _).symm
  refine zdu X X<|zak (v := (strV _)) X X X<|zak (v := (.bool _)) X X X<|zdR X X<|zJ X X<|Y ?_
  have q1 := ht c28
  refine ⟨⟨k + 1, ini ++ [la], cw, (zhP o.lex.rules lf cw), (turnB o.lex.rules lf cw), (turnL lf), v35, o36, h42⟩, ⟨rfl, rfl, rfl, trivial⟩, ?_, ⟨((le24.trans le34).trans le45), st47, ?_, ?_, ?_, ?_, ?_, ?_, ?_, ?_, ?_⟩, ?_⟩
  ·exact zav
  ·refine OSl.to (f39.up le45) ?_
   rfl
  ·omega
  ·simp [hn]
  ·exact hcw
  ·exact turnW_len hcw
  ·unfold turnL; split <;> omega
  ·rw [hq, stepsN_some (show 4 - k = (4 - (k + 1)) + 1 by omega) q1.2.1]; simp
  ·exact fun q => ⟨by have := (turn_true q).1; omega, (turn_true q).2, by have := (turn_true q).1; unfold turnL; rw [if_neg this]; omega⟩
  ·exact fun q => turn_false q (by omega)
  show 4 - ((k + 1)) < 4 - k
  omega
 refine zaC<|zh<|zh<|zah<|O<|W.sr<|zaa (v := v_5) X X<|zaj (v := v_5) X X<|Y<|zB<|zc Tryz.results195 ?_
 obtain ⟨h49, le50, f51, st52⟩ := OSl.freeze (k := 0) st25 hO_5 rfl (by simp [hn]; omega)
 refine ⟨h49, _, rfl, st52.done, ?_⟩
 refine ⟨_, rfl, Sl.to f51 ?_⟩
 rw [hq, hf (by simpa using c28)]
end Go.Pk

namespace Go.Pk
open Go Go.RowKit Go.Proofs
theorem c_postilref01_Great {h : Heap} {w : World} (hs : Sub h w) {t : Text} {t_v0 : Value} (t_f0 : Sl LChapter h t_v0 t.chapters) : Calls Tryz.prog 50 #[.agg #[t_v0]] w (Rets h w (fun _ _ res_ => res_ = .bool ((!zfa t)))) := by
 refine zS (n := 75) Tryz.func50 X X X<|have st0:=t_s0 hs;have t_f0_b:=t_f0.le;W.sr<|zG st0 (cs := [t_v0]) X X X<|fun b1 w2 h3 le4 hc5 st6=>zJ X X<|Y<|zj<|W.sr<|U X zaF X zbi X X<|E (j := 0) st6.sub hc5 X X X zby X<|zaJ (t_f0.up le4) X zay X<|zdr X X X<|Y ?_
 refine zH rfl (fun c7 => ?_) (fun c7 => ?_)
 ·
  refine W.sr<|zJ X X<|Y<|zB<|zd<|zc Tryz.results50 ?_
  refine ⟨h3, _, rfl, st6.done, ?_⟩
  refine zw ?_
  simp [zfa]; intros; omega
 refine zC<|O<|zj<|W.sr<|zz X X<|Y<|zF ?_
 refine zat ([2, 3, 4, 5] ++ t_rg 10 65) (G := Nat × Heap) (fun ⟨i, h8⟩ => [(3, .int .i64 (i : Int))]) (fun ⟨i, h8⟩ w' => Le h3 h8 ∧ St h w h8 w' [] ∧ (i ≤ t.chapters.length) ∧ ((t.chapters.take i).all zfK = true)) (fun ⟨i, h8⟩ => t.chapters.length - i) ⟨0, h3⟩ ⟨rfl, trivial⟩ ⟨Le.refl _, st6, zaM, zaM⟩ ?_
 rintro ⟨i, h8⟩ _ w11 ⟨le9, st10, hi, hA⟩
 refine zj<|W.sr<|zk X X<|U X zaF X zbi X X<|E (j := 0) st10.sub (hc5.up le9) X X X zby X<|have l12:=le4.trans le9;zaJ (t_f0.up l12) X zay X<|zaV X X X<|Y ?_
 refine zH rfl (fun c13 => ?_) (fun c13 => ?_)
 ·
  refine zC<|O<|zj<|zF<|zj<|W.sr<|U X zaF X zbi X X<|E (j := 0) st10.sub (hc5.up le9) X X X zby X<|zk X X ?_
  obtain ⟨c, hc⟩ : ∃ y_, (t.chapters)[i]? = some y_ := t_ge (by omega)
  obtain ⟨b14, o15, _, he17, hc16, hr_c⟩ := Sl.elem (t_f0.up l12) hc
  obtain ⟨v18, rfl, f19⟩ := hr_c
  have f19_b := f19.le
  refine zV he17 X X (hk := X) (hu := zay) (hz := zbg) X<|U X zal X zbq X X<|E (j := 1) st10.sub hc16 X X X zbH X<|zaJ f19 X zaH X<|zdr X X X<|Y ?_
  refine zH rfl (fun c20 => ?_) (fun c20 => ?_)
  ·
   refine W.sr<|zJ X X<|Y<|zB<|zd<|zI<|zd<|zd<|zI<|zd<|zc Tryz.results50 ?_
   refine ⟨h8, _, rfl, st10.done, ?_⟩
   refine zw ?_
   have q0 : zfK c = false := by simp [zfK]; intros; omega
   have q := zcC (p := zfK) hc q0
   simp [zfa, q]
  refine zC<|O<|W.sr<|zz X X<|Y<|zF ?_
  refine zat ([2, 4, 5] ++ t_rg 25 50) (G := Nat × Heap) (fun ⟨k, h21⟩ => [(4, .int .i64 (k : Int))]) (fun ⟨k, h21⟩ w' => Le h8 h21 ∧ St h w h21 w' [] ∧ (k ≤ c.lines.length) ∧ ((c.lines.take k).all zhu = true)) (fun ⟨k, h21⟩ => c.lines.length - k) ⟨0, h8⟩ ⟨rfl, trivial⟩ ⟨Le.refl _, st10, zaM, zaM⟩ ?_
  rintro ⟨k, h21⟩ _ w24 ⟨le22, st23, hk, hB⟩
  refine zj<|W.sr<|zk X X<|U X zaF X zbi X X<|E (j := 0) st23.sub (hc5.up (le9.trans le22)) X X X zby X<|zk X X<|zV he17 X X (hk := X) (hu := zay) (hz := zbg) X<|U X zal X zbq X X<|E (j := 1) st23.sub (hc16.up le22) X X X zbH X<|zaJ (f19.up le22) X zaH X<|zaV X X X<|Y ?_
  refine zH rfl (fun c25 => ?_) (fun c25 => ?_)
  ·
   refine zC<|O<|zj<|zF<|zj<|W.sr<|U X zaF X zbi X X<|E (j := 0) st23.sub (hc5.up (le9.trans le22)) X X X zby X<|zk X X<|zV he17 X X (hk := X) (hu := zay) (hz := zbg) X<|U X zal X zbq X X<|E (j := 1) st23.sub (hc16.up le22) X X X zbH X<|zk X X ?_
   obtain ⟨ln, hln⟩ : ∃ y_, (c.lines)[k]? = some y_ := t_ge (by omega)
   obtain ⟨b26, o27, _, he29, hc28, hr_ln⟩ := Sl.elem (f19.up le22) hln
   obtain ⟨v30, rfl, f31⟩ := hr_ln
   have f31_b := f31.le
   refine zV he29 X X (hk := X) (hu := zaH) (hz := zcV) X<|E (j := 0) st23.sub hc28 X X X zdk X<|zaJ f31 X zA X<|zdr X X X<|Y ?_
   refine zH rfl (fun c32 => ?_) (fun c32 => ?_)
   ·
    refine W.sr<|zJ X X<|Y<|zB<|zd<|zI<|zd<|zd<|zI<|zI<|zd<|zd<|zI<|zd<|zc Tryz.results50 ?_
    refine ⟨h21, _, rfl, st23.done, ?_⟩
    refine zw ?_
    have q1 : zhu ln = false := by simp [zhu]; intros; omega
    have q2 := zcC (p := zhu) hln q1
    have q0 : zfK c = false := by simp [zfK, q2]
    have q := zcC (p := zfK) hc q0
    simp [zfa, q]
   refine zC<|O<|W.sr<|zz X X<|Y<|zF ?_
   refine zat ([2, 5] ++ t_rg 47 28) (G := Nat × Heap) (fun ⟨m, h33⟩ => [(5, .int .i64 (m : Int))]) (fun ⟨m, h33⟩ w' => Le h21 h33 ∧ St h w h33 w' [] ∧ (m ≤ ln.length) ∧ ((ln.take m).all smallW = true)) (fun ⟨m, h33⟩ => ln.length - m) ⟨0, h21⟩ ⟨rfl, trivial⟩ ⟨Le.refl _, st23, zaM, zaM⟩ ?_
   rintro ⟨m, h33⟩ _ w36 ⟨le34, st35, hm, hC⟩
   refine zj<|W.sr<|zk X X<|U X zaF X zbi X X<|E (j := 0) st35.sub (hc5.up ((le9.trans le22).trans le34)) X X X zby X<|zk X X<|zV he17 X X (hk := X) (hu := zay) (hz := zbg) X<|U X zal X zbq X X<|E (j := 1) st35.sub (hc16.up (le22.trans le34)) X X X zbH X<|zk X X<|zV he29 X X (hk := X) (hu := zaH) (hz := zcV) X<|E (j := 0) st35.sub (hc28.up le34) X X X zdk X<|zaJ (f31.up le34) X zA X<|zaV X X X<|Y ?_
   refine zH rfl (fun c37 => ?_) (fun c37 => ?_)
   ·
    refine zC<|O<|zj<|zF<|W.sr<|U X zaF X zbi X X<|E (j := 0) st35.sub (hc5.up ((le9.trans le22).trans le34)) X X X zby X<|zk X X<|zV he17 X X (hk := X) (hu := zay) (hz := zbg) X<|U X zal X zbq X X<|E (j := 1) st35.sub (hc16.up (le22.trans le34)) X X X zbH X<|zk X X<|zV he29 X X (hk := X) (hu := zaH) (hz := zcV) X<|E (j := 0) st35.sub (hc28.up le34) X X X zdk X<|zk X X ?_
    obtain ⟨wd, hwd⟩ : ∃ y_, (ln)[m]? = some y_ := t_ge (by omega)
    obtain ⟨b38, o39, _, he41, hc40, hr_wd⟩ := Sl.elem (f31.up le34) hwd
    obtain ⟨rfl, ls42⟩ := hr_wd
    simp only [big] at ls42
    refine zV he41 X X (hk := X) (hu := zA) (hz := zW) X<|E (j := 0) st35.sub hc40 X X X zaw X<|zco X zaz X<|zdr X X X<|Y ?_
    refine zH rfl (fun c43 => ?_) (fun c43 => ?_)
    ·
     refine W.sr<|zJ X X<|Y<|zB<|zI<|zd<|zd<|zI<|zI<|zd<|zd<|zI<|zI<|zd<|zd<|zI<|zd<|zc Tryz.results50 ?_
     refine ⟨h33, _, rfl, st35.done, ?_⟩
     refine zw ?_
     have q3 := zcC (p := smallW) hwd (by simp [smallW]; omega)
     have q1 : zhu ln = false := by simp [zhu, q3]
     have q2 := zcC (p := zhu) hln q1
     have q0 : zfK c = false := by simp [zfK, q2]
     have q := zcC (p := zfK) hc q0
     simp [zfa, q]
    refine zC<|zP<|O<|zo<|zk X X<|zaP X X t_om X<|zz X X<|Y ?_
    refine ⟨⟨m + 1, h33⟩, ⟨rfl, trivial⟩, ?_, ⟨le34, st35, ?_, ?_⟩, ?_⟩
    ·exact zav
    ·first | omega | (simp; omega)
    ·exact zbY hC hwd (by have q := c43; simp [smallW]; omega)
    show ln.length - ((m + 1)) < ln.length - m
    omega
   refine zaC<|zh<|zh<|zah<|zP<|O<|zo<|zk X X<|zaP X X t_om X<|zz X X<|Y ?_
   have HL : zhu ln = true := by
    have q := zcN hC (by omega)
    have q1 := c37
    simp [zhu, q]; omega
   refine ⟨⟨k + 1, h33⟩, ⟨rfl, trivial⟩, ?_, ⟨(le22.trans le34), st35, ?_, ?_⟩, ?_⟩
   ·exact zav
   ·first | omega | (simp; omega)
   ·exact zbY hB hln HL
   show c.lines.length - ((k + 1)) < c.lines.length - k
   omega
  refine zaC<|zh<|zh<|zah<|zP<|O<|zo<|zk X X<|zaP X X t_om X<|zz X X<|Y ?_
  have HC : zfK c = true := by
   have q := zcN hB (by omega)
   have q1 := c25
   simp [zfK, q]; omega
  refine ⟨⟨i + 1, h21⟩, ⟨rfl, trivial⟩, ?_, ⟨(le9.trans le22), st23, ?_, ?_⟩, ?_⟩
  ·exact zav
  ·first | omega | (simp; omega)
  ·exact zbY hA hc HC
  show t.chapters.length - ((i + 1)) < t.chapters.length - i
  omega
 refine zaC<|zh<|zh<|zah<|O<|W.sr<|zJ X X<|Y<|zB<|zc Tryz.results50 ?_
 refine ⟨h8, _, rfl, st10.done, ?_⟩
 refine zw ?_
 have q := zcN hA (by omega)
 simp [zfa, q]; omega
theorem c_postilref04_Great {h : Heap} {w : World} (hs : Sub h w) {x : Lexicon} {x_v0 : Value} (x_f0 : Sl LRule h x_v0 x.rules) {x_v1 : Value} (x_f1 : Sl LDecision h x_v1 x.decisions) : Calls Tryz.prog 51 #[.agg #[x_v0, x_v1]] w (Rets h w (fun _ _ res_ => res_ = .bool ((!zeZ x)))) := by
 refine zS (n := 64) Tryz.func51 X X X<|have st0:=t_s0 hs;have x_f0_b:=x_f0.le;have x_f1_b:=x_f1.le;W.sr<|zG st0 (cs := [x_v0, x_v1]) X X X<|fun b1 w2 h3 le4 hc5 st6=>zJ X X<|Y<|zj<|W.sr<|U X zQ X zbP X X<|E (j := 0) st6.sub hc5 X X X zcs X<|zaJ (x_f0.up le4) X zaX X<|zdr X X X<|zai X X ?_
 refine zaB (d := 10) rfl (fun g7 => ?_) (fun g7 => ?_)
 ·
  refine Z X X X X X<|Z X X X X X<|Z X X X X X<|Z X X X X X<|zaf (v := (.bool _)) X X X<|Y ?_
  refine zad rfl (fun c8 => ?_) (fun c8 => ?_)
  ·
   refine W.sr<|zJ X X<|Y<|zB<|zd<|zc zfh ?_
   refine ⟨h3, _, rfl, st6.done, ?_⟩
   refine zw ?_
   (simp [zeZ]; intros; omega)
  cases c8
 refine M X X X<|U X zQ X zaS X X<|M X X X<|E (j := 1) st6.sub hc5 X X X zbr X<|M X X X<|zaJ (x_f1.up le4) X zU X<|M X X X<|zdr X X X<|zX (v := (.bool _)) X X X<|Y ?_
 refine zH rfl (fun c9 => ?_) (fun c9 => ?_)
 ·
  refine W.sr<|zJ X X<|Y<|zB<|zd<|zc zfh ?_
  refine ⟨h3, _, rfl, st6.done, ?_⟩
  refine zw ?_
  (simp [zeZ]; intros; omega)
 refine zC<|O<|zj<|W.sr<|zz X X<|Y<|zF ?_
 refine zat ([2, 3] ++ t_rg 16 25) (G := Nat × Heap) (fun ⟨i, h10⟩ => [(3, .int .i64 (i : Int))]) (fun ⟨i, h10⟩ w' => Le h3 h10 ∧ St h w h10 w' [] ∧ (i ≤ x.rules.length) ∧ ((x.rules.take i).all smallR = true)) (fun ⟨i, h10⟩ => x.rules.length - i) ⟨0, h3⟩ ⟨rfl, trivial⟩ ⟨Le.refl _, st6, zaM, zaM⟩ ?_
 rintro ⟨i, h10⟩ _ w13 ⟨le11, st12, hi, hA⟩
 refine zj<|W.sr<|zk X X<|U X zQ X zbP X X<|E (j := 0) st12.sub (hc5.up le11) X X X zcs X<|have l14:=le4.trans le11;zaJ (x_f0.up l14) X zaX X<|zaV X X X<|Y ?_
 refine zH rfl (fun c15 => ?_) (fun c15 => ?_)
 ·
  refine zC<|O<|zj<|zF<|W.sr<|U X zQ X zbP X X<|E (j := 0) st12.sub (hc5.up le11) X X X zcs X<|zk X X ?_
  obtain ⟨r, hr⟩ : ∃ y_, (x.rules)[i]? = some y_ := t_ge (by omega)
  obtain ⟨b16, o17, _, he19, hc18, hr_r⟩ := Sl.elem (x_f0.up l14) hr
  obtain ⟨rfl, ls20, ls21⟩ := hr_r
  simp only [big] at ls20
  simp only [big] at ls21
  refine zV he19 X X (hk := X) (hu := zaX) (hz := zcr) X<|U X zbo X zW X X<|E (j := 0) st12.sub hc18 X X X zaw X<|zco X zaz X<|zdr X X X<|zai X X ?_
  refine zaB (d := 31) rfl (fun g22 => ?_) (fun g22 => ?_)
  ·
   refine Z X X X X X<|Z X X X X X<|Z X X X X X<|Z X X X X X<|Z X X X X X<|Z X X X X X<|Z X X X X X<|Z X X X X X<|zaf (v := (.bool _)) X X X<|Y ?_
   refine zad rfl (fun c23 => ?_) (fun c23 => ?_)
   ·
    refine W.sr<|zJ X X<|Y<|zB<|zI<|zd<|zd<|zI<|zd<|zc zfh ?_
    refine ⟨h10, _, rfl, st12.done, ?_⟩
    refine zw ?_
    (simp [zeZ, zcC (p := smallR) hr (by simp [smallR]; intros; omega)])
   cases c23
  refine M X X X<|U X zQ X zbP X X<|M X X X<|E (j := 0) st12.sub (hc5.up le11) X X X zcs X<|M X X X<|zk X X<|M X X X<|zV he19 X X (hk := X) (hu := zaX) (hz := zcr) X<|M X X X<|U X zbo X zW X X<|M X X X<|E (j := 1) st12.sub hc18 X X X zaw X<|M X X X<|zco X zaz X<|M X X X<|zdr X X X<|zX (v := (.bool _)) X X X<|Y ?_
  refine zH rfl (fun c24 => ?_) (fun c24 => ?_)
  ·
   refine W.sr<|zJ X X<|Y<|zB<|zI<|zd<|zd<|zI<|zd<|zc zfh ?_
   refine ⟨h10, _, rfl, st12.done, ?_⟩
   refine zw ?_
   (simp [zeZ, zcC (p := smallR) hr (by simp [smallR]; intros; omega)])
  refine zC<|zP<|O<|zo<|zk X X<|zaP X X t_om X<|zz X X<|Y ?_
  refine ⟨⟨i + 1, h10⟩, ⟨rfl, trivial⟩, ?_, ⟨le11, st12, ?_, ?_⟩, ?_⟩
  ·exact zav
  ·first | omega | (simp; omega)
  ·exact zbY hA hr (by have q := g22; have q2 := c24; simp [smallR]; omega)
  show x.rules.length - ((i + 1)) < x.rules.length - i
  omega
 refine zaC<|zh<|zh<|zah<|O<|zj<|W.sr<|zz X X<|Y<|zF ?_
 refine zat ([2, 4, 5] ++ t_rg 41 23) (G := Nat × Heap) (fun ⟨k, h25⟩ => [(4, .int .i64 (k : Int))]) (fun ⟨k, h25⟩ w' => Le h10 h25 ∧ St h w h25 w' [] ∧ (k ≤ x.decisions.length) ∧ ((x.decisions.take k).all smallD = true)) (fun ⟨k, h25⟩ => x.decisions.length - k) ⟨0, h10⟩ ⟨rfl, trivial⟩ ⟨Le.refl _, st12, zaM, zaM⟩ ?_
 rintro ⟨k, h25⟩ _ w28 ⟨le26, st27, hk, hB⟩
 refine zj<|W.sr<|zk X X<|U X zQ X zaS X X<|E (j := 1) st27.sub (hc5.up (le11.trans le26)) X X X zbr X<|have l29:=l14.trans le26;zaJ (x_f1.up l29) X zU X<|zaV X X X<|Y ?_
 refine zH rfl (fun c30 => ?_) (fun c30 => ?_)
 ·
  refine zC<|O<|zj<|zF<|W.sr<|U X zQ X zaS X X<|E (j := 1) st27.sub (hc5.up (le11.trans le26)) X X X zbr X<|zk X X ?_
  obtain ⟨d, hd⟩ : ∃ y_, (x.decisions)[k]? = some y_ := t_ge (by omega)
  obtain ⟨b31, o32, _, he34, hc33, hr_d⟩ := Sl.elem (x_f1.up l29) hd
  obtain ⟨rfl, lu35, ls36, ls37, lu38⟩ := hr_d
  simp only [big] at ls36
  simp only [big] at ls37
  refine zV he34 X X (hk := X) (hu := zU) (hz := zK) X<|zy st27.sub hc33 X zaI zK X X<|zae st27 zbD X X<|fun b39 w40 st41=>zM st41 (k := 0) X X X (za X (za X (za X (za X (za X (za X (za X (za X (za X zap))))))))) zK X X X<|fun w42 st43=> ?_
  obtain ⟨h44, le45, hb46, st48⟩ := st43.freeze (k := 0) rfl
  have hc47 := Cells.of hb46
  refine Y<|W.sr<|U X zi X zW X X<|E (j := 2) st48.sub hc47 X X X zaw X<|zco X zaz X<|zdr X X X<|zai X X ?_
  refine zaB (d := 57) rfl (fun g49 => ?_) (fun g49 => ?_)
  ·
   refine Z X X X X X<|Z X X X X X<|Z X X X X X<|Z X X X X X<|Z X X X X X<|zaf (v := (.bool _)) X X X<|Y ?_
   refine zad rfl (fun c50 => ?_) (fun c50 => ?_)
   ·
    refine W.sr<|zJ X X<|Y<|zB<|zI<|zd<|zd<|zI<|zd<|zc zfh ?_
    refine ⟨h44, _, rfl, st48.done, ?_⟩
    refine zw ?_
    (simp [zeZ, zcC (p := smallD) hd (by simp [smallD]; intros; omega)])
   cases c50
  refine M X X X<|U X zi X zT X X<|M X X X<|U X zbw X zW X X<|M X X X<|E (j := 6) st48.sub hc47 X X X zaw X<|M X X X<|zco X zaz X<|M X X X<|zdr X X X<|zX (v := (.bool _)) X X X<|Y ?_
  refine zH rfl (fun c51 => ?_) (fun c51 => ?_)
  ·
   refine W.sr<|zJ X X<|Y<|zB<|zI<|zd<|zd<|zI<|zd<|zc zfh ?_
   refine ⟨h44, _, rfl, st48.done, ?_⟩
   refine zw ?_
   (simp [zeZ, zcC (p := smallD) hd (by simp [smallD]; intros; omega)])
  refine zC<|zP<|O<|zo<|zk X X<|zaP X X t_om X<|zz X X<|Y ?_
  refine ⟨⟨k + 1, h44⟩, ⟨rfl, trivial⟩, ?_, ⟨(le26.trans le45), st48.take 0, ?_, ?_⟩, ?_⟩
  ·exact zav
  ·first | omega | (simp; omega)
  ·exact zbY hB hd (by have q := g49; have q2 := c51; simp [smallD]; omega)
  show x.decisions.length - ((k + 1)) < x.decisions.length - k
  omega
 refine zaC<|zh<|zh<|zah<|O<|W.sr<|zJ X X<|Y<|zB<|zc zfh ?_
 refine ⟨h25, _, rfl, st27.done, ?_⟩
 refine zw ?_
 (simp [zeZ, zcN hA (by omega), zcN hB (by omega)]; omega)
end Go.Pk

namespace Go.Pk
open Go Go.RowKit Go.Proofs
theorem c_postilref01_Twin {h : Heap} {w : World} (hs : Sub h w) {t : Text} {t_v0 : Value} (t_f0 : Sl LChapter h t_v0 t.chapters) (hsm : zfa t = true) : Calls Tryz.prog 52 #[.agg #[t_v0]] w (Rets h w (fun h' _ res_ => ∃ u0, res_ = .agg #[u0] ∧ Sl LChapter h' u0 (t).chapters)) := by
 refine zS (n := 55) Tryz.func52 X X X<|have st0:=t_s0 hs;have t_f0_b:=t_f0.le;W.sr<|zG st0 (cs := [t_v0]) X X X<|fun b1 w2 h3 le4 hc5 st6=>zae st6 Tryz.zeroValue24 X X<|fun b7 w8 st9=>Y<|W.sr<|zae st9 Tryz.zeroValue24 X X<|fun b10 w11 st12=>Y<|zj<|W.sr<|zz X X<|Y<|zF ?_
 have st16 := st12.snoc
 have f17 := OSl.nil LChapter 152 h3
 refine zat (t_rg 4 50) (G := Nat × Value × List (Nat × Obj) × Heap) (fun ⟨i, v_c1_0, o_c1_0, h13⟩ => [(4, .int .i64 (i : Int))]) (fun ⟨i, v_c1_0, o_c1_0, h13⟩ w' => Le h3 h13 ∧ St h w h13 w' [[(b7, .cells (List.toArray [(.slice none 0 0)]) 24)], [(b10, .cells (List.toArray [v_c1_0]) 24)], o_c1_0] ∧ (OSl LChapter 152 h13 v_c1_0 (t.chapters.take i) o_c1_0) ∧ (i ≤ t.chapters.length)) (fun ⟨i, v_c1_0, o_c1_0, h13⟩ => t.chapters.length - i) ⟨0, (.slice none 0 0), [], h3⟩ ⟨rfl, trivial⟩ ⟨Le.refl _, st16, (OSl.to f17 (by simp)), zaM⟩ ?_
 rintro ⟨i, v_c1_0, o_c1_0, h13⟩ _ w18 ⟨le14, st15, hO_c1_0, hi⟩
 refine zj<|W.sr<|zk X X<|U X zaF X zbi X X<|E (j := 0) st15.sub (hc5.up le14) X X X zby X<|have l19:=le4.trans le14;zaJ (t_f0.up l19) X zay X<|zaV X X X<|Y ?_
 refine zH rfl (fun c20 => ?_) (fun c20 => ?_)
 ·
  refine zC<|O<|zj<|zF<|W.sr<|U X zaF X zbi X X<|E (j := 0) st15.sub (hc5.up le14) X X X zby X<|zk X X ?_
  obtain ⟨c, hc⟩ : ∃ y_, (t.chapters)[i]? = some y_ := t_ge (by omega)
  obtain ⟨b21, o22, _, he24, hc23, hr_c⟩ := Sl.elem (t_f0.up l19) hc
  obtain ⟨v25, rfl, f26⟩ := hr_c
  have f26_b := f26.le
  refine zV he24 X X (hk := X) (hu := zay) (hz := zbg) X<|have hcl:=smallT_c hsm hc;have htl:=smallT_len hsm;U X zal X zr X X<|E (j := 0) st15.sub hc23 X X X zN X<|zq X X (zbW (cs := [.int .i64 (c.id), (.slice none 0 0)]) t_kr)<|zae st15 zex X X<|fun b27 w28 st29=>zM st29 (k := 3) X X X (za X (za X zap)) zbg X X X<|fun w30 st31=>Y<|zj<|W.sr<|zz X X<|Y<|zF ?_
  have st35 := st31.snoc
  have f36 := OSl.nil (LSl LStr) 60 h13
  refine zat ([6] ++ t_rg 21 27) (G := Nat × Value × List (Nat × Obj) × Heap) (fun ⟨n, v_c3_1, o_c3_1, h32⟩ => [(6, .int .i64 (n : Int))]) (fun ⟨n, v_c3_1, o_c3_1, h32⟩ w' => Le h13 h32 ∧ St h w h32 w' [[(b7, .cells (List.toArray [(.slice none 0 0)]) 24)], [(b10, .cells (List.toArray [v_c1_0]) 24)], o_c1_0, [(b27, .cells (List.toArray [.int .i64 (c.id), v_c3_1]) 152)], o_c3_1] ∧ (OSl (LSl LStr) 60 h32 v_c3_1 (c.lines.take n) o_c3_1) ∧ (n ≤ c.lines.length)) (fun ⟨n, v_c3_1, o_c3_1, h32⟩ => c.lines.length - n) ⟨0, (.slice none 0 0), [], h13⟩ ⟨rfl, trivial⟩ ⟨Le.refl _, st35, (OSl.to f36 (by simp)), zaM⟩ ?_
  rintro ⟨n, v_c3_1, o_c3_1, h32⟩ _ w37 ⟨le33, st34, hO_c3_1, hn⟩
  refine zj<|W.sr<|zk X X<|U X zaF X zbi X X<|E (j := 0) st34.sub (hc5.up (le14.trans le33)) X X X zby X<|zk X X<|zV he24 X X (hk := X) (hu := zay) (hz := zbg) X<|U X zal X zbq X X<|E (j := 1) st34.sub (hc23.up le33) X X X zbH X<|zaJ (f26.up le33) X zaH X<|zaV X X X<|Y ?_
  refine zH rfl (fun c38 => ?_) (fun c38 => ?_)
  ·
   refine zC<|O<|zj<|zF ?_
   obtain ⟨ln, hln⟩ : ∃ y_, (c.lines)[n]? = some y_ := t_ge (by omega)
   obtain ⟨b39, o40, _, he42, hc41, hr_ln⟩ := Sl.elem (f26.up le33) hln
   obtain ⟨v43, rfl, f44⟩ := hr_ln
   have f44_b := f44.le
   have hll := smallT_l hsm hc hln
   refine zbh (er := ([1], [], [], [], 0)) (dsts := [32, 33, 34, 35, 36, 37, 38, 39, 40, 41, 42, 43, 44, 45, 46, 47]) st34 Tryz.mixed<|zf 0 [] X t_kr t_kr X X (fun hD wD τD hL hS hO  => (zL X zal X zbq X))<|zf 1 [0] X t_kr t_kr X X (fun hD wD τD hL hS hO _ _ => (zfk ((hO X).get (k := 3) X) X X zbH)) ?_
   refine zax 2 (.res (fun _ res_ => ∃ p, res_ = .slice p 0 0) (fun _ _ _ _ f => f)) [] rfl t_kr t_kr ?_ ?_
   ·
    intro hD wD τD hL hS hO 
    have st45 := St.start hS
    refine zfj st45 X ⟨_, zW⟩ zA<|fun v46 w47 f48 st49=> ?_
    exact zt ⟨_, _, rfl, st49, _, rfl, f48⟩
   refine zf 3 [] X t_kr t_kr X X (fun hD wD τD hL hS hO  => (zL X zaF X zbi X))<|zf 4 [0] X t_kr t_kr X X (fun hD wD τD hL hS hO _ _ => (ze (j := 0) (hL.sub hS) (hc5.up (le14.trans le33)) X X X zby))<|zf 5 [] X t_kr t_kr X X (fun hD wD τD hL hS hO  => (zdP X))<|zf 6 [1, 0] X t_kr t_kr X X (fun hD wD τD hL hS hO _ _ _ _ => (zao he24 X X (hk := X) (hu := zay) (hz := zbg)))<|zf 7 [0] X t_kr t_kr X X (fun hD wD τD hL hS hO _ _ => (zL X zal X zbq X))<|zf 8 [0] X t_kr t_kr X X (fun hD wD τD hL hS hO _ _ => (ze (j := 1) (hL.sub hS) (hc23.up le33) X X X zbH))<|zf 9 [] X t_kr t_kr X X (fun hD wD τD hL hS hO  => (zdP X))<|zf 10 [1, 0] X t_kr t_kr X X (fun hD wD τD hL hS hO _ _ _ _ => (zao he42 X X (hk := X) (hu := zaH) (hz := zcV)))<|zf 11 [0] X t_kr t_kr X X (fun hD wD τD hL hS hO _ _ => (ze (j := 0) (hL.sub hS) hc41 X X X zdk)) ?_
   refine zax 12 (.res (fun h' res_ => Sl LStr h' res_ ln) (fun _ _ _ hl f => f.up hl)) [9, 0] rfl t_kr t_kr ?_ ?_
   ·
    intro hD wD τD hL hS hO gv2_ gf2_ _ _
    have st50 := St.start hS
    have st51 := st50.snoc
    have f52 := OSl.nil LStr 9 hD
    have f53 := OSl.nil0 LStr 9 hD gf2_
    refine zaR (k := 0) (nb := 16) st51 f53 rfl (f44.up hL) rfl rfl rfl zA Tryz.info9 rfl rfl rfl (by decide) rfl (by simp only [List.length_take, List.length_append, List.length_cons, List.length_nil]; omega) (by simp only [List.length_take, List.length_append, List.length_cons, List.length_nil]; omega) ?_
    intro v54 o55 w56 _ e57 f58 st59
    subst e57
    obtain ⟨h60, le61, f62, st63⟩ := OSl.freeze (k := 0) st59 f58 rfl (by simp only [List.length_take, List.length_append, List.length_cons, List.length_nil]; omega)
    exact zt ⟨_, _, rfl, st63.done, _, rfl, f62⟩
   refine zax 13 (.res (fun h' res_ => Sl (LSl LStr) h' res_ ([ln])) (fun _ _ _ hl f => f.up hl)) [0] rfl t_kr t_kr ?_ ?_
   ·
    intro hD wD τD hL hS hO gv12_0 gf12_0
    have st64 := St.start hS
    refine zaL (L := (LSl LStr)) (xs := [ln]) (cs := [gv12_0]) st64 (Enc.cons (L := (LSl LStr)) (vs := [gv12_0]) (x := ln) (h := hD) (⟨_, rfl, gf12_0⟩) Enc.nil) rfl rfl rfl zaH Tryz.info60 rfl rfl rfl (by obtain ⟨_, _, rfl⟩ := Sl.form gf12_0; kernel_rfl) ?_
    intro v65 w66 h69 le70 f67 st68
    exact zt ⟨_, _, rfl, st68, _, rfl, f67⟩
   refine zbx<|zf 15 [14, 13, 12, 11, 10, 9, 8, 7, 6, 5, 4, 3, 2, 1, 0] X t_kr t_kr X X (fun hD wD τD hL hS hO _ _ _ _ gv2_ gf2_ _ _ _ _ _ _ _ _ _ _ _ _ _ _ _ _ _ _ gv12_0 gf12_0 gv13_0 gf13_0 => (zL X zal X zbq X))<|zbx<|zbN X X X X X X ⟨t_kr, X, t_kr, X, t_kr, X, X, t_kr, (zbe X (zbe X zcl))⟩<|fun hE72 w73 _ le74 st75 _ _ gv13_0x71 gf13_0x71 gv12_0x71 gf12_0x71=> ?_
   refine zaR (k := 4) (nb := 24) st75 (hO_c3_1.up le74) rfl gf13_0x71 rfl rfl rfl zaH Tryz.info60 rfl rfl rfl (by decide) rfl (by simp only [List.length_take, List.length_append, List.length_cons, List.length_nil]; omega) (by simp only [List.length_take, List.length_append, List.length_cons, List.length_nil]; omega) ?_
   intro v76 o77 w78 _ e79 f80 st81
   subst e79
   refine zt ⟨_, rfl, _, _, Le.refl _, st81, ?_⟩
   intro hE83 w84 _ le85 st86 _ _ _ _ _ _ gv2_x82 gf2_x82 _ _ _ _ _ _ _ _ _ _ _ _ _ _ _ _ _ _ gv12_0x82 gf12_0x82 gv13_0x82 gf13_0x82
   refine zbR st86 (k := 3) X X (v := v76) X f80.one zbq X X X<|fun w87 st88=> ?_
   refine zt ⟨undef, rfl, _, _, Le.refl _, st88, ?_⟩
   intro hE89 w90 _ le91 st92 _ _ _ _ gv2_x93 gf2_x93 _ _ _ _ _ _ _ _ _ _ _ _ _ _ _ _ _ _ gv12_0x93 gf12_0x93 gv13_0x93 gf13_0x93 _ _
   refine AllDeps.fin X<|zP<|O<|zo<|zk X X<|zaP X X t_om X<|zz X X<|Y ?_
   have l94 := ((le33.trans le74).trans le85).trans le91
   refine ⟨⟨n + 1, v76, o77, hE89⟩, ⟨rfl, trivial⟩, ?_, ⟨l94, st92, ?_, ?_⟩, ?_⟩
   ·exact zav
   ·refine OSl.to (f80.up (le85.trans le91)) ?_
    rw [zbb hln]
   ·first | omega | (simp; omega)
   show c.lines.length - ((n + 1)) < c.lines.length - n
   omega
  refine zaC<|zh<|zh<|zah<|O<|zo<|U X zaF X zbi X X<|zcp (st34.get (k := 1) X) X X zby X<|zcd (st34.get (k := 3) X) X Tryz.isAgg152 zbg X X ?_
  obtain ⟨h95, le96, f97, st98⟩ := OSl.freeze (k := 4) st34 hO_c3_1 rfl (by simp only [List.length_take, List.length_append, List.length_cons, List.length_nil]; omega)
  refine zaL (L := LChapter) (xs := [(Chapter.mk (c.id) (c.lines.take n))]) (cs := [.int .i64 (c.id), v_c3_1]) st98 (Enc.cons (L := LChapter) (vs := [.int .i64 (c.id), v_c3_1]) (x := (Chapter.mk (c.id) (c.lines.take n))) (h := h95) (⟨_, X, f97⟩) Enc.nil) X X X zay Tryz.info152 X X X t_kr<|fun v99 w100 h103 le104 f101 st102=> ?_
  refine zaR (k := 2) (nb := 32) st102 (hO_c1_0.up ((le33.trans le96).trans le104)) rfl f101 rfl rfl rfl zay Tryz.info152 rfl rfl rfl (by decide) rfl (by simp only [List.length_take, List.length_append, List.length_cons, List.length_nil]; omega) (by simp only [List.length_take, List.length_append, List.length_cons, List.length_nil]; omega) ?_
  intro v105 o106 w107 _ e108 f109 st110
  subst e108
  refine U X zaF X zbi X X<|zbR st110 (k := 1) X X (v := v105) X f109.one zbi X X X<|fun w111 st112=>zt<|zP<|O<|zo<|zk X X<|zaP X X t_om X<|zz X X<|Y ?_
  have l113 := ((le14.trans le33).trans le96).trans le104
  refine ⟨⟨i + 1, v105, o106, h103⟩, ⟨rfl, trivial⟩, ?_, ⟨l113, st112.take 3, ?_, ?_⟩, ?_⟩
  ·exact zav
  ·refine OSl.to f109 ?_
   rw [zbb hc, List.take_of_length_le (show c.lines.length ≤ n by omega)]
  ·first | omega | (simp; omega)
  show t.chapters.length - ((i + 1)) < t.chapters.length - i
  omega
 refine zaC<|zh<|zh<|zah<|O<|W.sr<|zcd (st15.get (k := 1) X) X zaO zac X X<|zM st15 (k := 0) X X X (za hO_c1_0.one zap) zac X X X<|fun w114 st115=> ?_
 obtain ⟨h116, le117, hb118, st120⟩ := st115.freeze (k := 0) rfl
 have hc119 := Cells.of hb118
 refine Y<|zB<|zeT Tryz.results52 X zaO zac X st120.sub hc119 ?_
 obtain ⟨h121, le122, f123, st124⟩ := OSl.freeze (k := 2) st120 (hO_c1_0.up le117) rfl (by simp only [List.length_take, List.length_append, List.length_cons, List.length_nil]; omega)
 refine ⟨h121, _, rfl, st124.done, ?_⟩
 refine ⟨_, ?_, Sl.to f123 ?_⟩
 ·rfl
 rw [List.take_of_length_le (by omega)]
theorem zhF {h : Heap} {w : World} (hs : Sub h w) {x : Lexicon} {x_v0 : Value} (x_f0 : Sl LRule h x_v0 x.rules) {x_v1 : Value} (x_f1 : Sl LDecision h x_v1 x.decisions) (hsm : zeZ x = true) : Calls Tryz.prog 53 #[.agg #[x_v0, x_v1]] w (Rets h w (fun h' _ res_ => ∃ u0 u1, res_ = .agg #[u0, u1] ∧ Sl LRule h' u0 (x).rules ∧ Sl LDecision h' u1 (x).decisions)) := by
 refine zS (n := 14) Tryz.func53 X X X<|have st0:=t_s0 hs;have x_f0_b:=x_f0.le;have x_f1_b:=x_f1.le;W.sr<|OpsL.boxO st0 (cs := [x_v0, x_v1]) X X X<|fun b1 w2 st3=>zae st3 zcR X X<|fun b4 w5 st6=>Y<|W.sr<|zen (L := LRule) st6 X ⟨_, zcr⟩ zaX<|fun v7 o8 w9 f10 st11=>U X zQ X zbP X X<|zcp (st11.get (k := 0) X) X X zcs X ?_
 have hln := smallX_len hsm
 refine zaR (k := 2) (nb := 40) st11 f10 rfl x_f0 rfl rfl rfl zaX Tryz.info68 rfl rfl rfl (by decide) rfl (by simp only [List.length_nil, List.nil_append]; omega) (by simp only [List.length_nil, List.nil_append]; omega) ?_
 intro v12 o13 w14 _ e15 f16 st17
 subst e15
 refine U X zQ X zbP X X<|zbR st17 (k := 0) X X (v := v12) X f16.one zbP X X X<|fun w18 st19=>Y<|W.sr<|zen (L := LDecision) st19 X ⟨_, zK⟩ zU<|fun v20 o21 w22 f23 st24=>U X zQ X zaS X X<|zcp (st24.get (k := 0) X) X X zbr X ?_
 refine zaR (k := 3) (nb := 88) st24 f23 rfl x_f1 rfl rfl rfl zU Tryz.info74 rfl rfl rfl (by decide) rfl (by simp only [List.length_nil, List.nil_append]; omega) (by simp only [List.length_nil, List.nil_append]; omega) ?_
 intro v25 o26 w27 _ e28 f29 st30
 subst e28
 refine U X zQ X zaS X X<|zbR st30 (k := 0) X X (v := v25) X f29.one zaS X X X<|fun w31 st32=>Y<|W.sr<|zcd (st32.get (k := 0) X) X zaK zR X X<|zM st32 (k := 1) X X X (za f16.one (za f29.one zap)) zR X X X<|fun w33 st34=> ?_
 obtain ⟨h35, le36, hb37, st39⟩ := st34.freeze (k := 1) rfl
 have hc38 := Cells.of hb37
 refine Y<|zB<|zeT Tryz.results53 X zaK zR X st39.sub hc38 ?_
 obtain ⟨h40, le41, f42, st43⟩ := OSl.freeze (k := 2) st39 (f16.up le36) rfl (by simp only [List.nil_append]; omega)
 obtain ⟨h44, le45, f46, st47⟩ := OSl.freeze (k := 3) st43 (f29.up (le36.trans le41)) rfl (by simp only [List.nil_append]; omega)
 refine ⟨h44, _, rfl, st47.done, ?_⟩
 refine ⟨_, _, ?_, Sl.to (f42.up le45) ?_, Sl.to f46 ?_⟩
 ·rfl
 ·simp
 simp
end Go.Pk
