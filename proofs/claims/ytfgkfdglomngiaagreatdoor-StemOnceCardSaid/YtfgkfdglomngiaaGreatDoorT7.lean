/- A PART OF THE PROOF: contracts of functions, each walked once (much of it printed by a program of the author's own). -/
import Derived.Test.YtfgkfdglomngiaaGreatDoorT6
import Derived.Test.YtfgkfdglomngiaaGreatDoorT3
import Derived.Test.YtfgkfdglomngiaaGreatDoorT1
import Derived.Test.YtfgkfdglomngiaaGreatDoorT4
import Derived.Test.YtfgkfdglomngiaaGreatDoorT2
import Derived.Test.YtfgkfdglomngiaaGreatDoorT5
set_option linter.unusedSimpArgs false
set_option linter.unusedVariables false
namespace Go.Pk
open Go Go.RowKit Go.Proofs
set_option maxRecDepth 4000 in
theorem c_leaf_open {h : Heap} {w : World} (hs : Sub h w) {t : Text} {t_v0 : Value} (t_f0 : Sl LChapter h t_v0 t.chapters) : Calls Tryz.prog 92 #[.agg #[t_v0]] w (Rets h w (fun h' _ res_ => ∃ u0, res_ = .tuple #[u0, .int .i64 ((if textB t then 0 else 10))] ∧ Box LText h' (textB t) t u0)) := by
 refine zx (n := 13) (args := [.agg #[t_v0]]) Tryz.func92 X X X ?_
 have st0 : St h w h w [] := St.start hs
 have t_f0_b := t_f0.le
 refine W.sr<|zl st0 (cs := [t_v0]) X X X ?_
 intro b1 w2 h3 le4 hc5 st6
 refine v_assign X X<|v_asI X X<|Y<|zg<|W.sr<|v_load_call st6.sub hc5 X Tryz.isAgg24 Tryz.sizeOf24 X X<|za st6 X X X Tryz.call85 X (c_leaf_Check st6.sub (t := t) (t_f0.up le4)) ?_
 intro r7 w8 h9 le10 st11 q12
 obtain rfl := q12
 refine v_asI X X<|Y<|W.sr<|v_mvI X X<|v_neq X X X<|Y ?_
 refine zh rfl (fun c13 => ?_) (fun c13 => ?_)
 ·
  replace c13 := of_decide_eq_true c13
  refine W.sr<|v_mvI X X<|v_assign X X<|v_asI X X<|Y<|zk<|zd<|zH Tryz.results92 ?_
  refine ⟨h9, _, rfl, st11.done, ?_⟩
  refine ⟨_, tup2 rfl (zC ?_), Box.nil ?_⟩
  ·simp_all
  ·simp_all
 ·
  replace c13 := of_decide_eq_false c13
  refine zo<|U<|W.sr<|v_load_call st11.sub (hc5.up le10) X Tryz.isAgg24 Tryz.sizeOf24 X X ?_
  refine ze rfl rfl (zY (cs := [t_v0]) (by obtain ⟨_, _, rfl⟩ := Sl.form t_f0; kernel_rfl)) ?_
  refine zl st11 (cs := [t_v0]) X X X ?_
  intro b14 w15 h16 le17 hc18 st19
  refine v_asP X X<|v_asI X X<|Y<|zk<|zH Tryz.results92 ?_
  refine ⟨h16, _, rfl, st19.done, ?_⟩
  refine ⟨_, tup2 rfl (zC ?_), Box.some ?_ hc18 ⟨_, rfl, (t_f0.up ((le4.trans le10).trans le17))⟩⟩
  ·simp_all
  ·simp_all
set_option maxRecDepth 4000 in
theorem c_leaf_book_line {h : Heap} {w : World} (hs : Sub h w) {t_b : Nat} {t : Text} {t_v0 : Value} (t_f0 : Sl LChapter h t_v0 t.chapters) (t_c : Cells h t_b 0 [t_v0]) {p : Place} : Calls Tryz.prog 70 #[.pointer (some ⟨t_b, 0, none⟩), .agg #[.int .i64 p.chapter, .int .i64 p.line, .int .i64 p.word]] w (Rets h w (fun h' _ res_ => ∃ u0, res_ = u0 ∧ Sl LStr h' u0 ((lineAt t p).getD []))) := by
 refine zx (n := 50) (args := [.pointer (some ⟨t_b, 0, none⟩), .agg #[.int .i64 p.chapter, .int .i64 p.line, .int .i64 p.word]]) Tryz.func70 X X X ?_
 have st0 : St h w h w [] := St.start hs
 have t_f0_b := t_f0.le
 refine W.sr<|zl st0 (cs := [.int .i64 (p.chapter), .int .i64 (p.line), .int .i64 (p.word)]) X X X ?_
 intro b1 w2 h3 le4 hc5 st6
 refine v_asL X X<|Y<|zg<|zg ?_
 rcases Bool.eq_false_or_eq_true ((!(inAll (([(p.chapter)])) (0) (((t.chapters.length : Int) - 1))))) with g7 | g7
 ·
  have g7_r := g7
  refine zZ (er := ([], [], [], [], 0)) (dsts := [5, 6, 7, 8, 9, 10, 11, 12, 13, 14, 15, 16, 17, 18, 19, 20, 21, 22, 23, 24, 25, 26, 27, 28, 29, 30, 31, 32, 33, 34, 35]) st6 Tryz.mixed<|zc 0 [] X t_kr t_kr X X (fun hD wD τD hL hS hO  => (r_mvP X))<|zc 1 [0] X t_kr t_kr X X (fun hD wD τD hL hS hO _ _ => (r_nil_check X))<|zc 2 [0] X t_kr t_kr X X (fun hD wD τD hL hS hO _ _ => (zA X Tryz.underlying183 X Tryz.sizeOf24 X))<|zc 3 [0] X t_kr t_kr X X (fun hD wD τD hL hS hO _ _ => (zA X Tryz.underlying24 X Tryz.sizeOf22 X))<|zc 4 [0] X t_kr t_kr X X (fun hD wD τD hL hS hO _ _ => (zf (j := 0) (hL.sub hS) (t_c.up le4) X X X Tryz.isAgg22))<|zc 5 [0] X t_kr t_kr X X (fun hD wD τD hL hS hO _ _ => (r_len (t_f0.up le4) X Tryz.underlying22))<|zc 6 [0] X t_kr t_kr X X (fun hD wD τD hL hS hO _ _ => (r_sub X X t_om))<|zc 7 [] X t_kr t_kr X X (fun hD wD τD hL hS hO  => (zA X Tryz.underlying30 X Tryz.sizeOf3 X))<|zc 8 [0] X t_kr t_kr X X (fun hD wD τD hL hS hO _ _ => (zf (j := 0) (hL.sub hS) hc5 X X X Tryz.isAgg3)) ?_
  refine zF 9 (.res (fun h' res_ => Sl LInt h' res_ ([(p.chapter)])) (fun _ _ _ hl f => f.up hl)) [0] rfl t_kr t_kr ?_ ?_
  ·
   intro hD wD τD hL hS hO _ _
   have st8 := St.start hS
   refine zG (L := LInt) (xs := [(p.chapter)]) (cs := [.int .i64 (p.chapter)]) st8 (Enc.cons (L := LInt) (vs := [.int .i64 (p.chapter)]) (x := (p.chapter)) (h := hD) (X) Enc.nil) X X X Tryz.underlying46 Tryz.info3 X X X t_kr ?_
   intro v9 w10 h13 le14 f11 st12
   exact zj ⟨_, _, rfl, st12, _, rfl, f11⟩
  refine zF 10 (.det (.bool (inAll (([(p.chapter)])) (0) (((t.chapters.length : Int) - 1))))) [3, 0] rfl t_kr t_kr ?_ ?_
  ·
   intro hD wD τD hL hS hO _ _ gv9_0 gf9_0
   have st15 := St.start hS
   refine za st15 X X X Tryz.call109 X (c_leaf_in st15.sub _ _ gf9_0) ?_
   intro r16 w17 h18 le19 st20 q21
   obtain rfl := q21
   exact zj ⟨_, _, rfl, st20, (), rfl, trivial⟩
  refine zc 11 [0] X t_kr t_kr X X (fun hD wD τD hL hS hO _ _ => (Run.lit (r_not X) g7_r))<|zc 12 [0, 1] X t_kr t_kr X X (fun hD wD τD hL hS hO _ _ _ _ => (r_mvB X))<|zX 13 [0] X t_kr t_kr X X X X (fun hD wD τD hL hS hO _ _ => X)<|zX 14 [0, 1] X t_kr t_kr X X X X (fun hD wD τD hL hS hO _ _ _ _ => X)<|zX 15 [0, 2] X t_kr t_kr X X X X (fun hD wD τD hL hS hO _ _ _ _ => X)<|zX 16 [0, 3] X t_kr t_kr X X X X (fun hD wD τD hL hS hO _ _ _ _ => X)<|zX 17 [0, 4] X t_kr t_kr X X X X (fun hD wD τD hL hS hO _ _ _ _ => X)<|zX 18 [5] X t_kr t_kr X X X X (fun hD wD τD hL hS hO _ _ => X)<|zX 19 [0, 6] X t_kr t_kr X X X X (fun hD wD τD hL hS hO _ _ _ _ => X)<|zX 20 [2, 0, 7] X t_kr t_kr X X X X (fun hD wD τD hL hS hO _ _ _ _ _ _ => X)<|zX 21 [0, 8] X t_kr t_kr X X X X (fun hD wD τD hL hS hO _ _ _ _ => X)<|zX 22 [0, 9] X t_kr t_kr X X X X (fun hD wD τD hL hS hO _ _ _ _ => X)<|zX 23 [0, 10] X t_kr t_kr X X X X (fun hD wD τD hL hS hO _ _ _ _ => X)<|zX 24 [0, 11] X t_kr t_kr X X X X (fun hD wD τD hL hS hO _ _ _ _ => X)<|zX 25 [12] X t_kr t_kr X X X X (fun hD wD τD hL hS hO _ _ => X)<|zX 26 [0, 13] X t_kr t_kr X X X X (fun hD wD τD hL hS hO _ _ _ _ => X)<|zX 27 [0, 14] X t_kr t_kr X X X X (fun hD wD τD hL hS hO _ _ _ _ => X)<|zX 28 [3, 0, 15] X t_kr t_kr X X X X (fun hD wD τD hL hS hO _ _ _ _ _ _ => X)<|zX 29 [0, 16] X t_kr t_kr X X X X (fun hD wD τD hL hS hO _ _ _ _ => X)<|zc 30 [17, 0] X t_kr t_kr X X (fun hD wD τD hL hS hO _ _ _ _ => (r_pickT (v := (.bool _)) X X))<|Drw.nil X X X X X X ⟨t_kr, X, t_kr, X, t_kr, X, X, t_kr, cx_nil⟩ ?_
  intro hE22 w23 _ le24 st25 _ _ _ _ _ _ _ _ _ _ _ _ _ _ _ _ _ _ gv9_0x26 gf9_0x26 _ _ _ _ _ _ _ _ _ _ _ _ _ _ _ _ _ _ _ _ _ _ _ _ _ _ _ _ _ _ _ _ _ _ _ _ _ _ _ _ _ _
  refine AllDeps.fin X<|U ?_
  refine zh rfl (fun c27 => ?_) (fun c27 => ?_)
  ·
   refine W.sr<|v_asL X X<|Y<|zk<|zd<|O Tryz.results70 ?_
   refine ⟨hE22, _, rfl, st25.done, ?_⟩
   refine ⟨_, rfl, Sl.to (Sl.nil _ _) ?_⟩
   have q : lineAt t p = none := line_none1 (by
    have q := g7
    simp [inAll, inB] at q
    omega)
   simp [q]
  ·
   cases c27
 ·
  have g7_r := g7
  have q1 : 0 ≤ p.chapter ∧ p.chapter < t.chapters.length := by
   have q := g7
   simp [inAll, inB] at q
   omega
  have hc : ∃ y_, (t.chapters)[p.chapter.toNat]? = some y_ := ⟨_, List.getElem?_eq_getElem (by omega)⟩
  obtain ⟨c, hc⟩ := hc
  obtain ⟨b28, o29, _, he31, hc30, hr_c⟩ := Sl.elem (t_f0.up le4) hc
  obtain ⟨v32, rfl, f33⟩ := hr_c
  have f33_b := f33.le
  refine zZ (er := ([], [], [], [], 0)) (dsts := [5, 6, 7, 8, 9, 10, 11, 12, 13, 14, 15, 16, 17, 18, 19, 20, 21, 22, 23, 24, 25, 26, 27, 28, 29, 30, 31, 32, 33, 34, 35]) st6 Tryz.mixed<|zc 0 [] X t_kr t_kr X X (fun hD wD τD hL hS hO  => (r_mvP X))<|zc 1 [0] X t_kr t_kr X X (fun hD wD τD hL hS hO _ _ => (r_nil_check X))<|zc 2 [0] X t_kr t_kr X X (fun hD wD τD hL hS hO _ _ => (zA X Tryz.underlying183 X Tryz.sizeOf24 X))<|zc 3 [0] X t_kr t_kr X X (fun hD wD τD hL hS hO _ _ => (zA X Tryz.underlying24 X Tryz.sizeOf22 X))<|zc 4 [0] X t_kr t_kr X X (fun hD wD τD hL hS hO _ _ => (zf (j := 0) (hL.sub hS) (t_c.up le4) X X X Tryz.isAgg22))<|zc 5 [0] X t_kr t_kr X X (fun hD wD τD hL hS hO _ _ => (r_len (t_f0.up le4) X Tryz.underlying22))<|zc 6 [0] X t_kr t_kr X X (fun hD wD τD hL hS hO _ _ => (r_sub X X t_om))<|zc 7 [] X t_kr t_kr X X (fun hD wD τD hL hS hO  => (zA X Tryz.underlying30 X Tryz.sizeOf3 X))<|zc 8 [0] X t_kr t_kr X X (fun hD wD τD hL hS hO _ _ => (zf (j := 0) (hL.sub hS) hc5 X X X Tryz.isAgg3)) ?_
  refine zF 9 (.res (fun h' res_ => Sl LInt h' res_ ([(p.chapter)])) (fun _ _ _ hl f => f.up hl)) [0] rfl t_kr t_kr ?_ ?_
  ·
   intro hD wD τD hL hS hO _ _
   have st34 := St.start hS
   refine zG (L := LInt) (xs := [(p.chapter)]) (cs := [.int .i64 (p.chapter)]) st34 (Enc.cons (L := LInt) (vs := [.int .i64 (p.chapter)]) (x := (p.chapter)) (h := hD) (X) Enc.nil) X X X Tryz.underlying46 Tryz.info3 X X X t_kr ?_
   intro v35 w36 h39 le40 f37 st38
   exact zj ⟨_, _, rfl, st38, _, rfl, f37⟩
  refine zF 10 (.det (.bool (inAll (([(p.chapter)])) (0) (((t.chapters.length : Int) - 1))))) [3, 0] rfl t_kr t_kr ?_ ?_
  ·
   intro hD wD τD hL hS hO _ _ gv9_0 gf9_0
   have st41 := St.start hS
   refine za st41 X X X Tryz.call109 X (c_leaf_in st41.sub _ _ gf9_0) ?_
   intro r42 w43 h44 le45 st46 q47
   obtain rfl := q47
   exact zj ⟨_, _, rfl, st46, (), rfl, trivial⟩
  refine zc 11 [0] X t_kr t_kr X X (fun hD wD τD hL hS hO _ _ => (Run.lit (r_not X) g7_r))<|zc 12 [0, 1] X t_kr t_kr X X (fun hD wD τD hL hS hO _ _ _ _ => (r_mvB X))<|zM 13 [0] X t_kr t_kr X X X (fun hD wD τD hL hS hO _ _ => ⟨rfl, (r_mvP X)⟩)<|zM 14 [0, 1] X t_kr t_kr X X X (fun hD wD τD hL hS hO _ _ _ _ => ⟨rfl, (r_nil_check X)⟩)<|zM 15 [0, 2] X t_kr t_kr X X X (fun hD wD τD hL hS hO _ _ _ _ => ⟨rfl, (zA X Tryz.underlying183 X Tryz.sizeOf24 X)⟩)<|zM 16 [0, 3] X t_kr t_kr X X X (fun hD wD τD hL hS hO _ _ _ _ => ⟨rfl, (zA X Tryz.underlying24 X Tryz.sizeOf22 X)⟩)<|zM 17 [0, 4] X t_kr t_kr X X X (fun hD wD τD hL hS hO _ _ _ _ => ⟨rfl, (zf (j := 0) (hL.sub hS) (t_c.up le4) X X X Tryz.isAgg22)⟩)<|zM 18 [5] X t_kr t_kr X X X (fun hD wD τD hL hS hO _ _ => ⟨rfl, (zA X Tryz.underlying30 X Tryz.sizeOf3 X)⟩)<|zM 19 [0, 6] X t_kr t_kr X X X (fun hD wD τD hL hS hO _ _ _ _ => ⟨rfl, (zf (j := 0) (hL.sub hS) hc5 X X X Tryz.isAgg3)⟩) ?_
  refine zM 20 [2, 0, 7] rfl t_kr t_kr rfl rfl rfl (fun hD wD τD hL hS hO _ _ _ _ _ _ => ⟨rfl, (zQ he31 rfl rfl (hk := (show _ = ((p.chapter.toNat : Nat) : Int) by omega)) (hu := Tryz.underlying22) (hz := Tryz.sizeOf133))⟩) ?_
  refine zM 21 [0, 8] X t_kr t_kr X X X (fun hD wD τD hL hS hO _ _ _ _ => ⟨rfl, (zA X Tryz.underlying133 X Tryz.sizeOf131 X)⟩)<|zM 22 [0, 9] X t_kr t_kr X X X (fun hD wD τD hL hS hO _ _ _ _ => ⟨rfl, (zf (j := 1) (hL.sub hS) hc30 X X X Tryz.isAgg131)⟩)<|zM 23 [0, 10] X t_kr t_kr X X X (fun hD wD τD hL hS hO _ _ _ _ => ⟨rfl, (r_len f33 X Tryz.underlying131)⟩)<|zM 24 [0, 11] X t_kr t_kr X X X (fun hD wD τD hL hS hO _ _ _ _ => ⟨rfl, (r_sub X X t_om)⟩)<|zM 25 [12] X t_kr t_kr X X X (fun hD wD τD hL hS hO _ _ => ⟨rfl, (zA X Tryz.underlying30 X Tryz.sizeOf3 X)⟩)<|zM 26 [0, 13] X t_kr t_kr X X X (fun hD wD τD hL hS hO _ _ _ _ => ⟨rfl, (zf (j := 1) (hL.sub hS) hc5 X X X Tryz.isAgg3)⟩) ?_
  refine zF 27 (.res (fun h' res_ => Sl LInt h' res_ ([(p.line)])) (fun _ _ _ hl f => f.up hl)) [0, 14] rfl t_kr t_kr ?_ ?_
  ·
   intro hD wD τD hL hS hO _ _ _ _
   have st48 := St.start hS
   refine Z X X (d := 17) X<|zG (L := LInt) (xs := [(p.line)]) (cs := [.int .i64 (p.line)]) st48 (Enc.cons (L := LInt) (vs := [.int .i64 (p.line)]) (x := (p.line)) (h := hD) (X) Enc.nil) X X X Tryz.underlying46 Tryz.info3 X X X t_kr ?_
   intro v49 w50 h53 le54 f51 st52
   exact zj ⟨_, _, rfl, st52, _, rfl, f51⟩
  refine zF 28 (.det (.bool (inAll (([(p.line)])) (0) (((c.lines.length : Int) - 1))))) [3, 0, 15] rfl t_kr t_kr ?_ ?_
  ·
   intro hD wD τD hL hS hO _ _ gv27_0 gf27_0 _ _
   have st55 := St.start hS
   refine Z X X (d := 17) X<|za st55 X X X Tryz.call109 X (c_leaf_in st55.sub _ _ gf27_0) ?_
   intro r56 w57 h58 le59 st60 q61
   obtain rfl := q61
   exact zj ⟨_, _, rfl, st60, (), rfl, trivial⟩
  refine zM 29 [0, 16] X t_kr t_kr X X X (fun hD wD τD hL hS hO _ _ _ _ => ⟨rfl, (r_not X)⟩)<|zc 30 [17, 0] X t_kr t_kr X X (fun hD wD τD hL hS hO _ _ _ _ => (r_pickF (v := (.bool _)) X X))<|Drw.nil X X X X X X ⟨t_kr, X, t_kr, X, t_kr, X, X, t_kr, cx_nil⟩ ?_
  intro hE62 w63 _ le64 st65 _ _ _ _ _ _ _ _ _ _ _ _ _ _ _ _ _ _ gv9_0x66 gf9_0x66 _ _ _ _ _ _ _ _ _ _ _ _ _ _ _ _ _ _ _ _ _ _ _ _ _ _ _ _ _ _ _ _ _ _ gv27_0x66 gf27_0x66 _ _ _ _ _ _
  refine AllDeps.fin X<|U ?_
  refine zh rfl (fun c67 => ?_) (fun c67 => ?_)
  ·
   refine W.sr<|v_asL X X<|Y<|zk<|zd<|O Tryz.results70 ?_
   refine ⟨hE62, _, rfl, st65.done, ?_⟩
   refine ⟨_, rfl, Sl.to (Sl.nil _ _) ?_⟩
   have q : lineAt t p = none := line_none2 hc (by
    have q := c67
    simp [inAll, inB] at q
    omega)
   simp [q]
  ·
   refine zo<|U<|zg ?_
   have q1 : 0 ≤ p.chapter ∧ p.chapter < t.chapters.length ∧ 0 ≤ p.line ∧ p.line < c.lines.length := by
    have q := g7
    have q0 := c67
    simp [inAll, inB] at q q0
    omega
   refine W.regionQ Tryz.mixed t_kr (Cls hE62 _) (Cls.drew st65)<|u_mvP X X<|zt X X (fun _ _ => (r_nil_check X))<|u_field_addr X Tryz.underlying183 X Tryz.sizeOf24 X X<|u_field_addr X Tryz.underlying24 X Tryz.sizeOf22 X X<|zt X X (fun _ hC => (zf (j := 0) hC.sub (t_c.up (le4.trans le64)) X X X Tryz.isAgg22))<|u_field_addr X Tryz.underlying30 X Tryz.sizeOf3 X X<|zt X X (fun _ hC => (zf (j := 0) hC.sub (hc5.up le64) X X X Tryz.isAgg3)) ?_
   refine zt rfl rfl (fun _ _ => (zQ he31 rfl rfl (hk := (show _ = ((p.chapter.toNat : Nat) : Int) by omega)) (hu := Tryz.underlying22) (hz := Tryz.sizeOf133))) ?_
   refine u_field_addr X Tryz.underlying133 X Tryz.sizeOf131 X X<|zt X X (fun _ hC => (zf (j := 1) hC.sub (hc30.up le64) X X X Tryz.isAgg131))<|u_field_addr X Tryz.underlying30 X Tryz.sizeOf3 X X<|zt X X (fun _ hC => (zf (j := 1) hC.sub (hc5.up le64) X X X Tryz.isAgg3)) ?_
   have hln : ∃ y_, (c.lines)[p.line.toNat]? = some y_ := ⟨_, List.getElem?_eq_getElem (by omega)⟩
   obtain ⟨ln, hln⟩ := hln
   obtain ⟨b68, o69, _, he71, hc70, hr_ln⟩ := Sl.elem (f33.up le64) hln
   obtain ⟨v72, rfl, f73⟩ := hr_ln
   have f73_b := f73.le
   refine zt rfl rfl (fun _ _ => (zQ he71 rfl rfl (hk := (show _ = ((p.line.toNat : Nat) : Int) by omega)) (hu := Tryz.underlying131) (hz := Tryz.sizeOf62))) ?_
   refine zt X X (fun _ hC => (zf (j := 0) hC.sub hc70 X X X Tryz.isAgg62))<|u_assign (v := v72) X X<|OpsQ.nil ?_
   rintro w74 ⟨h75, s76⟩
   have st77 := st65.call0 s76
   refine U<|zk<|O Tryz.results70 ?_
   refine ⟨h75, _, rfl, st77.done, ?_⟩
   refine ⟨_, rfl, Sl.to (f73.up s76.le) ?_⟩
   rw [line_some hc q1.1 hln q1.2.2.1]; rfl
set_option maxRecDepth 4000 in
theorem c_leaf_book_has {h : Heap} {w : World} (hs : Sub h w) {t_b : Nat} {t : Text} {t_v0 : Value} (t_f0 : Sl LChapter h t_v0 t.chapters) (t_c : Cells h t_b 0 [t_v0]) {p : Place} : Calls Tryz.prog 108 #[.pointer (some ⟨t_b, 0, none⟩), .agg #[.int .i64 p.chapter, .int .i64 p.line, .int .i64 p.word]] w (Rets h w (fun _ _ res_ => res_ = .bool (placeB t p))) := by
 refine zx (n := 14) (args := [.pointer (some ⟨t_b, 0, none⟩), .agg #[.int .i64 p.chapter, .int .i64 p.line, .int .i64 p.word]]) Tryz.func108 X X X ?_
 have st0 : St h w h w [] := St.start hs
 have t_f0_b := t_f0.le
 refine W.sr<|zl st0 (cs := [.int .i64 (p.chapter), .int .i64 (p.line), .int .i64 (p.word)]) X X X ?_
 intro b1 w2 h3 le4 hc5 st6
 refine v_asB X X<|Y<|zg ?_
 have qb := line_le t_f0 p
 refine zZ (er := ([], [], [], [], 0)) (dsts := [5, 6, 7, 8, 9, 10, 11, 12, 13, 4]) st6 Tryz.mixed<|zc 0 [] X t_kr t_kr X X (fun hD wD τD hL hS hO  => (r_mvP X))<|zc 1 [] X t_kr t_kr X X (fun hD wD τD hL hS hO  => (zB (hL.sub hS) hc5 X Tryz.isAgg30 Tryz.sizeOf30 X)) ?_
 refine zF 2 (.res (fun h' res_ => Sl LStr h' res_ ((lineAt (t) (p)).getD [])) (fun _ _ _ hl f => f.up hl)) [1, 0] rfl t_kr t_kr ?_ ?_
 ·
  intro hD wD τD hL hS hO _ _ _ _
  have st7 := St.start hS
  refine za st7 X X X Tryz.call70 X (c_leaf_book_line st7.sub (t := t) (t_f0.up (le4.trans hL)) (t_c.up (le4.trans hL)) (p := p)) ?_
  intro r8 w9 h10 le11 st12 q13
  obtain ⟨v14, e16, f15⟩ := q13
  rw [← e16] at f15
  have f15_b := f15.le
  exact zj ⟨_, _, rfl, st12, _, rfl, f15⟩
 refine zF 3 (.det (.int .i64 (((lineAt (t) (p)).getD []).length : Int))) [0] rfl t_kr t_kr ?_ ?_
 ·
  intro hD wD τD hL hS hO gv2_0 gf2_0
  have st17 := St.start hS
  refine v_len gf2_0 X Tryz.underlying62 X ?_
  exact zj ⟨_, _, rfl, st17, (), rfl, trivial⟩
 refine zc 4 [0] X t_kr t_kr X X (fun hD wD τD hL hS hO _ _ => (r_sub X X t_om))<|zc 5 [] X t_kr t_kr X X (fun hD wD τD hL hS hO  => (zA X Tryz.underlying30 X Tryz.sizeOf3 X))<|zc 6 [0] X t_kr t_kr X X (fun hD wD τD hL hS hO _ _ => (zf (j := 2) (hL.sub hS) hc5 X X X Tryz.isAgg3)) ?_
 refine zF 7 (.res (fun h' res_ => Sl LInt h' res_ ([(p.word)])) (fun _ _ _ hl f => f.up hl)) [0] rfl t_kr t_kr ?_ ?_
 ·
  intro hD wD τD hL hS hO _ _
  have st18 := St.start hS
  refine zG (L := LInt) (xs := [(p.word)]) (cs := [.int .i64 (p.word)]) st18 (Enc.cons (L := LInt) (vs := [.int .i64 (p.word)]) (x := (p.word)) (h := hD) (X) Enc.nil) X X X Tryz.underlying46 Tryz.info3 X X X t_kr ?_
  intro v19 w20 h23 le24 f21 st22
  exact zj ⟨_, _, rfl, st22, _, rfl, f21⟩
 refine zF 8 (.det (.bool (inAll (([(p.word)])) (0) (((((lineAt (t) (p)).getD []).length : Int) - 1))))) [3, 0, 5] rfl t_kr t_kr ?_ ?_
 ·
  intro hD wD τD hL hS hO _ _ gv7_0 gf7_0 gv2_0 gf2_0
  have st25 := St.start hS
  refine za st25 X X X Tryz.call109 X (c_leaf_in st25.sub _ _ gf7_0) ?_
  intro r26 w27 h28 le29 st30 q31
  obtain rfl := q31
  exact zj ⟨_, _, rfl, st30, (), rfl, trivial⟩
 refine zc 9 [8, 7, 6, 5, 4, 3, 2, 1, 0] X t_kr t_kr X X (fun hD wD τD hL hS hO _ _ _ _ gv2_0 gf2_0 _ _ _ _ _ _ _ _ gv7_0 gf7_0 _ _ => (r_asB X))<|Drw.nil X X X X X X ⟨t_kr, X, t_kr, X, t_kr, X, X, t_kr, cx_nil⟩ ?_
 intro hE32 w33 _ le34 st35 _ _ _ _ gv2_0x36 gf2_0x36 _ _ _ _ _ _ _ _ gv7_0x36 gf7_0x36 _ _ _ _
 refine AllDeps.fin X<|U<|zk<|O Tryz.results108 ?_
 refine ⟨hE32, _, rfl, st35.done, ?_⟩
 refine zn ?_
 rw [place_eq]
 cases hq : lineAt t p with
 | none => simp [inAll, inB]; omega
 | some l => simp [inAll]
set_option maxRecDepth 4000 in
theorem c_leaf_placed {h : Heap} {w : World} (hs : Sub h w) {t : Text} {t_v0 : Value} (t_f0 : Sl LChapter h t_v0 t.chapters) {p : Place} : Calls Tryz.prog 69 #[.agg #[t_v0], .agg #[.int .i64 p.chapter, .int .i64 p.line, .int .i64 p.word]] w (Rets h w (fun h' _ res_ => ∃ u0, res_ = .tuple #[u0, .int .i64 ((if textB t && placeB t p then 0 else if textB t then 12 else 10))] ∧ Box LText h' (textB t && placeB t p) t u0)) := by
 refine zx (n := 21) (args := [.agg #[t_v0], .agg #[.int .i64 p.chapter, .int .i64 p.line, .int .i64 p.word]]) Tryz.func69 X X X ?_
 have st0 : St h w h w [] := St.start hs
 have t_f0_b := t_f0.le
 refine W.sr<|zl st0 (cs := [t_v0]) X X X ?_
 intro b1 w2 h3 le4 hc5 st6
 refine zl st6 (cs := [.int .i64 (p.chapter), .int .i64 (p.line), .int .i64 (p.word)]) X X X ?_
 intro b7 w8 h9 le10 hc11 st12
 refine v_assign X X<|v_asI X X<|Y<|W.sr<|v_load_call st12.sub (hc5.up le10) X Tryz.isAgg24 Tryz.sizeOf24 X X<|za st12 X X X Tryz.call92 X (c_leaf_open st12.sub (t := t) (t_f0.up (le4.trans le10))) ?_
 intro r13 w14 h15 le16 st17 q18
 rcases Bool.eq_false_or_eq_true (textB (t)) with hb19 | hb19
 ·
  simp only [hb19, if_true, if_false, Bool.false_eq_true, reduceIte] at q18
  obtain ⟨v20, rfl, f21⟩ := q18
  obtain ⟨b22, vs23, rfl, hc24, hr25⟩ := f21
  obtain ⟨v26, rfl, f27⟩ := hr25
  have f27_b := f27.le
  refine v_mvT X X<|v_extract (v := (.pointer (some _))) X X X<|v_extract (v := (.int _ _)) X X X<|v_asP X X<|v_asI X X<|Y<|zg<|W.sr<|v_mvI X X<|v_neq X X X<|Y ?_
  refine zh rfl (fun c28 => ?_) (fun c28 => ?_)
  ·
   exact absurd c28 (by decide)
  ·
   refine zo<|U<|zg<|W.sr<|v_mvP X X<|v_load_call st17.sub (hc11.up le16) X Tryz.isAgg30 Tryz.sizeOf30 X X<|za st17 X X X Tryz.call108 X (c_leaf_book_has st17.sub (t := (t)) f27 hc24 (p := p)) ?_
   intro r29 w30 h31 le32 st33 q34
   obtain rfl := q34
   refine v_not X X<|Y ?_
   refine zh rfl (fun c35 => ?_) (fun c35 => ?_)
   ·
    refine W.sr<|v_assign X X<|v_asI X X<|Y<|zk<|zd<|zH Tryz.results69 ?_
    refine ⟨h31, _, rfl, st33.done, ?_⟩
    refine ⟨_, tup2 rfl (zC ?_), Box.nil ?_⟩
    ·simp_all
    ·simp_all
   ·
    refine zo<|U<|W.sr<|v_mvP X X<|v_asP X X<|v_asI X X<|Y<|zk<|zH Tryz.results69 ?_
    refine ⟨h31, _, rfl, st33.done, ?_⟩
    refine ⟨_, tup2 rfl (zC ?_), Box.some ?_ (hc24.up le32) ⟨_, rfl, (f27.up le32)⟩⟩
    ·simp_all
    ·simp_all
 ·
  simp only [hb19, if_true, if_false, Bool.false_eq_true, reduceIte] at q18
  obtain ⟨v36, rfl, f37⟩ := q18
  obtain rfl := f37
  refine v_mvT X X<|v_extract (v := (.pointer none)) X X X<|v_extract (v := (.int _ _)) X X X<|v_assign X X<|v_asI X X<|Y<|zg<|W.sr<|v_mvI X X<|v_neq X X X<|Y ?_
  refine zh rfl (fun c38 => ?_) (fun c38 => ?_)
  ·
   refine W.sr<|v_mvI X X<|v_assign X X<|v_asI X X<|Y<|zk<|zd<|zH Tryz.results69 ?_
   refine ⟨h15, _, rfl, st17.done, ?_⟩
   refine ⟨_, tup2 rfl (zC ?_), Box.nil ?_⟩
   ·simp_all
   ·simp_all
  ·
   exact absurd c38 (by decide)
set_option maxRecDepth 4000 in
theorem c_leaf_At {h : Heap} {w : World} (hs : Sub h w) {t : Text} {t_v0 : Value} (t_f0 : Sl LChapter h t_v0 t.chapters) {p : Place} : Calls Tryz.prog 20 #[.agg #[t_v0], .agg #[.int .i64 p.chapter, .int .i64 p.line, .int .i64 p.word]] w (Rets h w (fun _ _ res_ => res_ = .tuple #[strV ((if textB t then (wordAt t p).getD [] else [])), .int .i64 ((if textB t && placeB t p then 0 else if textB t then 12 else 10))])) := by
 refine zx (n := 24) (args := [.agg #[t_v0], .agg #[.int .i64 p.chapter, .int .i64 p.line, .int .i64 p.word]]) Tryz.func20 X X X ?_
 have st0 : St h w h w [] := St.start hs
 have t_f0_b := t_f0.le
 refine W.sr<|zl st0 (cs := [t_v0]) X X X ?_
 intro b1 w2 h3 le4 hc5 st6
 refine zl st6 (cs := [.int .i64 (p.chapter), .int .i64 (p.line), .int .i64 (p.word)]) X X X ?_
 intro b7 w8 h9 le10 hc11 st12
 refine v_asS X X<|v_asI X X<|Y<|W.sr<|v_load_call st12.sub (hc5.up le10) X Tryz.isAgg24 Tryz.sizeOf24 X X<|v_load_call st12.sub hc11 X Tryz.isAgg30 Tryz.sizeOf30 X X<|za st12 X X X Tryz.call69 X (c_leaf_placed st12.sub (t := t) (t_f0.up (le4.trans le10)) (p := p)) ?_
 intro r13 w14 h15 le16 st17 q18
 rcases Bool.eq_false_or_eq_true (textB (t) && placeB (t) (p)) with hb19 | hb19
 ·
  simp only [hb19, if_true, if_false, Bool.false_eq_true, reduceIte] at q18
  obtain ⟨v20, rfl, f21⟩ := q18
  obtain ⟨b22, vs23, rfl, hc24, hr25⟩ := f21
  obtain ⟨v26, rfl, f27⟩ := hr25
  have f27_b := f27.le
  refine v_mvT X X<|v_extract (v := (.pointer (some _))) X X X<|v_extract (v := (.int _ _)) X X X<|v_asP X X<|v_asI X X<|Y<|zg<|W.sr<|v_mvI X X<|v_neq X X X<|Y ?_
  refine zh rfl (fun c28 => ?_) (fun c28 => ?_)
  ·
   exact absurd c28 (by decide)
  ·
   refine zo<|U<|zg ?_
   have q1 : placeB t p = true := by simp_all
   have q2 := place_eq t p
   have q3 : 0 ≤ p.word ∧ p.word < (((lineAt t p).getD []).length : Int) := by
    rw [q1] at q2
    simp [inB] at q2
    omega
   have hwd : ∃ y_, (((lineAt ((t)) (p)).getD []))[p.word.toNat]? = some y_ := ⟨_, List.getElem?_eq_getElem (by omega)⟩
   obtain ⟨wd, hwd⟩ := hwd
   refine zZ (er := ([], [], [], [], 0)) (dsts := [17, 18, 19, 20, 21, 22, 23, 4, 5]) st17 Tryz.mixed<|zc 0 [] X t_kr t_kr X X (fun hD wD τD hL hS hO  => (r_mvP X))<|zc 1 [] X t_kr t_kr X X (fun hD wD τD hL hS hO  => (zB (hL.sub hS) (hc11.up le16) X Tryz.isAgg30 Tryz.sizeOf30 X)) ?_
   refine zF 2 (.res (fun h' res_ => Sl LStr h' res_ ((lineAt ((t)) (p)).getD [])) (fun _ _ _ hl f => f.up hl)) [1, 0] rfl t_kr t_kr ?_ ?_
   ·
    intro hD wD τD hL hS hO _ _ _ _
    have st29 := St.start hS
    refine za st29 X X X Tryz.call70 X (c_leaf_book_line st29.sub (t := (t)) (f27.up hL) (hc24.up hL) (p := p)) ?_
    intro r30 w31 h32 le33 st34 q35
    obtain ⟨v36, e38, f37⟩ := q35
    rw [← e38] at f37
    have f37_b := f37.le
    exact zj ⟨_, _, rfl, st34, _, rfl, f37⟩
   refine zc 3 [] X t_kr t_kr X X (fun hD wD τD hL hS hO  => (zA X Tryz.underlying30 X Tryz.sizeOf3 X))<|zc 4 [0] X t_kr t_kr X X (fun hD wD τD hL hS hO _ _ => (zf (j := 2) (hL.sub hS) (hc11.up le16) X X X Tryz.isAgg3)) ?_
   refine zF 5 (.res (fun h' res_ => ∃ b o, res_ = .pointer (some ⟨b, o, none⟩) ∧ Cells h' b o [strV wd]) (by rintro _ _ _ hl ⟨b, o, e, c⟩; exact ⟨b, o, e, c.up hl⟩)) [2, 0] rfl t_kr t_kr ?_ ?_
   ·
    intro hD wD τD hL hS hO gv2_0 gf2_0 _ _
    have st39 := St.start hS
    obtain ⟨b_, o_, _, he_, hc_, hr_⟩ := Sl.elem gf2_0 hwd
    obtain ⟨rfl, ls40⟩ := hr_
    simp only [big] at ls40
    refine ze rfl rfl (zQ he_ rfl rfl (hk := (show _ = ((p.word.toNat : Nat) : Int) by omega)) (hu := Tryz.underlying62) (hz := Tryz.sizeOf9)) ?_
    exact zj ⟨_, _, rfl, st39, _, rfl, _, _, rfl, hc_⟩
   refine zF 6 (.det (strV wd)) [0] rfl t_kr t_kr ?_ ?_
   ·
    intro hD wD τD hL hS hO gv5_ gf5_
    obtain ⟨gb5, go5, rfl, gc5⟩ := gf5_
    have st41 := St.start hS
    refine v_load_cells1 (j := 0) hS gc5 X X X Tryz.isAgg9 X ?_
    exact zj ⟨_, _, rfl, st41, (), rfl, trivial⟩
   refine zc 7 [6, 5, 4, 3, 2, 1, 0] X t_kr t_kr X X (fun hD wD τD hL hS hO _ _ _ _ gv2_0 gf2_0 _ _ _ _ gv5_ gf5_ _ _ => (r_asS X))<|zc 8 [7, 6, 5, 4, 3, 2, 1, 0] X t_kr t_kr X X (fun hD wD τD hL hS hO _ _ _ _ gv2_0 gf2_0 _ _ _ _ gv5_ gf5_ _ _ _ _ => (r_asI X))<|Drw.nil X X X X X X ⟨t_kr, X, t_kr, X, t_kr, X, X, t_kr, cx_nil⟩ ?_
   intro hE42 w43 _ le44 st45 _ _ _ _ gv2_0x46 gf2_0x46 _ _ _ _ gv5_x46 gf5_x46 _ _ _ _ _ _
   obtain ⟨gb5x46, go5x46, rfl, gc5x46⟩ := gf5_x46
   refine AllDeps.fin X<|U<|zk<|zH Tryz.results20 ?_
   refine ⟨hE42, _, rfl, st45.done, ?_⟩
   refine tup2 (str_eq ?_) (zC ?_)
   all_goals have qq : textB t = true ∧ placeB t p = true := by simp_all
   ·simp [qq.1, word_some qq.2 hwd]
   ·simp [qq.1, qq.2]
 ·
  simp only [hb19, if_true, if_false, Bool.false_eq_true, reduceIte] at q18
  obtain ⟨v47, rfl, f48⟩ := q18
  obtain rfl := f48
  refine v_mvT X X<|v_extract (v := (.pointer none)) X X X<|v_extract (v := (.int _ _)) X X X<|v_assign X X<|v_asI X X<|Y<|zg<|W.sr<|v_mvI X X<|v_neq X X X<|Y ?_
  refine zh rfl (fun c49 => ?_) (fun c49 => ?_)
  ·
   replace c49 := of_decide_eq_true c49
   refine W.sr<|v_mvI X X<|v_asS X X<|v_asI X X<|Y<|zk<|zd<|zH Tryz.results20 ?_
   refine ⟨h15, _, rfl, st17.done, ?_⟩
   refine tup2 (str_eq ?_) (zC ?_)
   all_goals have qq : textB t = true → placeB t p = false := by simp_all
   ·cases q0 : textB t
    ·rfl
    ·simp [word_none (qq q0)]
   ·cases q0 : textB t
    ·rfl
    ·simp [qq q0]
  ·
   replace c49 := of_decide_eq_false c49
   exfalso
   revert c49
   split <;> simp
end Go.Pk

namespace Go.Pk
open Go Go.RowKit Go.Proofs
set_option maxRecDepth 4000 in
theorem c_strings_indexFunc {s : Str} (hlen : s.length ≤ 281474976710656) {g : FuncId} {caps : List Value} (p : Int → Bool) (hp : ∀ x : Int, 128 ≤ x → p x = true)
  (hf : ∀ (x : Int) h w, Sub h w → Calls Tryz.prog g (.int .i32 x :: caps).toArray w (Rets h w fun _ _ r => r = .bool (p x)))
  (hg : ∀ a w, (callFunc g a).run Tryz.prog w = .ok (.enter g a) w) {h : Heap} {w : World} (hs : Sub h w) :
  Calls Tryz.prog 208 #[strV s, .func (.func g) #[] caps.toArray, .bool true] w (Rets h w fun _ _ r => ∃ k : Int, r = .int .i64 k ∧ (0 ≤ k ↔ (s.any fun c => p (c.toNat : Int)) = true)) := by
 refine zx (n := 21) (args := [strV s, .func (.func g) #[] caps.toArray, .bool true]) Tryz.func208 X X X ?_
 have st0 : St h w h w [] := St.start hs
 refine W.sr<|v_asI X X<|Y<|zg<|W.sr<|v_mvS X X<|OpsL.rangeS st0 X Tryz.underlying9 X ?_
 intro b w1 st1
 refine Y<|zr ?_
 refine zN [7, 8, 11, 12, 13, 14, 15, 16, 17, 18, 19, 20, 6] (G := Nat × Heap) (fun ⟨k, _⟩ => []) (fun ⟨k, h'⟩ w' => Le h h' ∧ St h w h' w' [[(b, .stringIter ⟨s.toArray⟩ k)]] ∧ k ≤ s.length ∧ ∀ j c, j < k → s[j]? = some c → p (c.toNat : Int) = false) (fun ⟨k, _⟩ => s.length - k) ⟨0, h⟩ trivial ⟨Le.refl _, st1, by omega, by intros; omega⟩ ?_
 rintro ⟨k, h2⟩ _ w2 ⟨le2, st2, hk, hall⟩
 rcases Nat.lt_or_ge k s.length with hlt | hge
 ·obtain ⟨c, hc⟩ : ∃ c, s[k]? = some c := ⟨_, List.getElem?_eq_getElem hlt⟩
  refine W.sr<|OpsL.nextS st2 (k := 0) X X hc X ?_
  intro w3 st3
  generalize hR : Utf8.decode ⟨s.toArray⟩ k = R at st3
  refine v_extract (v := .bool _) X X X<|Y<|zg ?_
  refine zh rfl (fun c1 => ?_) (fun c1 => ?_)
  ·refine zo ?_
   refine U<|zr<|W.sr<|v_extract (v := .int _ _) X X X<|v_extract (v := .int _ _) X X X<|v_asI X X<|v_asI X X<|Y<|W.sr<|v_mvF X X<|v_mvI X X ?_
   refine zD rfl rfl (zaa (fs := []) (cs := caps) rfl rfl hg rfl) ((hf (R.1 : Int) h2 w3 st3.sub).mono ?_)
   rintro e w4 ⟨h4, r4, rfl, s4, rfl⟩
   refine ⟨_, rfl, ?_⟩
   have st4 := st3.call0 s4
   refine v_mvB X X<|ze X X (r_beql X X Tryz.underlying4)<|Y ?_
   refine zh rfl (fun c2 => ?_) (fun c2 => ?_)
   ·have c3 : p (R.1 : Int) = true := by simpa using c2
    refine W.sr<|v_mvI X X<|v_asI X X<|Y<|zk ?_
    repeat (first | refine zw ?_ | refine zd ?_)
    refine O Tryz.results208 ?_
    refine ⟨h4, _, rfl, st4.done, (k : Int), rfl, ⟨fun _ => ?_, fun _ => by omega⟩⟩
    rw [List.any_eq_true]
    refine ⟨c, List.mem_of_getElem? hc, ?_⟩
    by_cases hl : c.toNat < 128
    ·rw [decode_low hc hl] at hR; subst hR; exact c3
    ·exact hp _ (by omega)
   ·have c3 : p (R.1 : Int) = false := by simpa using c2
    have hl : c.toNat < 128 := by
     rcases Nat.lt_or_ge c.toNat 128 with h5 | h5
     ·exact h5
     ·have q := decode_high hc (by omega)
      rw [hR] at q
      rw [hp _ (by omega)] at c3; cases c3
    rw [decode_low hc hl] at hR
    subst hR
    refine zo<|zz ?_
    refine ⟨⟨k + 1, h4⟩, trivial, ?_, ⟨le2.trans s4.le, st4, by omega, ?_⟩, ?_⟩
    ·exact zR
    ·intro j d hj hd
     rcases Nat.lt_or_ge j k with h3 | h3
     ·exact hall j d h3 hd
     ·obtain rfl : j = k := by omega
      rw [hc] at hd; cases hd
      exact c3
    ·show s.length - (k + 1) < s.length - k
     omega
  ·cases c1
 ·refine zg ?_
  refine zm<|OpsL.nextE st2 (k := 0) X X hge X<|v_extract (v := .bool _) X X X<|Y<|zg ?_
  refine zh rfl (fun c1 => ?_) (fun c1 => ?_)
  ·cases c1
  ·refine zP ?_
   refine zi<|zi<|zJ<|U<|W.sr<|v_asI X X<|Y<|zk<|O Tryz.results208 ?_
   refine ⟨h2, _, rfl, st2.done, _, rfl, ⟨fun q => absurd q (by decide), fun q => ?_⟩⟩
   rw [List.any_eq_true] at q
   obtain ⟨c, hc, hpc⟩ := q
   obtain ⟨j, hj⟩ := List.mem_iff_getElem?.1 hc
   have hjl := (List.getElem?_eq_some_iff.1 hj).1
   rw [hall j c (by omega) hj] at hpc; cases hpc
set_option maxRecDepth 4000 in
theorem c_strings_IndexFunc {s : Str} (hlen : s.length ≤ 281474976710656) {g : FuncId} {caps : List Value} (p : Int → Bool) (hp : ∀ x : Int, 128 ≤ x → p x = true)
  (hf : ∀ (x : Int) h w, Sub h w → Calls Tryz.prog g (.int .i32 x :: caps).toArray w (Rets h w fun _ _ r => r = .bool (p x)))
  (hg : ∀ a w, (callFunc g a).run Tryz.prog w = .ok (.enter g a) w) {h : Heap} {w : World} (hs : Sub h w) :
  Calls Tryz.prog 169 #[strV s, .func (.func g) #[] caps.toArray] w (Rets h w fun _ _ r => ∃ k : Int, r = .int .i64 k ∧ (0 ≤ k ↔ (s.any fun c => p (c.toNat : Int)) = true)) := by
 refine zx (n := 8) (args := [strV s, .func (.func g) #[] caps.toArray]) Tryz.func169 X X X ?_
 have st0 : St h w h w [] := St.start hs
 refine W.sr<|v_asI X X<|Y<|W.sr<|v_mvS X X<|v_mvF X X<|za st0 X X X Tryz.call208 X (c_strings_indexFunc hlen p hp hf hg st0.sub) ?_
 rintro v w1 h1 le1 st1 ⟨k, rfl, hk⟩
 refine v_asI X X<|Y<|zk<|O Tryz.results169 ?_
 exact ⟨h1, _, rfl, st1.done, k, rfl, hk⟩
set_option maxRecDepth 4000 in
theorem c_strings_ContainsFunc {s : Str} (hlen : s.length ≤ 281474976710656) {g : FuncId} {caps : List Value} (p : Int → Bool) (hp : ∀ x : Int, 128 ≤ x → p x = true)
  (hf : ∀ (x : Int) h w, Sub h w → Calls Tryz.prog g (.int .i32 x :: caps).toArray w (Rets h w fun _ _ r => r = .bool (p x)))
  (hg : ∀ a w, (callFunc g a).run Tryz.prog w = .ok (.enter g a) w) {h : Heap} {w : World} (hs : Sub h w) :
  Calls Tryz.prog 111 #[strV s, .func (.func g) #[] caps.toArray] w (Rets h w fun _ _ r => r = .bool (s.any fun c => p (c.toNat : Int))) := by
 refine zx (n := 9) (args := [strV s, .func (.func g) #[] caps.toArray]) Tryz.func111 X X X ?_
 have st0 : St h w h w [] := St.start hs
 refine W.sr<|v_asB X X<|Y<|W.sr<|v_mvS X X<|v_mvF X X<|za st0 X X X Tryz.call169 X (c_strings_IndexFunc hlen p hp hf hg st0.sub) ?_
 rintro v w1 h1 le1 st1 ⟨k, rfl, hk⟩
 refine v_geq X X X<|v_asB X X<|Y<|zk<|O Tryz.results111 ?_
 refine ⟨h1, _, rfl, st1.done, zn ?_⟩
 rw [Bool.eq_iff_iff, decide_eq_true_eq]
 exact hk
end Go.Pk

namespace Go.Pk
open Go Go.RowKit Go.Proofs
set_option maxRecDepth 4000 in
theorem c_stem_letters_1 {h : Heap} {w : World} (hs : Sub h w) (c : Int) : Calls Tryz.prog 112 #[.int .i32 c] w (Rets h w (fun _ _ res_ => res_ = .bool ((decide (c < 97) || decide (122 < c))))) := by
 refine zx (n := 9) (args := [.int .i32 c]) Tryz.func112 X X X ?_
 have st0 : St h w h w [] := St.start hs
 refine W.sr<|v_asB X X<|Y<|W.sr<|v_mvI X X<|v_lss X X X<|v_mvB X X ?_
 refine zp (d := 5) rfl (fun g1 => ?_) (fun g1 => ?_)
 ·
  replace g1 := of_decide_eq_true g1
  refine M X X X X X<|M X X X X X<|v_pickT (v := (.bool _)) X X X<|v_asB X X<|Y<|zk<|O Tryz.results112 ?_
  refine ⟨h, _, rfl, st0.done, ?_⟩
  refine zn ?_
  first | (simp_all; done) | (simp_all; omega)
 ·
  replace g1 := of_decide_eq_false g1
  refine Z X X (d := 5) X<|v_mvI X X<|Z X X (d := 5) X<|v_gtr X X X<|v_pickF (v := (.bool _)) X X X<|v_asB X X<|Y<|zk<|O Tryz.results112 ?_
  refine ⟨h, _, rfl, st0.done, ?_⟩
  refine zn ?_
  first | (simp_all; done) | (simp_all; omega)
set_option maxRecDepth 4000 in
theorem c_stem_letters {h : Heap} {w : World} (hs : Sub h w) (s : Str) (s_le : s.length ≤ 281474976710656) (lo : Int) : Calls Tryz.prog 77 #[strV s, .int .i64 lo] w (Rets h w (fun _ _ res_ => res_ = .bool (lettersB s lo))) := by
 refine zx (n := 15) (args := [strV s, .int .i64 lo]) Tryz.func77 X X X ?_
 have st0 : St h w h w [] := St.start hs
 refine W.sr<|v_asB X X<|Y<|W.sr<|v_mvI X X<|v_mvS X X<|v_len_str X Tryz.underlying9 X<|zG (L := LInt) (xs := [(s.length : Int)]) (cs := [.int .i64 (s.length : Int)]) st0 (Enc.cons (L := LInt) (vs := [.int .i64 (s.length : Int)]) (x := (s.length : Int)) (h := h) (X) Enc.nil) X X X Tryz.underlying46 Tryz.info3 X X X t_kr ?_
 intro v1 w2 h5 le6 f3 st4
 refine za st4 X X X Tryz.call88 X (c_stem_in st4.sub _ _ f3) ?_
 intro r7 w8 h9 le10 st11 q12
 obtain rfl := q12
 refine v_mvB X X ?_
 refine zp (d := 10) rfl (fun g13 => ?_) (fun g13 => ?_)
 ·
  refine Z X X (d := 10) X<|v_mvS X X<|Z X X (d := 10) X ?_
  refine za st11 rfl rfl rfl Tryz.call111 rfl (c_strings_ContainsFunc (s := s) zO (fun x_ : Int => (decide ((x_) < 97) || decide (122 < (x_)))) (by intro x_ hx_; simp; omega) (fun x_ h_ w_ hs_ => c_stem_letters_1 hs_ x_) Tryz.call112 st11.sub) ?_
  intro r14 w15 h16 le17 st18 q19
  obtain rfl := q19
  refine Z X X (d := 10) X<|v_not X X<|v_pickT (v := (.bool _)) X X X<|v_asB X X<|Y<|zk<|O Tryz.results77 ?_
  refine ⟨h16, _, rfl, st18.done, ?_⟩
  refine zn ?_
  rw [letters_eq]
  simp_all [inAll]
 ·
  refine M X X X X X<|M X X X X X<|M X X X X X<|v_pickF (v := (.bool _)) X X X<|v_asB X X<|Y<|zk<|O Tryz.results77 ?_
  refine ⟨h9, _, rfl, st11.done, ?_⟩
  refine zn ?_
  rw [letters_eq]
  simp_all [inAll]
set_option maxRecDepth 4000 in
theorem c_stem_right {h : Heap} {w : World} (hs : Sub h w) {hd : Head} (hd_l1 : hd.stem.length ≤ 281474976710656) (hd_l2 : 0 ≤ hd.mark ∧ hd.mark ≤ 255) : Calls Tryz.prog 116 #[.agg #[strV hd.stem, .int .u8 hd.mark]] w (Rets h w (fun _ _ res_ => res_ = .bool (headB hd))) := by
 refine zx (n := 11) (args := [.agg #[strV hd.stem, .int .u8 hd.mark]]) Tryz.func116 X X X ?_
 have st0 : St h w h w [] := St.start hs
 refine W.sr<|zl st0 (cs := [strV (hd.stem), .int .u8 (hd.mark)]) X X X ?_
 intro b1 w2 h3 le4 hc5 st6
 refine v_asB X X<|Y<|W.sr<|v_field_addr X Tryz.underlying32 X Tryz.sizeOf9 X X<|v_load_cells1 (j := 0) st6.sub hc5 X X X Tryz.isAgg9 X<|za st6 X X X Tryz.call77 X (c_stem_letters st6.sub _ zO _) ?_
 intro r7 w8 h9 le10 st11 q12
 obtain rfl := q12
 refine v_mvB X X ?_
 refine zp (d := 6) rfl (fun g13 => ?_) (fun g13 => ?_)
 ·
  refine Z X X (d := 6) X<|v_field_addr X Tryz.underlying32 X Tryz.sizeOf5 X X<|Z X X (d := 6) X<|v_load_cells1 (j := 1) st11.sub (hc5.up le10) X X X Tryz.isAgg5 X<|Z X X (d := 6) X<|ze X X (r_leq X X)<|v_pickT (v := (.bool _)) X X X<|v_asB X X<|Y<|zk<|O Tryz.results116 ?_
  refine ⟨h9, _, rfl, st11.done, ?_⟩
  refine zn ?_
  rw [head_eq _ (by omega)]
  simp_all
 ·
  refine M X X X X X<|M X X X X X<|M X X X X X<|v_pickF (v := (.bool _)) X X X<|v_asB X X<|Y<|zk<|O Tryz.results116 ?_
  refine ⟨h9, _, rfl, st11.done, ?_⟩
  refine zn ?_
  rw [head_eq _ (by omega)]
  simp_all
end Go.Pk

namespace Go.Pk
open Go Go.RowKit Go.Proofs
def _root_.Go.Proofs.Tryz.glob0 : List Value := [.bool false, .bool false, .bool false, .bool false, .nilFunc, .bool true, .bool false, .bool true, .bool false, .func (.func 254) #[] #[], .bool true, .bool true, .bool true, .bool false, .func (.func 255) #[] #[], .bool false, .bool true, .bool true, .bool false, .func (.func 256) #[] #[], .bool false, .bool false, .bool false, .bool true, .func (.func 257) #[] #[]]
set_option maxRecDepth 4000 in
set_option maxHeartbeats 4000000 in
theorem c_stem_decided {h : Heap} {w : World} (hs : Sub h w) {t : Text} {t_v0 : Value} (t_f0 : Sl LChapter h t_v0 t.chapters) {d : Decision} (d_l2 : 0 ≤ d.kind ∧ d.kind ≤ 255) (d_l3 : d.form.length ≤ 281474976710656) (d_l7 : d.to.stem.length ≤ 281474976710656) (d_l8 : 0 ≤ d.to.mark ∧ d.to.mark ≤ 255) (K0 : Cells h 0 0 Tryz.glob0) (ht : textB t = true) : Calls Tryz.prog 91 #[.agg #[t_v0], .agg #[.int .i64 d.number, .int .u8 d.kind, strV d.form, .int .i64 d.at_.chapter, .int .i64 d.at_.line, .int .i64 d.at_.word, strV d.to.stem, .int .u8 d.to.mark, .int .i64 d.of_]] w (Rets h w (fun _ _ res_ => res_ = .bool (decisionB t d))) := by
 refine zx (n := 104) (args := [.agg #[t_v0], .agg #[.int .i64 d.number, .int .u8 d.kind, strV d.form, .int .i64 d.at_.chapter, .int .i64 d.at_.line, .int .i64 d.at_.word, strV d.to.stem, .int .u8 d.to.mark, .int .i64 d.of_]]) Tryz.func91 X X X ?_
 have st0 : St h w h w [] := St.start hs
 have t_f0_b := t_f0.le
 refine W.sr<|zl st0 (cs := [t_v0]) X X X ?_
 intro b1 w2 h3 le4 hc5 st6
 refine zl st6 (cs := [.int .i64 (d.number), .int .u8 (d.kind), strV (d.form), .int .i64 (d.at_.chapter), .int .i64 (d.at_.line), .int .i64 (d.at_.word), strV (d.to.stem), .int .u8 (d.to.mark), .int .i64 (d.of_)]) X X X ?_
 intro b7 w8 h9 le10 hc11 st12
 refine v_asB X X<|Y<|zg<|W.sr<|v_field_addr X Tryz.underlying34 X Tryz.sizeOf5 X X<|v_load_cells1 (j := 1) st12.sub hc11 X X X Tryz.isAgg5 X ?_
 refine ze rfl rfl (r_conv_int rfl rfl Tryz.underlying3 (IntWalk.i64_in _ (by omega))) ?_
 refine zG (L := LInt) (xs := [(d.kind)]) (cs := [.int .i64 (d.kind)]) st12 (Enc.cons (L := LInt) (vs := [.int .i64 (d.kind)]) (x := (d.kind)) (h := h9) (X) Enc.nil) X X X Tryz.underlying46 Tryz.info3 X X X t_kr ?_
 intro v13 w14 h17 le18 f15 st16
 refine za st16 X X X Tryz.call88 X (c_stem_in st16.sub _ _ f15) ?_
 intro r19 w20 h21 le22 st23 q24
 obtain rfl := q24
 refine v_not X X<|v_mvB X X ?_
 refine zp (d := 15) rfl (fun g25 => ?_) (fun g25 => ?_)
 ·
  refine M X X X X X<|M X X X X X<|M X X X X X<|M X X X X X<|M X X X X X<|v_pickT (v := (.bool _)) X X X<|Y ?_
  refine zh rfl (fun c26 => ?_) (fun c26 => ?_)
  ·
   refine W.sr<|v_asB X X<|Y<|zk<|zd<|O Tryz.results91 ?_
   refine ⟨h21, _, rfl, st23.done, ?_⟩
   refine zn ?_
   have q := g25
   simp only [inAll_one, inB, Bool.not_eq_true', Bool.and_eq_false_iff, decide_eq_false_iff_not] at q
   have q1 : d.kind ≠ 1 := by omega
   have q2 : d.kind ≠ 2 := by omega
   have q3 : d.kind ≠ 3 := by omega
   have q4 : d.kind ≠ 4 := by omega
   simp [decisionB, q1, q2, q3, q4]
  ·
   cases c26
 ·
  refine Z X X (d := 15) X<|v_field_addr X Tryz.underlying34 X Tryz.sizeOf3 X X<|Z X X (d := 15) X<|v_load_cells1 (j := 0) st23.sub (hc11.up (le18.trans le22)) X X X Tryz.isAgg3 X<|Z X X (d := 15) X<|zG (L := LInt) (xs := [(d.number)]) (cs := [.int .i64 (d.number)]) st23 (Enc.cons (L := LInt) (vs := [.int .i64 (d.number)]) (x := (d.number)) (h := h21) (X) Enc.nil) X X X Tryz.underlying46 Tryz.info3 X X X t_kr ?_
  intro v27 w28 h31 le32 f29 st30
  refine Z X X (d := 15) X<|za st30 X X X Tryz.call88 X (c_stem_in st30.sub _ _ f29) ?_
  intro r33 w34 h35 le36 st37 q38
  obtain rfl := q38
  refine Z X X (d := 15) X<|v_not X X<|v_pickF (v := (.bool _)) X X X<|Y ?_
  refine zh rfl (fun c39 => ?_) (fun c39 => ?_)
  ·
   refine W.sr<|v_asB X X<|Y<|zk<|zd<|O Tryz.results91 ?_
   refine ⟨h35, _, rfl, st37.done, ?_⟩
   refine zn ?_
   have q := c39
   simp only [inAll_one] at q
   simp_all [decisionB]
  ·
   refine zo<|U<|zg ?_
   rcases (show d.kind = 1 ∨ d.kind = 2 ∨ d.kind = 3 ∨ d.kind = 4 by have q := g25; simp [inAll, inB] at q; omega) with hk40 | hk40 | hk40 | hk40
   ·
    refine zm<|v_field_addr X Tryz.underlying34 X Tryz.sizeOf5 X X<|v_load_cells1 (j := 1) st37.sub (hc11.up (((le18.trans le22).trans le32).trans le36)) X X X Tryz.isAgg5 X ?_
    refine ze rfl rfl (r_index_arr rfl rfl (show _ = ((1 : Nat) : Int) by rw [hk40]; rfl) rfl Tryz.underlying197 Tryz.sizeOf196) ?_
    refine v_load_cellsN (j := 5) st37.sub (K0.up (((((le4.trans le10).trans le18).trans le22).trans le32).trans le36)) (us := [.bool true, .bool false, .bool true, .bool false, .func (.func 254) #[] #[]]) X X Tryz.isAgg196 Tryz.sizeOf196 X X X<|zy st37 Tryz.zeroValue196 X X ?_
    intro b41 w42 st43
    refine zq st43 (k := 0) X X X (E X (E X (E X (E X (E X zI))))) Tryz.sizeOf196 X X X ?_
    intro w44 st45
    obtain ⟨h46, le47, hb48, st50⟩ := st45.freeze (k := 0) rfl
    have hc49 := Cells.of hb48
    refine Y<|W.sr<|v_field_addr X Tryz.underlying34 X Tryz.sizeOf3 X X<|v_load_cells1 (j := 0) st50.sub (hc11.up ((((le18.trans le22).trans le32).trans le36).trans le47)) X X X Tryz.isAgg3 X<|v_field_addr X Tryz.underlying34 X Tryz.sizeOf5 X X<|v_load_cells1 (j := 1) st50.sub (hc11.up ((((le18.trans le22).trans le32).trans le36).trans le47)) X X X Tryz.isAgg5 X<|ze X X (zY (cs := [.int .i64 (d.number), .int .u8 (d.kind), strV [], .int .i64 0, .int .i64 0, .int .i64 0, strV [], .int .u8 0, .int .i64 0]) t_kr)<|zy st50 Tryz.zeroValue34 X X ?_
    intro b51 w52 st53
    refine zq st53 (k := 1) X X X (E X (E X (E X (E X (E X (E X (E X (E X (E X zI))))))))) Tryz.sizeOf34 X X X ?_
    intro w54 st55
    refine Y<|zg<|W.sr<|v_field_addr X Tryz.underlying196 X Tryz.sizeOf4 X X<|v_load_cells1 (j := 0) st55.sub hc49 X X X Tryz.isAgg4 X<|Y ?_
    refine zh rfl (fun c56 => ?_) (fun c56 => ?_)
    ·
     refine zm<|v_field_addr X Tryz.underlying34 X Tryz.sizeOf9 X X<|v_load_cells1 (j := 2) st55.sub (hc11.up ((((le18.trans le22).trans le32).trans le36).trans le47)) X X X Tryz.isAgg9 X<|v_field_addr X Tryz.underlying34 X Tryz.sizeOf9 X X<|OpsL.store1 st55 (k := 1) X X X X Tryz.sizeOf9 X X X ?_
     intro w57 st58
     refine Y<|zg<|W.sr<|v_field_addr X Tryz.underlying196 X Tryz.sizeOf4 X X<|v_load_cells1 (j := 1) st58.sub hc49 X X X Tryz.isAgg4 X<|Y ?_
     refine zh rfl (fun c59 => ?_) (fun c59 => ?_)
     ·
      cases c59
     ·
      refine zo<|U<|zg<|W.sr<|v_field_addr X Tryz.underlying196 X Tryz.sizeOf4 X X<|v_load_cells1 (j := 2) st58.sub hc49 X X X Tryz.isAgg4 X<|Y ?_
      refine zh rfl (fun c60 => ?_) (fun c60 => ?_)
      ·
       refine zm<|v_field_addr X Tryz.underlying34 X Tryz.sizeOf32 X X<|v_load_cellsN (j := 6) st58.sub (hc11.up ((((le18.trans le22).trans le32).trans le36).trans le47)) (us := [strV (d.to.stem), .int .u8 (d.to.mark)]) X X Tryz.isAgg32 Tryz.sizeOf32 X X X<|v_field_addr X Tryz.underlying34 X Tryz.sizeOf32 X X<|zq st58 (k := 1) X X X (E X (E X zI)) Tryz.sizeOf32 X X X ?_
       intro w61 st62
       refine Y<|zg<|W.sr<|v_field_addr X Tryz.underlying196 X Tryz.sizeOf4 X X<|v_load_cells1 (j := 3) st62.sub hc49 X X X Tryz.isAgg4 X<|Y ?_
       refine zh rfl (fun c63 => ?_) (fun c63 => ?_)
       ·
        cases c63
       ·
        refine zo<|U<|W.sr<|v_load_call st62.sub (hc5.up (((((le10.trans le18).trans le22).trans le32).trans le36).trans le47)) X Tryz.isAgg24 Tryz.sizeOf24 X X<|v_field_addr X Tryz.underlying34 X Tryz.sizeOf30 X X<|v_load_cellsN (j := 3) st62.sub (hc11.up ((((le18.trans le22).trans le32).trans le36).trans le47)) (us := [.int .i64 (d.at_.chapter), .int .i64 (d.at_.line), .int .i64 (d.at_.word)]) X X Tryz.isAgg30 Tryz.sizeOf30 X X X<|za st62 X X X Tryz.call20 X (c_leaf_At st62.sub (t := t) (t_f0.up ((((((le4.trans le10).trans le18).trans le22).trans le32).trans le36).trans le47)) (p := d.at_)) ?_
        intro r64 w65 h66 le67 st68 q69
        obtain rfl := q69
        refine v_mvT X X<|v_extract (v := (strV _)) X X X<|v_extract (v := (.int _ _)) X X X<|v_asS X X<|v_asI X X<|Y<|zg ?_
        have qn : 1 ≤ d.number ∧ d.number ≤ 999 := by
         have q := c39
         simp [inAll, inB] at q
         omega
        refine zm<|v_load_call st68.sub (hc11.up (((((le18.trans le22).trans le32).trans le36).trans le47).trans le67)) X Tryz.isAgg34 Tryz.sizeOf34 X X<|v_load_ball (st68.get (k := 1) X) X Tryz.isAgg34 Tryz.sizeOf34 X X<|ze X X (r_steql X X Tryz.eqGuardType34 (Tryz.eq_Decision d (Decision.mk (d.number) (d.kind) (d.form) (Place.mk 0 0 0) (Head.mk (d.to.stem) (d.to.mark)) 0)))<|v_mvB X X ?_
        refine zp (d := 61) rfl (fun g70 => ?_) (fun g70 => ?_)
        ·
         replace g70 := of_decide_eq_true g70
         refine Z X X (d := 61) X<|v_field_addr X Tryz.underlying196 X Tryz.sizeOf4 X X<|Z X X (d := 61) X<|v_load_cells1 (j := 0) st68.sub (hc49.up le67) X X X Tryz.isAgg4 X<|Z X X (d := 61) X<|v_not X X<|Z X X (d := 61) X<|v_mvB X X<|Z X X (d := 65) X<|v_field_addr X Tryz.underlying34 X Tryz.sizeOf9 X X<|Z X X (d := 65) X<|v_load_cells1 (j := 2) st68.sub (hc11.up (((((le18.trans le22).trans le32).trans le36).trans le47).trans le67)) X X X Tryz.isAgg9 X<|Z X X (d := 65) X<|za st68 X X X Tryz.call77 X (c_stem_letters st68.sub _ zO _) ?_
         intro r71 w72 h73 le74 st75 q76
         obtain rfl := q76
         refine Z X X (d := 61) X<|v_pickF (v := (.bool _)) X X X<|v_pickT (v := (.bool _)) X X X<|v_mvB X X ?_
         refine zp (d := 71) rfl (fun g77 => ?_) (fun g77 => ?_)
         ·
          refine Z X X (d := 71) X<|v_field_addr X Tryz.underlying196 X Tryz.sizeOf4 X X<|Z X X (d := 71) X<|v_load_cells1 (j := 1) st75.sub (hc49.up (le67.trans le74)) X X X Tryz.isAgg4 X<|Z X X (d := 71) X<|v_not X X<|Z X X (d := 71) X<|v_mvB X X<|M X X X X X<|M X X X X X<|Z X X (d := 71) X<|v_pickT (v := (.bool _)) X X X<|v_pickT (v := (.bool _)) X X X<|v_mvB X X<|Z X X (d := 80) X<|v_field_addr X Tryz.underlying196 X Tryz.sizeOf4 X X<|Z X X (d := 80) X<|v_load_cells1 (j := 2) st75.sub (hc49.up (le67.trans le74)) X X X Tryz.isAgg4 X<|Z X X (d := 80) X<|v_not X X<|Z X X (d := 80) X<|v_mvB X X<|Z X X (d := 84) X<|v_field_addr X Tryz.underlying34 X Tryz.sizeOf32 X X<|Z X X (d := 84) X<|v_load_cellsN (j := 6) st75.sub (hc11.up ((((((le18.trans le22).trans le32).trans le36).trans le47).trans le67).trans le74)) (us := [strV (d.to.stem), .int .u8 (d.to.mark)]) X X Tryz.isAgg32 Tryz.sizeOf32 X X X<|Z X X (d := 84) X<|za st75 X X X Tryz.call116 X (c_stem_right st75.sub (hd := d.to) zO t_u8) ?_
          intro r78 w79 h80 le81 st82 q83
          obtain rfl := q83
          refine Z X X (d := 80) X<|v_pickF (v := (.bool _)) X X X<|v_pickT (v := (.bool _)) X X X<|v_mvB X X ?_
          refine zp (d := 90) rfl (fun g84 => ?_) (fun g84 => ?_)
          ·
           refine Z X X (d := 90) X<|v_field_addr X Tryz.underlying196 X Tryz.sizeOf4 X X<|Z X X (d := 90) X<|v_load_cells1 (j := 3) st82.sub (hc49.up ((le67.trans le74).trans le81)) X X X Tryz.isAgg4 X<|Z X X (d := 90) X<|v_not X X<|Z X X (d := 90) X<|v_mvB X X<|M X X X X X<|M X X X X X<|M X X X X X<|M X X X X X<|M X X X X X<|M X X X X X<|M X X X X X<|Z X X (d := 90) X<|v_pickT (v := (.bool _)) X X X<|v_pickT (v := (.bool _)) X X X<|v_asB X X<|Y<|zk<|O Tryz.results91 ?_
           refine ⟨h80, _, rfl, st82.done, ?_⟩
           refine zn ?_
           exact dec1_t ht hk40 c39 g70 g77 g84
          ·
           refine M X X X X X<|M X X X X X<|M X X X X X<|M X X X X X<|zb X X (d := 94) X X<|zb X X (d := 94) X X<|zb X X (d := 94) X X<|zb X X (d := 94) X X<|zb X X (d := 94) X X<|zb X X (d := 94) X X<|zb X X (d := 94) X X<|M X X X X X<|v_pickF (v := (.bool _)) X X X<|v_asB X X<|Y<|zk<|O Tryz.results91 ?_
           refine ⟨h80, _, rfl, st82.done, ?_⟩
           refine zn ?_
           exact dec1_f1 ht hk40 c39 g70 g77 g84
         ·
          refine M X X X X X<|M X X X X X<|M X X X X X<|M X X X X X<|zb X X (d := 75) X X<|zb X X (d := 75) X X<|M X X X X X<|v_pickF (v := (.bool _)) X X X<|v_mvB X X<|M X X X X X<|M X X X X X<|M X X X X X<|M X X X X X<|zb X X (d := 84) X X<|zb X X (d := 84) X X<|zb X X (d := 84) X X<|M X X X X X<|v_pickF (v := (.bool _)) X X X<|v_mvB X X<|M X X X X X<|M X X X X X<|M X X X X X<|M X X X X X<|zb X X (d := 94) X X<|zb X X (d := 94) X X<|zb X X (d := 94) X X<|zb X X (d := 94) X X<|zb X X (d := 94) X X<|zb X X (d := 94) X X<|zb X X (d := 94) X X ?_
          refine M X X X X X<|v_pickF (v := (.bool _)) X X X<|v_asB X X<|Y<|zk<|O Tryz.results91 ?_
          refine ⟨h73, _, rfl, st75.done, ?_⟩
          refine zn ?_
          exact dec1_f0 ht hk40 c39 g70 g77
        ·
         replace g70 := of_decide_eq_false g70
         refine M X X X X X<|M X X X X X<|M X X X X X<|M X X X X X<|zb X X (d := 65) X X<|zb X X (d := 65) X X<|zb X X (d := 65) X X<|M X X X X X<|v_pickF (v := (.bool _)) X X X<|v_mvB X X<|M X X X X X<|M X X X X X<|M X X X X X<|M X X X X X<|zb X X (d := 75) X X<|zb X X (d := 75) X X<|M X X X X X<|v_pickF (v := (.bool _)) X X X<|v_mvB X X<|M X X X X X<|M X X X X X<|M X X X X X<|M X X X X X<|zb X X (d := 84) X X<|zb X X (d := 84) X X<|zb X X (d := 84) X X<|M X X X X X<|v_pickF (v := (.bool _)) X X X<|v_mvB X X<|M X X X X X ?_
         refine M X X X X X<|M X X X X X<|M X X X X X<|zb X X (d := 94) X X<|zb X X (d := 94) X X<|zb X X (d := 94) X X<|zb X X (d := 94) X X<|zb X X (d := 94) X X<|zb X X (d := 94) X X<|zb X X (d := 94) X X<|M X X X X X<|v_pickF (v := (.bool _)) X X X<|v_asB X X<|Y<|zk<|O Tryz.results91 ?_
         refine ⟨h66, _, rfl, st68.done, ?_⟩
         refine zn ?_
         exact dec1_n ht hk40 c39 g70
      ·
       cases c60
    ·
     cases c56
   ·
    refine zm<|v_field_addr X Tryz.underlying34 X Tryz.sizeOf5 X X<|v_load_cells1 (j := 1) st37.sub (hc11.up (((le18.trans le22).trans le32).trans le36)) X X X Tryz.isAgg5 X ?_
    refine ze rfl rfl (r_index_arr rfl rfl (show _ = ((2 : Nat) : Int) by rw [hk40]; rfl) rfl Tryz.underlying197 Tryz.sizeOf196) ?_
    refine v_load_cellsN (j := 10) st37.sub (K0.up (((((le4.trans le10).trans le18).trans le22).trans le32).trans le36)) (us := [.bool true, .bool true, .bool true, .bool false, .func (.func 255) #[] #[]]) X X Tryz.isAgg196 Tryz.sizeOf196 X X X<|zy st37 Tryz.zeroValue196 X X ?_
    intro b85 w86 st87
    refine zq st87 (k := 0) X X X (E X (E X (E X (E X (E X zI))))) Tryz.sizeOf196 X X X ?_
    intro w88 st89
    obtain ⟨h90, le91, hb92, st94⟩ := st89.freeze (k := 0) rfl
    have hc93 := Cells.of hb92
    refine Y<|W.sr<|v_field_addr X Tryz.underlying34 X Tryz.sizeOf3 X X<|v_load_cells1 (j := 0) st94.sub (hc11.up ((((le18.trans le22).trans le32).trans le36).trans le91)) X X X Tryz.isAgg3 X<|v_field_addr X Tryz.underlying34 X Tryz.sizeOf5 X X<|v_load_cells1 (j := 1) st94.sub (hc11.up ((((le18.trans le22).trans le32).trans le36).trans le91)) X X X Tryz.isAgg5 X<|ze X X (zY (cs := [.int .i64 (d.number), .int .u8 (d.kind), strV [], .int .i64 0, .int .i64 0, .int .i64 0, strV [], .int .u8 0, .int .i64 0]) t_kr)<|zy st94 Tryz.zeroValue34 X X ?_
    intro b95 w96 st97
    refine zq st97 (k := 1) X X X (E X (E X (E X (E X (E X (E X (E X (E X (E X zI))))))))) Tryz.sizeOf34 X X X ?_
    intro w98 st99
    refine Y<|zg<|W.sr<|v_field_addr X Tryz.underlying196 X Tryz.sizeOf4 X X<|v_load_cells1 (j := 0) st99.sub hc93 X X X Tryz.isAgg4 X<|Y ?_
    refine zh rfl (fun c100 => ?_) (fun c100 => ?_)
    ·
     refine zm<|v_field_addr X Tryz.underlying34 X Tryz.sizeOf9 X X<|v_load_cells1 (j := 2) st99.sub (hc11.up ((((le18.trans le22).trans le32).trans le36).trans le91)) X X X Tryz.isAgg9 X<|v_field_addr X Tryz.underlying34 X Tryz.sizeOf9 X X<|OpsL.store1 st99 (k := 1) X X X X Tryz.sizeOf9 X X X ?_
     intro w101 st102
     refine Y<|zg<|W.sr<|v_field_addr X Tryz.underlying196 X Tryz.sizeOf4 X X<|v_load_cells1 (j := 1) st102.sub hc93 X X X Tryz.isAgg4 X<|Y ?_
     refine zh rfl (fun c103 => ?_) (fun c103 => ?_)
     ·
      refine zm<|v_field_addr X Tryz.underlying34 X Tryz.sizeOf30 X X<|v_load_cellsN (j := 3) st102.sub (hc11.up ((((le18.trans le22).trans le32).trans le36).trans le91)) (us := [.int .i64 (d.at_.chapter), .int .i64 (d.at_.line), .int .i64 (d.at_.word)]) X X Tryz.isAgg30 Tryz.sizeOf30 X X X<|v_field_addr X Tryz.underlying34 X Tryz.sizeOf30 X X<|zq st102 (k := 1) X X X (E X (E X (E X zI))) Tryz.sizeOf30 X X X ?_
      intro w104 st105
      refine Y<|zg<|W.sr<|v_field_addr X Tryz.underlying196 X Tryz.sizeOf4 X X<|v_load_cells1 (j := 2) st105.sub hc93 X X X Tryz.isAgg4 X<|Y ?_
      refine zh rfl (fun c106 => ?_) (fun c106 => ?_)
      ·
       refine zm<|v_field_addr X Tryz.underlying34 X Tryz.sizeOf32 X X<|v_load_cellsN (j := 6) st105.sub (hc11.up ((((le18.trans le22).trans le32).trans le36).trans le91)) (us := [strV (d.to.stem), .int .u8 (d.to.mark)]) X X Tryz.isAgg32 Tryz.sizeOf32 X X X<|v_field_addr X Tryz.underlying34 X Tryz.sizeOf32 X X<|zq st105 (k := 1) X X X (E X (E X zI)) Tryz.sizeOf32 X X X ?_
       intro w107 st108
       refine Y<|zg<|W.sr<|v_field_addr X Tryz.underlying196 X Tryz.sizeOf4 X X<|v_load_cells1 (j := 3) st108.sub hc93 X X X Tryz.isAgg4 X<|Y ?_
       refine zh rfl (fun c109 => ?_) (fun c109 => ?_)
       ·
        cases c109
       ·
        refine zo<|U<|W.sr<|v_load_call st108.sub (hc5.up (((((le10.trans le18).trans le22).trans le32).trans le36).trans le91)) X Tryz.isAgg24 Tryz.sizeOf24 X X<|v_field_addr X Tryz.underlying34 X Tryz.sizeOf30 X X<|v_load_cellsN (j := 3) st108.sub (hc11.up ((((le18.trans le22).trans le32).trans le36).trans le91)) (us := [.int .i64 (d.at_.chapter), .int .i64 (d.at_.line), .int .i64 (d.at_.word)]) X X Tryz.isAgg30 Tryz.sizeOf30 X X X<|za st108 X X X Tryz.call20 X (c_leaf_At st108.sub (t := t) (t_f0.up ((((((le4.trans le10).trans le18).trans le22).trans le32).trans le36).trans le91)) (p := d.at_)) ?_
        intro r110 w111 h112 le113 st114 q115
        obtain rfl := q115
        refine v_mvT X X<|v_extract (v := (strV _)) X X X<|v_extract (v := (.int _ _)) X X X<|v_asS X X<|v_asI X X<|Y<|zg ?_
        have qn : 1 ≤ d.number ∧ d.number ≤ 999 := by
         have q := c39
         simp [inAll, inB] at q
         omega
        refine zm<|v_load_call st114.sub (hc11.up (((((le18.trans le22).trans le32).trans le36).trans le91).trans le113)) X Tryz.isAgg34 Tryz.sizeOf34 X X<|v_load_ball (st114.get (k := 1) X) X Tryz.isAgg34 Tryz.sizeOf34 X X<|ze X X (r_steql X X Tryz.eqGuardType34 (Tryz.eq_Decision d (Decision.mk (d.number) (d.kind) (d.form) (Place.mk (d.at_.chapter) (d.at_.line) (d.at_.word)) (Head.mk (d.to.stem) (d.to.mark)) 0)))<|v_mvB X X ?_
        refine zp (d := 61) rfl (fun g116 => ?_) (fun g116 => ?_)
        ·
         replace g116 := of_decide_eq_true g116
         refine Z X X (d := 61) X<|v_field_addr X Tryz.underlying196 X Tryz.sizeOf4 X X<|Z X X (d := 61) X<|v_load_cells1 (j := 0) st114.sub (hc93.up le113) X X X Tryz.isAgg4 X<|Z X X (d := 61) X<|v_not X X<|Z X X (d := 61) X<|v_mvB X X<|Z X X (d := 65) X<|v_field_addr X Tryz.underlying34 X Tryz.sizeOf9 X X<|Z X X (d := 65) X<|v_load_cells1 (j := 2) st114.sub (hc11.up (((((le18.trans le22).trans le32).trans le36).trans le91).trans le113)) X X X Tryz.isAgg9 X<|Z X X (d := 65) X<|za st114 X X X Tryz.call77 X (c_stem_letters st114.sub _ zO _) ?_
         intro r117 w118 h119 le120 st121 q122
         obtain rfl := q122
         refine Z X X (d := 61) X<|v_pickF (v := (.bool _)) X X X<|v_pickT (v := (.bool _)) X X X<|v_mvB X X ?_
         refine zp (d := 71) rfl (fun g123 => ?_) (fun g123 => ?_)
         ·
          refine Z X X (d := 71) X<|v_field_addr X Tryz.underlying196 X Tryz.sizeOf4 X X<|Z X X (d := 71) X<|v_load_cells1 (j := 1) st121.sub (hc93.up (le113.trans le120)) X X X Tryz.isAgg4 X<|Z X X (d := 71) X<|v_not X X<|Z X X (d := 71) X<|v_mvB X X<|Z X X (d := 75) X<|v_mvI X X<|Z X X (d := 75) X<|v_eql X X X<|Z X X (d := 71) X<|v_pickF (v := (.bool _)) X X X<|v_pickT (v := (.bool _)) X X X<|v_mvB X X ?_
          refine zp (d := 80) rfl (fun g124 => ?_) (fun g124 => ?_)
          ·
           replace g124 := of_decide_eq_true g124
           refine Z X X (d := 80) X<|v_field_addr X Tryz.underlying196 X Tryz.sizeOf4 X X<|Z X X (d := 80) X<|v_load_cells1 (j := 2) st121.sub (hc93.up (le113.trans le120)) X X X Tryz.isAgg4 X<|Z X X (d := 80) X<|v_not X X<|Z X X (d := 80) X<|v_mvB X X<|Z X X (d := 84) X<|v_field_addr X Tryz.underlying34 X Tryz.sizeOf32 X X<|Z X X (d := 84) X<|v_load_cellsN (j := 6) st121.sub (hc11.up ((((((le18.trans le22).trans le32).trans le36).trans le91).trans le113).trans le120)) (us := [strV (d.to.stem), .int .u8 (d.to.mark)]) X X Tryz.isAgg32 Tryz.sizeOf32 X X X<|Z X X (d := 84) X<|za st121 X X X Tryz.call116 X (c_stem_right st121.sub (hd := d.to) zO t_u8) ?_
           intro r125 w126 h127 le128 st129 q130
           obtain rfl := q130
           refine Z X X (d := 80) X<|v_pickF (v := (.bool _)) X X X<|v_pickT (v := (.bool _)) X X X<|v_mvB X X ?_
           refine zp (d := 90) rfl (fun g131 => ?_) (fun g131 => ?_)
           ·
            refine Z X X (d := 90) X<|v_field_addr X Tryz.underlying196 X Tryz.sizeOf4 X X<|Z X X (d := 90) X<|v_load_cells1 (j := 3) st129.sub (hc93.up ((le113.trans le120).trans le128)) X X X Tryz.isAgg4 X<|Z X X (d := 90) X<|v_not X X<|Z X X (d := 90) X<|v_mvB X X<|M X X X X X<|M X X X X X<|M X X X X X<|M X X X X X<|M X X X X X<|M X X X X X<|M X X X X X<|Z X X (d := 90) X<|v_pickT (v := (.bool _)) X X X<|v_pickT (v := (.bool _)) X X X<|v_asB X X<|Y<|zk<|O Tryz.results91 ?_
            refine ⟨h127, _, rfl, st129.done, ?_⟩
            refine zn ?_
            exact dec2_t ht hk40 c39 g116 g123 g124 g131
           ·
            refine M X X X X X<|M X X X X X<|M X X X X X<|M X X X X X<|zb X X (d := 94) X X<|zb X X (d := 94) X X<|zb X X (d := 94) X X<|zb X X (d := 94) X X<|zb X X (d := 94) X X<|zb X X (d := 94) X X<|zb X X (d := 94) X X<|M X X X X X<|v_pickF (v := (.bool _)) X X X<|v_asB X X<|Y<|zk<|O Tryz.results91 ?_
            refine ⟨h127, _, rfl, st129.done, ?_⟩
            refine zn ?_
            exact dec2_f2 ht hk40 c39 g116 g123 g124 g131
          ·
           replace g124 := of_decide_eq_false g124
           refine M X X X X X<|M X X X X X<|M X X X X X<|M X X X X X<|zb X X (d := 84) X X<|zb X X (d := 84) X X<|zb X X (d := 84) X X<|M X X X X X<|v_pickF (v := (.bool _)) X X X<|v_mvB X X<|M X X X X X<|M X X X X X<|M X X X X X<|M X X X X X<|zb X X (d := 94) X X<|zb X X (d := 94) X X<|zb X X (d := 94) X X<|zb X X (d := 94) X X<|zb X X (d := 94) X X<|zb X X (d := 94) X X<|zb X X (d := 94) X X<|M X X X X X<|v_pickF (v := (.bool _)) X X X<|v_asB X X<|Y<|zk<|O Tryz.results91 ?_
           refine ⟨h119, _, rfl, st121.done, ?_⟩
           refine zn ?_
           exact dec2_f1 ht hk40 c39 g116 g123 g124
         ·
          refine M X X X X X<|M X X X X X<|M X X X X X<|M X X X X X<|zb X X (d := 75) X X<|zb X X (d := 75) X X<|M X X X X X<|v_pickF (v := (.bool _)) X X X<|v_mvB X X<|M X X X X X<|M X X X X X<|M X X X X X<|M X X X X X<|zb X X (d := 84) X X<|zb X X (d := 84) X X<|zb X X (d := 84) X X<|M X X X X X<|v_pickF (v := (.bool _)) X X X<|v_mvB X X<|M X X X X X<|M X X X X X<|M X X X X X<|M X X X X X<|zb X X (d := 94) X X<|zb X X (d := 94) X X<|zb X X (d := 94) X X<|zb X X (d := 94) X X<|zb X X (d := 94) X X<|zb X X (d := 94) X X<|zb X X (d := 94) X X ?_
          refine M X X X X X<|v_pickF (v := (.bool _)) X X X<|v_asB X X<|Y<|zk<|O Tryz.results91 ?_
          refine ⟨h119, _, rfl, st121.done, ?_⟩
          refine zn ?_
          exact dec2_f0 ht hk40 c39 g116 g123
        ·
         replace g116 := of_decide_eq_false g116
         refine M X X X X X<|M X X X X X<|M X X X X X<|M X X X X X<|zb X X (d := 65) X X<|zb X X (d := 65) X X<|zb X X (d := 65) X X<|M X X X X X<|v_pickF (v := (.bool _)) X X X<|v_mvB X X<|M X X X X X<|M X X X X X<|M X X X X X<|M X X X X X<|zb X X (d := 75) X X<|zb X X (d := 75) X X<|M X X X X X<|v_pickF (v := (.bool _)) X X X<|v_mvB X X<|M X X X X X<|M X X X X X<|M X X X X X<|M X X X X X<|zb X X (d := 84) X X<|zb X X (d := 84) X X<|zb X X (d := 84) X X<|M X X X X X<|v_pickF (v := (.bool _)) X X X<|v_mvB X X<|M X X X X X ?_
         refine M X X X X X<|M X X X X X<|M X X X X X<|zb X X (d := 94) X X<|zb X X (d := 94) X X<|zb X X (d := 94) X X<|zb X X (d := 94) X X<|zb X X (d := 94) X X<|zb X X (d := 94) X X<|zb X X (d := 94) X X<|M X X X X X<|v_pickF (v := (.bool _)) X X X<|v_asB X X<|Y<|zk<|O Tryz.results91 ?_
         refine ⟨h112, _, rfl, st114.done, ?_⟩
         refine zn ?_
         exact dec2_n ht hk40 c39 g116
      ·
       cases c106
     ·
      cases c103
    ·
     cases c100
   ·
    refine zm<|v_field_addr X Tryz.underlying34 X Tryz.sizeOf5 X X<|v_load_cells1 (j := 1) st37.sub (hc11.up (((le18.trans le22).trans le32).trans le36)) X X X Tryz.isAgg5 X ?_
    refine ze rfl rfl (r_index_arr rfl rfl (show _ = ((3 : Nat) : Int) by rw [hk40]; rfl) rfl Tryz.underlying197 Tryz.sizeOf196) ?_
    refine v_load_cellsN (j := 15) st37.sub (K0.up (((((le4.trans le10).trans le18).trans le22).trans le32).trans le36)) (us := [.bool false, .bool true, .bool true, .bool false, .func (.func 256) #[] #[]]) X X Tryz.isAgg196 Tryz.sizeOf196 X X X<|zy st37 Tryz.zeroValue196 X X ?_
    intro b132 w133 st134
    refine zq st134 (k := 0) X X X (E X (E X (E X (E X (E X zI))))) Tryz.sizeOf196 X X X ?_
    intro w135 st136
    obtain ⟨h137, le138, hb139, st141⟩ := st136.freeze (k := 0) rfl
    have hc140 := Cells.of hb139
    refine Y<|W.sr<|v_field_addr X Tryz.underlying34 X Tryz.sizeOf3 X X<|v_load_cells1 (j := 0) st141.sub (hc11.up ((((le18.trans le22).trans le32).trans le36).trans le138)) X X X Tryz.isAgg3 X<|v_field_addr X Tryz.underlying34 X Tryz.sizeOf5 X X<|v_load_cells1 (j := 1) st141.sub (hc11.up ((((le18.trans le22).trans le32).trans le36).trans le138)) X X X Tryz.isAgg5 X<|ze X X (zY (cs := [.int .i64 (d.number), .int .u8 (d.kind), strV [], .int .i64 0, .int .i64 0, .int .i64 0, strV [], .int .u8 0, .int .i64 0]) t_kr)<|zy st141 Tryz.zeroValue34 X X ?_
    intro b142 w143 st144
    refine zq st144 (k := 1) X X X (E X (E X (E X (E X (E X (E X (E X (E X (E X zI))))))))) Tryz.sizeOf34 X X X ?_
    intro w145 st146
    refine Y<|zg<|W.sr<|v_field_addr X Tryz.underlying196 X Tryz.sizeOf4 X X<|v_load_cells1 (j := 0) st146.sub hc140 X X X Tryz.isAgg4 X<|Y ?_
    refine zh rfl (fun c147 => ?_) (fun c147 => ?_)
    ·
     cases c147
    ·
     refine zo<|U<|zg<|W.sr<|v_field_addr X Tryz.underlying196 X Tryz.sizeOf4 X X<|v_load_cells1 (j := 1) st146.sub hc140 X X X Tryz.isAgg4 X<|Y ?_
     refine zh rfl (fun c148 => ?_) (fun c148 => ?_)
     ·
      refine zm<|v_field_addr X Tryz.underlying34 X Tryz.sizeOf30 X X<|v_load_cellsN (j := 3) st146.sub (hc11.up ((((le18.trans le22).trans le32).trans le36).trans le138)) (us := [.int .i64 (d.at_.chapter), .int .i64 (d.at_.line), .int .i64 (d.at_.word)]) X X Tryz.isAgg30 Tryz.sizeOf30 X X X<|v_field_addr X Tryz.underlying34 X Tryz.sizeOf30 X X<|zq st146 (k := 1) X X X (E X (E X (E X zI))) Tryz.sizeOf30 X X X ?_
      intro w149 st150
      refine Y<|zg<|W.sr<|v_field_addr X Tryz.underlying196 X Tryz.sizeOf4 X X<|v_load_cells1 (j := 2) st150.sub hc140 X X X Tryz.isAgg4 X<|Y ?_
      refine zh rfl (fun c151 => ?_) (fun c151 => ?_)
      ·
       refine zm<|v_field_addr X Tryz.underlying34 X Tryz.sizeOf32 X X<|v_load_cellsN (j := 6) st150.sub (hc11.up ((((le18.trans le22).trans le32).trans le36).trans le138)) (us := [strV (d.to.stem), .int .u8 (d.to.mark)]) X X Tryz.isAgg32 Tryz.sizeOf32 X X X<|v_field_addr X Tryz.underlying34 X Tryz.sizeOf32 X X<|zq st150 (k := 1) X X X (E X (E X zI)) Tryz.sizeOf32 X X X ?_
       intro w152 st153
       refine Y<|zg<|W.sr<|v_field_addr X Tryz.underlying196 X Tryz.sizeOf4 X X<|v_load_cells1 (j := 3) st153.sub hc140 X X X Tryz.isAgg4 X<|Y ?_
       refine zh rfl (fun c154 => ?_) (fun c154 => ?_)
       ·
        cases c154
       ·
        refine zo<|U<|W.sr<|v_load_call st153.sub (hc5.up (((((le10.trans le18).trans le22).trans le32).trans le36).trans le138)) X Tryz.isAgg24 Tryz.sizeOf24 X X<|v_field_addr X Tryz.underlying34 X Tryz.sizeOf30 X X<|v_load_cellsN (j := 3) st153.sub (hc11.up ((((le18.trans le22).trans le32).trans le36).trans le138)) (us := [.int .i64 (d.at_.chapter), .int .i64 (d.at_.line), .int .i64 (d.at_.word)]) X X Tryz.isAgg30 Tryz.sizeOf30 X X X<|za st153 X X X Tryz.call20 X (c_leaf_At st153.sub (t := t) (t_f0.up ((((((le4.trans le10).trans le18).trans le22).trans le32).trans le36).trans le138)) (p := d.at_)) ?_
        intro r155 w156 h157 le158 st159 q160
        obtain rfl := q160
        refine v_mvT X X<|v_extract (v := (strV _)) X X X<|v_extract (v := (.int _ _)) X X X<|v_asS X X<|v_asI X X<|Y<|zg ?_
        have qn : 1 ≤ d.number ∧ d.number ≤ 999 := by
         have q := c39
         simp [inAll, inB] at q
         omega
        refine zm<|v_load_call st159.sub (hc11.up (((((le18.trans le22).trans le32).trans le36).trans le138).trans le158)) X Tryz.isAgg34 Tryz.sizeOf34 X X<|v_load_ball (st159.get (k := 1) X) X Tryz.isAgg34 Tryz.sizeOf34 X X<|ze X X (r_steql X X Tryz.eqGuardType34 (Tryz.eq_Decision d (Decision.mk (d.number) (d.kind) ([]) (Place.mk (d.at_.chapter) (d.at_.line) (d.at_.word)) (Head.mk (d.to.stem) (d.to.mark)) 0)))<|v_mvB X X ?_
        refine zp (d := 61) rfl (fun g161 => ?_) (fun g161 => ?_)
        ·
         replace g161 := of_decide_eq_true g161
         refine Z X X (d := 61) X<|v_field_addr X Tryz.underlying196 X Tryz.sizeOf4 X X<|Z X X (d := 61) X<|v_load_cells1 (j := 0) st159.sub (hc140.up le158) X X X Tryz.isAgg4 X<|Z X X (d := 61) X<|v_not X X<|Z X X (d := 61) X<|v_mvB X X<|M X X X X X<|M X X X X X<|M X X X X X<|Z X X (d := 61) X<|v_pickT (v := (.bool _)) X X X<|v_pickT (v := (.bool _)) X X X<|v_mvB X X<|Z X X (d := 71) X<|v_field_addr X Tryz.underlying196 X Tryz.sizeOf4 X X<|Z X X (d := 71) X<|v_load_cells1 (j := 1) st159.sub (hc140.up le158) X X X Tryz.isAgg4 X<|Z X X (d := 71) X<|v_not X X<|Z X X (d := 71) X<|v_mvB X X<|Z X X (d := 75) X<|v_mvI X X<|Z X X (d := 75) X<|v_eql X X X<|Z X X (d := 71) X<|v_pickF (v := (.bool _)) X X X<|v_pickT (v := (.bool _)) X X X ?_
         refine v_mvB X X ?_
         refine zp (d := 80) rfl (fun g162 => ?_) (fun g162 => ?_)
         ·
          replace g162 := of_decide_eq_true g162
          refine Z X X (d := 80) X<|v_field_addr X Tryz.underlying196 X Tryz.sizeOf4 X X<|Z X X (d := 80) X<|v_load_cells1 (j := 2) st159.sub (hc140.up le158) X X X Tryz.isAgg4 X<|Z X X (d := 80) X<|v_not X X<|Z X X (d := 80) X<|v_mvB X X<|Z X X (d := 84) X<|v_field_addr X Tryz.underlying34 X Tryz.sizeOf32 X X<|Z X X (d := 84) X<|v_load_cellsN (j := 6) st159.sub (hc11.up (((((le18.trans le22).trans le32).trans le36).trans le138).trans le158)) (us := [strV (d.to.stem), .int .u8 (d.to.mark)]) X X Tryz.isAgg32 Tryz.sizeOf32 X X X<|Z X X (d := 84) X<|za st159 X X X Tryz.call116 X (c_stem_right st159.sub (hd := d.to) zO t_u8) ?_
          intro r163 w164 h165 le166 st167 q168
          obtain rfl := q168
          refine Z X X (d := 80) X<|v_pickF (v := (.bool _)) X X X<|v_pickT (v := (.bool _)) X X X<|v_mvB X X ?_
          refine zp (d := 90) rfl (fun g169 => ?_) (fun g169 => ?_)
          ·
           refine Z X X (d := 90) X<|v_field_addr X Tryz.underlying196 X Tryz.sizeOf4 X X<|Z X X (d := 90) X<|v_load_cells1 (j := 3) st167.sub (hc140.up (le158.trans le166)) X X X Tryz.isAgg4 X<|Z X X (d := 90) X<|v_not X X<|Z X X (d := 90) X<|v_mvB X X<|M X X X X X<|M X X X X X<|M X X X X X<|M X X X X X<|M X X X X X<|M X X X X X<|M X X X X X<|Z X X (d := 90) X<|v_pickT (v := (.bool _)) X X X<|v_pickT (v := (.bool _)) X X X<|v_asB X X<|Y<|zk<|O Tryz.results91 ?_
           refine ⟨h165, _, rfl, st167.done, ?_⟩
           refine zn ?_
           exact dec3_t ht hk40 c39 g161 g162 g169
          ·
           refine M X X X X X<|M X X X X X<|M X X X X X<|M X X X X X<|zb X X (d := 94) X X<|zb X X (d := 94) X X<|zb X X (d := 94) X X<|zb X X (d := 94) X X<|zb X X (d := 94) X X<|zb X X (d := 94) X X<|zb X X (d := 94) X X<|M X X X X X<|v_pickF (v := (.bool _)) X X X<|v_asB X X<|Y<|zk<|O Tryz.results91 ?_
           refine ⟨h165, _, rfl, st167.done, ?_⟩
           refine zn ?_
           exact dec3_f1 ht hk40 c39 g161 g162 g169
         ·
          replace g162 := of_decide_eq_false g162
          refine M X X X X X<|M X X X X X<|M X X X X X<|M X X X X X<|zb X X (d := 84) X X<|zb X X (d := 84) X X<|zb X X (d := 84) X X<|M X X X X X<|v_pickF (v := (.bool _)) X X X<|v_mvB X X<|M X X X X X<|M X X X X X<|M X X X X X<|M X X X X X<|zb X X (d := 94) X X<|zb X X (d := 94) X X<|zb X X (d := 94) X X<|zb X X (d := 94) X X<|zb X X (d := 94) X X<|zb X X (d := 94) X X<|zb X X (d := 94) X X<|M X X X X X<|v_pickF (v := (.bool _)) X X X<|v_asB X X<|Y<|zk<|O Tryz.results91 ?_
          refine ⟨h157, _, rfl, st159.done, ?_⟩
          refine zn ?_
          exact dec3_f0 ht hk40 c39 g161 g162
        ·
         replace g161 := of_decide_eq_false g161
         refine M X X X X X<|M X X X X X<|M X X X X X<|M X X X X X<|zb X X (d := 65) X X<|zb X X (d := 65) X X<|zb X X (d := 65) X X<|M X X X X X<|v_pickF (v := (.bool _)) X X X<|v_mvB X X<|M X X X X X<|M X X X X X<|M X X X X X<|M X X X X X<|zb X X (d := 75) X X<|zb X X (d := 75) X X<|M X X X X X<|v_pickF (v := (.bool _)) X X X<|v_mvB X X<|M X X X X X<|M X X X X X<|M X X X X X<|M X X X X X<|zb X X (d := 84) X X<|zb X X (d := 84) X X<|zb X X (d := 84) X X<|M X X X X X<|v_pickF (v := (.bool _)) X X X<|v_mvB X X<|M X X X X X ?_
         refine M X X X X X<|M X X X X X<|M X X X X X<|zb X X (d := 94) X X<|zb X X (d := 94) X X<|zb X X (d := 94) X X<|zb X X (d := 94) X X<|zb X X (d := 94) X X<|zb X X (d := 94) X X<|zb X X (d := 94) X X<|M X X X X X<|v_pickF (v := (.bool _)) X X X<|v_asB X X<|Y<|zk<|O Tryz.results91 ?_
         refine ⟨h157, _, rfl, st159.done, ?_⟩
         refine zn ?_
         exact dec3_n ht hk40 c39 g161
      ·
       cases c151
     ·
      cases c148
   ·
    refine zm<|v_field_addr X Tryz.underlying34 X Tryz.sizeOf5 X X<|v_load_cells1 (j := 1) st37.sub (hc11.up (((le18.trans le22).trans le32).trans le36)) X X X Tryz.isAgg5 X ?_
    refine ze rfl rfl (r_index_arr rfl rfl (show _ = ((4 : Nat) : Int) by rw [hk40]; rfl) rfl Tryz.underlying197 Tryz.sizeOf196) ?_
    refine v_load_cellsN (j := 20) st37.sub (K0.up (((((le4.trans le10).trans le18).trans le22).trans le32).trans le36)) (us := [.bool false, .bool false, .bool false, .bool true, .func (.func 257) #[] #[]]) X X Tryz.isAgg196 Tryz.sizeOf196 X X X<|zy st37 Tryz.zeroValue196 X X ?_
    intro b170 w171 st172
    refine zq st172 (k := 0) X X X (E X (E X (E X (E X (E X zI))))) Tryz.sizeOf196 X X X ?_
    intro w173 st174
    obtain ⟨h175, le176, hb177, st179⟩ := st174.freeze (k := 0) rfl
    have hc178 := Cells.of hb177
    refine Y<|W.sr<|v_field_addr X Tryz.underlying34 X Tryz.sizeOf3 X X<|v_load_cells1 (j := 0) st179.sub (hc11.up ((((le18.trans le22).trans le32).trans le36).trans le176)) X X X Tryz.isAgg3 X<|v_field_addr X Tryz.underlying34 X Tryz.sizeOf5 X X<|v_load_cells1 (j := 1) st179.sub (hc11.up ((((le18.trans le22).trans le32).trans le36).trans le176)) X X X Tryz.isAgg5 X<|ze X X (zY (cs := [.int .i64 (d.number), .int .u8 (d.kind), strV [], .int .i64 0, .int .i64 0, .int .i64 0, strV [], .int .u8 0, .int .i64 0]) t_kr)<|zy st179 Tryz.zeroValue34 X X ?_
    intro b180 w181 st182
    refine zq st182 (k := 1) X X X (E X (E X (E X (E X (E X (E X (E X (E X (E X zI))))))))) Tryz.sizeOf34 X X X ?_
    intro w183 st184
    refine Y<|zg<|W.sr<|v_field_addr X Tryz.underlying196 X Tryz.sizeOf4 X X<|v_load_cells1 (j := 0) st184.sub hc178 X X X Tryz.isAgg4 X<|Y ?_
    refine zh rfl (fun c185 => ?_) (fun c185 => ?_)
    ·
     cases c185
    ·
     refine zo<|U<|zg<|W.sr<|v_field_addr X Tryz.underlying196 X Tryz.sizeOf4 X X<|v_load_cells1 (j := 1) st184.sub hc178 X X X Tryz.isAgg4 X<|Y ?_
     refine zh rfl (fun c186 => ?_) (fun c186 => ?_)
     ·
      cases c186
     ·
      refine zo<|U<|zg<|W.sr<|v_field_addr X Tryz.underlying196 X Tryz.sizeOf4 X X<|v_load_cells1 (j := 2) st184.sub hc178 X X X Tryz.isAgg4 X<|Y ?_
      refine zh rfl (fun c187 => ?_) (fun c187 => ?_)
      ·
       cases c187
      ·
       refine zo<|U<|zg<|W.sr<|v_field_addr X Tryz.underlying196 X Tryz.sizeOf4 X X<|v_load_cells1 (j := 3) st184.sub hc178 X X X Tryz.isAgg4 X<|Y ?_
       refine zh rfl (fun c188 => ?_) (fun c188 => ?_)
       ·
        refine zm<|v_field_addr X Tryz.underlying34 X Tryz.sizeOf3 X X<|v_load_cells1 (j := 8) st184.sub (hc11.up ((((le18.trans le22).trans le32).trans le36).trans le176)) X X X Tryz.isAgg3 X<|v_field_addr X Tryz.underlying34 X Tryz.sizeOf3 X X<|OpsL.store1 st184 (k := 1) X X X X Tryz.sizeOf3 X X X ?_
        intro w189 st190
        refine Y<|W.sr<|v_load_call st190.sub (hc5.up (((((le10.trans le18).trans le22).trans le32).trans le36).trans le176)) X Tryz.isAgg24 Tryz.sizeOf24 X X<|v_field_addr X Tryz.underlying34 X Tryz.sizeOf30 X X<|v_load_cellsN (j := 3) st190.sub (hc11.up ((((le18.trans le22).trans le32).trans le36).trans le176)) (us := [.int .i64 (d.at_.chapter), .int .i64 (d.at_.line), .int .i64 (d.at_.word)]) X X Tryz.isAgg30 Tryz.sizeOf30 X X X<|za st190 X X X Tryz.call20 X (c_leaf_At st190.sub (t := t) (t_f0.up ((((((le4.trans le10).trans le18).trans le22).trans le32).trans le36).trans le176)) (p := d.at_)) ?_
        intro r191 w192 h193 le194 st195 q196
        obtain rfl := q196
        refine v_mvT X X<|v_extract (v := (strV _)) X X X<|v_extract (v := (.int _ _)) X X X<|v_asS X X<|v_asI X X<|Y<|zg ?_
        have qn : 1 ≤ d.number ∧ d.number ≤ 999 := by
         have q := c39
         simp [inAll, inB] at q
         omega
        refine zm<|v_load_call st195.sub (hc11.up (((((le18.trans le22).trans le32).trans le36).trans le176).trans le194)) X Tryz.isAgg34 Tryz.sizeOf34 X X<|v_load_ball (st195.get (k := 1) X) X Tryz.isAgg34 Tryz.sizeOf34 X X<|ze X X (r_steql X X Tryz.eqGuardType34 (Tryz.eq_Decision d (Decision.mk (d.number) (d.kind) ([]) (Place.mk 0 0 0) (Head.mk ([]) 0) (d.of_))))<|v_mvB X X ?_
        refine zp (d := 61) rfl (fun g197 => ?_) (fun g197 => ?_)
        ·
         replace g197 := of_decide_eq_true g197
         refine Z X X (d := 61) X<|v_field_addr X Tryz.underlying196 X Tryz.sizeOf4 X X<|Z X X (d := 61) X<|v_load_cells1 (j := 0) st195.sub (hc178.up le194) X X X Tryz.isAgg4 X<|Z X X (d := 61) X<|v_not X X<|Z X X (d := 61) X<|v_mvB X X<|M X X X X X<|M X X X X X<|M X X X X X<|Z X X (d := 61) X<|v_pickT (v := (.bool _)) X X X<|v_pickT (v := (.bool _)) X X X<|v_mvB X X<|Z X X (d := 71) X<|v_field_addr X Tryz.underlying196 X Tryz.sizeOf4 X X<|Z X X (d := 71) X<|v_load_cells1 (j := 1) st195.sub (hc178.up le194) X X X Tryz.isAgg4 X<|Z X X (d := 71) X<|v_not X X<|Z X X (d := 71) X<|v_mvB X X<|M X X X X X<|M X X X X X<|Z X X (d := 71) X<|v_pickT (v := (.bool _)) X X X<|v_pickT (v := (.bool _)) X X X<|v_mvB X X<|Z X X (d := 80) X ?_
         refine v_field_addr X Tryz.underlying196 X Tryz.sizeOf4 X X<|Z X X (d := 80) X<|v_load_cells1 (j := 2) st195.sub (hc178.up le194) X X X Tryz.isAgg4 X<|Z X X (d := 80) X<|v_not X X<|Z X X (d := 80) X<|v_mvB X X<|M X X X X X<|M X X X X X<|M X X X X X<|Z X X (d := 80) X<|v_pickT (v := (.bool _)) X X X<|v_pickT (v := (.bool _)) X X X<|v_mvB X X<|Z X X (d := 90) X<|v_field_addr X Tryz.underlying196 X Tryz.sizeOf4 X X<|Z X X (d := 90) X<|v_load_cells1 (j := 3) st195.sub (hc178.up le194) X X X Tryz.isAgg4 X<|Z X X (d := 90) X<|v_not X X<|Z X X (d := 90) X<|v_mvB X X<|Z X X (d := 94) X<|v_field_addr X Tryz.underlying34 X Tryz.sizeOf3 X X<|Z X X (d := 94) X<|v_load_cells1 (j := 0) st195.sub (hc11.up (((((le18.trans le22).trans le32).trans le36).trans le176).trans le194)) X X X Tryz.isAgg3 X<|Z X X (d := 94) X<|v_sub X X t_om X<|Z X X (d := 94) X<|v_field_addr X Tryz.underlying34 X Tryz.sizeOf3 X X ?_
         refine Z X X (d := 94) X<|v_load_cells1 (j := 8) st195.sub (hc11.up (((((le18.trans le22).trans le32).trans le36).trans le176).trans le194)) X X X Tryz.isAgg3 X<|Z X X (d := 94) X<|zG (L := LInt) (xs := [(d.of_)]) (cs := [.int .i64 (d.of_)]) st195 (Enc.cons (L := LInt) (vs := [.int .i64 (d.of_)]) (x := (d.of_)) (h := h193) (X) Enc.nil) X X X Tryz.underlying46 Tryz.info3 X X X t_kr ?_
         intro v198 w199 h202 le203 f200 st201
         refine Z X X (d := 94) X<|za st201 X X X Tryz.call88 X (c_stem_in st201.sub _ _ f200) ?_
         intro r204 w205 h206 le207 st208 q209
         obtain rfl := q209
         refine Z X X (d := 90) X<|v_pickF (v := (.bool _)) X X X<|v_pickT (v := (.bool _)) X X X<|v_asB X X<|Y<|zk<|O Tryz.results91 ?_
         refine ⟨h206, _, rfl, st208.done, ?_⟩
         refine zn ?_
         exact dec4_t ht hk40 c39 g197
        ·
         replace g197 := of_decide_eq_false g197
         refine M X X X X X<|M X X X X X<|M X X X X X<|M X X X X X<|zb X X (d := 65) X X<|zb X X (d := 65) X X<|zb X X (d := 65) X X<|M X X X X X<|v_pickF (v := (.bool _)) X X X<|v_mvB X X<|M X X X X X<|M X X X X X<|M X X X X X<|M X X X X X<|zb X X (d := 75) X X<|zb X X (d := 75) X X<|M X X X X X<|v_pickF (v := (.bool _)) X X X<|v_mvB X X<|M X X X X X<|M X X X X X<|M X X X X X<|M X X X X X<|zb X X (d := 84) X X<|zb X X (d := 84) X X<|zb X X (d := 84) X X<|M X X X X X<|v_pickF (v := (.bool _)) X X X<|v_mvB X X<|M X X X X X ?_
         refine M X X X X X<|M X X X X X<|M X X X X X<|zb X X (d := 94) X X<|zb X X (d := 94) X X<|zb X X (d := 94) X X<|zb X X (d := 94) X X<|zb X X (d := 94) X X<|zb X X (d := 94) X X<|zb X X (d := 94) X X<|M X X X X X<|v_pickF (v := (.bool _)) X X X<|v_asB X X<|Y<|zk<|O Tryz.results91 ?_
         refine ⟨h193, _, rfl, st195.done, ?_⟩
         refine zn ?_
         exact dec4_n ht hk40 c39 g197
       ·
        cases c188
end Go.Pk

namespace Go.Pk
open Go Go.RowKit Go.Proofs
set_option maxRecDepth 4000 in
theorem c_stem_all_api_Rule_st {xs : List Rule} {v : Value} {g : FuncId} {caps : List Value} (S : Nat → Heap → World → Prop) (p : Nat → Bool)
  (hS : ∀ k h w, S k h w → Sub h w ∧ Sl LRule h v xs) (hup : ∀ k h w h' w', S k h w → St h w h' w' [] → S k h' w')
  (hf : ∀ k x h w vs, S k h w → xs[k]? = some x → LRule.R h vs x → Calls Tryz.prog g (.agg vs.toArray :: caps).toArray w (fun e w' => ∃ h', e = .returned (.bool (p k)) ∧ Le h h' ∧ S (k + 1) h' w'))
  (hg : ∀ a w, (callFunc g a).run Tryz.prog w = .ok (.enter g a) w) {h : Heap} {w : World} (h0 : S 0 h w) :
  Calls Tryz.prog 86 #[v, .func (.func g) #[] caps.toArray] w (fun e w' => ∃ h' k b, e = .returned (.bool b) ∧ S k h' w' ∧ (b = true ↔ ∀ j, j < xs.length → p j = true)) := by
 refine zx (n := 9) (args := [v, .func (.func g) #[] caps.toArray]) Tryz.func86 X X X ?_
 have st0 : St h w h w [] := St.start (hS _ _ _ h0).1
 refine W.sr<|zl st0 (v := .func (.func g) #[] caps.toArray) (cs := [.func (.func g) #[] caps.toArray]) X X X ?_
 intro b w1 h1 le1 hc st1
 have h1S := hup _ _ _ _ _ h0 st1
 refine v_asB X X<|Y<|W.sr<|v_move (v := v) X X<|v_make_func X X X ?_
 have con := c_slices_ContainsFunc_Lapi_Rule_api_Rule_st (v := v) (g := 122) (caps := [.pointer (some ⟨b, 0, none⟩)]) (fun k h w => S k h w ∧ Cells h b 0 [.func (.func g) #[] caps.toArray]) (fun k => !p k) (fun k h w hs => hS k h w hs.1) (fun k x h2 w2 vs hs hx hr u hu => by
  subst hu
  obtain ⟨hs, hc2⟩ := hs
  refine zx (n := 8) (args := [.agg vs.toArray, .pointer (some ⟨b, 0, none⟩)]) Tryz.func122 X X X ?_
  have st2 : St h2 w2 h2 w2 [] := St.start (hS _ _ _ hs).1
  refine W.sr<|zl st2 (v := .agg vs.toArray) (cs := vs) X X X ?_
  intro b3 w3 h3 le3 hc3 st3
  have hs3 := hup _ _ _ _ _ hs st3
  refine v_asB X X<|Y<|W.sr<|v_load_cells1 (j := 0) st3.sub (hc2.up le3) X X X Tryz.isAgg159 X<|v_load_call st3.sub hc3 X Tryz.isAgg70 Tryz.sizeOf70 (LRule.len hr) X ?_
  refine zD rfl rfl (zaa (fs := []) (cs := caps) rfl rfl hg rfl) ((hf k x h3 w3 vs hs3 hx (LRule.up hr le3)).mono ?_)
  rintro e w4 ⟨h4, rfl, le4, hs4⟩
  refine ⟨_, rfl, ?_⟩
  refine v_not X X<|v_asB X X<|Y<|zk<|O Tryz.results122 ?_
  exact ⟨h4, rfl, hs4, hc2.up (le3.trans le4)⟩) Tryz.call122 ⟨h1S, hc⟩
 refine zD rfl rfl (zS rfl Tryz.call121 rfl) (con.mono ?_)
 rintro e w2 ⟨h2, k, rfl, q1, q2, q3, q4⟩
 refine ⟨_, rfl, ?_⟩
 refine v_not X X<|v_asB X X<|Y<|zk<|O Tryz.results86 ?_
 refine ⟨h2, _, _, rfl, q4.1, ?_⟩
 simp only [Bool.not_eq_true', decide_eq_false_iff_not, Bool.not_eq_false', Bool.not_eq_true] at q2 q3 ⊢
 constructor
 ·intro hk j hj
  exact q2 j (by omega)
 ·intro hall hk
  have := q3 hk
  rw [hall k hk] at this; cases this
/-- a test that hangs on no memory of its own -/
theorem c_stem_all_api_Rule {xs : List Rule} {v : Value} {g : FuncId} {caps : List Value} {h : Heap} {w : World} (hs : Sub h w) (hx : Sl LRule h v xs) (q : Rule → Bool)
  (hf : ∀ x h' w' vs, Le h h' → Sub h' w' → x ∈ xs → LRule.R h' vs x → ∀ u, u = .agg vs.toArray → Calls Tryz.prog g (u :: caps).toArray w' (Rets h' w' fun _ _ r => r = .bool (q x)))
  (hg : ∀ a w, (callFunc g a).run Tryz.prog w = .ok (.enter g a) w) :
  Calls Tryz.prog 86 #[v, .func (.func g) #[] caps.toArray] w (Rets h w fun _ _ r => r = .bool (xs.all q)) := by
 refine (c_stem_all_api_Rule_st (xs := xs) (v := v) (fun _ h' w' => St h w h' w' []) (fun k => ((xs[k]?).map q).getD true) (fun k h' w' s => ⟨s.sub, hx.up s.le⟩) (fun k h1 w1 h2 w2 s1 s2 => s1.call0 s2) (fun k x h1 w1 vs s1 hk hr => ?_) hg (St.start hs)).mono ?_
 ·refine (hf x h1 w1 vs s1.le s1.sub (List.mem_of_getElem? hk) hr _ rfl).mono ?_
  rintro e w2 ⟨h2, r, rfl, s2, rfl⟩
  refine ⟨h2, ?_, s2.le, s1.call0 s2⟩
  rw [hk]; rfl
 ·rintro e w2 ⟨h2, k, b, rfl, s2, hb⟩
  refine ⟨h2, _, rfl, s2, congrArg Value.bool ?_⟩
  rw [Bool.eq_iff_iff, hb, List.all_eq_true]
  constructor
  ·intro hall x hx'
   obtain ⟨j, hj⟩ := List.mem_iff_getElem?.1 hx'
   have := hall j (List.getElem?_eq_some_iff.1 hj).1
   rw [hj] at this; exact this
  ·intro hall j hj
   rw [List.getElem?_eq_getElem hj]
   exact hall _ (List.getElem_mem hj)
set_option maxRecDepth 4000 in
theorem c_stem_all_api_Decision_st {xs : List Decision} {v : Value} {g : FuncId} {caps : List Value} (S : Nat → Heap → World → Prop) (p : Nat → Bool)
  (hS : ∀ k h w, S k h w → Sub h w ∧ Sl LDecision h v xs) (hup : ∀ k h w h' w', S k h w → St h w h' w' [] → S k h' w')
  (hf : ∀ k x h w vs, S k h w → xs[k]? = some x → LDecision.R h vs x → Calls Tryz.prog g (.agg vs.toArray :: caps).toArray w (fun e w' => ∃ h', e = .returned (.bool (p k)) ∧ Le h h' ∧ S (k + 1) h' w'))
  (hg : ∀ a w, (callFunc g a).run Tryz.prog w = .ok (.enter g a) w) {h : Heap} {w : World} (h0 : S 0 h w) :
  Calls Tryz.prog 89 #[v, .func (.func g) #[] caps.toArray] w (fun e w' => ∃ h' k b, e = .returned (.bool b) ∧ S k h' w' ∧ (b = true ↔ ∀ j, j < xs.length → p j = true)) := by
 refine zx (n := 9) (args := [v, .func (.func g) #[] caps.toArray]) Tryz.func89 X X X ?_
 have st0 : St h w h w [] := St.start (hS _ _ _ h0).1
 refine W.sr<|zl st0 (v := .func (.func g) #[] caps.toArray) (cs := [.func (.func g) #[] caps.toArray]) X X X ?_
 intro b w1 h1 le1 hc st1
 have h1S := hup _ _ _ _ _ h0 st1
 refine v_asB X X<|Y<|W.sr<|v_move (v := v) X X<|v_make_func X X X ?_
 have con := c_slices_ContainsFunc_Lapi_Decision_api_Decision_st (v := v) (g := 126) (caps := [.pointer (some ⟨b, 0, none⟩)]) (fun k h w => S k h w ∧ Cells h b 0 [.func (.func g) #[] caps.toArray]) (fun k => !p k) (fun k h w hs => hS k h w hs.1) (fun k x h2 w2 vs hs hx hr u hu => by
  subst hu
  obtain ⟨hs, hc2⟩ := hs
  refine zx (n := 8) (args := [.agg vs.toArray, .pointer (some ⟨b, 0, none⟩)]) Tryz.func126 X X X ?_
  have st2 : St h2 w2 h2 w2 [] := St.start (hS _ _ _ hs).1
  refine W.sr<|zl st2 (v := .agg vs.toArray) (cs := vs) X X X ?_
  intro b3 w3 h3 le3 hc3 st3
  have hs3 := hup _ _ _ _ _ hs st3
  refine v_asB X X<|Y<|W.sr<|v_load_cells1 (j := 0) st3.sub (hc2.up le3) X X X Tryz.isAgg162 X<|v_load_call st3.sub hc3 X Tryz.isAgg34 Tryz.sizeOf34 (LDecision.len hr) X ?_
  refine zD rfl rfl (zaa (fs := []) (cs := caps) rfl rfl hg rfl) ((hf k x h3 w3 vs hs3 hx (LDecision.up hr le3)).mono ?_)
  rintro e w4 ⟨h4, rfl, le4, hs4⟩
  refine ⟨_, rfl, ?_⟩
  refine v_not X X<|v_asB X X<|Y<|zk<|O Tryz.results126 ?_
  exact ⟨h4, rfl, hs4, hc2.up (le3.trans le4)⟩) Tryz.call126 ⟨h1S, hc⟩
 refine zD rfl rfl (zS rfl Tryz.call125 rfl) (con.mono ?_)
 rintro e w2 ⟨h2, k, rfl, q1, q2, q3, q4⟩
 refine ⟨_, rfl, ?_⟩
 refine v_not X X<|v_asB X X<|Y<|zk<|O Tryz.results89 ?_
 refine ⟨h2, _, _, rfl, q4.1, ?_⟩
 simp only [Bool.not_eq_true', decide_eq_false_iff_not, Bool.not_eq_false', Bool.not_eq_true] at q2 q3 ⊢
 constructor
 ·intro hk j hj
  exact q2 j (by omega)
 ·intro hall hk
  have := q3 hk
  rw [hall k hk] at this; cases this
end Go.Pk

namespace Go.Pk
open Go Go.RowKit Go.Proofs
set_option maxRecDepth 4000 in
theorem c_stem_Check_1 {h : Heap} {w : World} (hs : Sub h w) {r : Rule} (r_l1 : r.cut.length ≤ 281474976710656) (r_l2 : r.put.length ≤ 281474976710656) : Calls Tryz.prog 87 #[.agg #[strV r.cut, strV r.put, .int .i64 r.least]] w (Rets h w (fun _ _ res_ => res_ = .bool (ruleB r))) := by
 refine zx (n := 24) (args := [.agg #[strV r.cut, strV r.put, .int .i64 r.least]]) Tryz.func87 X X X ?_
 have st0 : St h w h w [] := St.start hs
 refine W.sr<|zl st0 (cs := [strV (r.cut), strV (r.put), .int .i64 (r.least)]) X X X ?_
 intro b1 w2 h3 le4 hc5 st6
 refine v_asB X X<|Y<|W.sr<|v_field_addr X Tryz.underlying70 X Tryz.sizeOf9 X X<|v_load_cells1 (j := 0) st6.sub hc5 X X X Tryz.isAgg9 X<|za st6 X X X Tryz.call77 X (c_stem_letters st6.sub _ zO _) ?_
 intro r7 w8 h9 le10 st11 q12
 obtain rfl := q12
 refine v_mvB X X ?_
 refine zp (d := 6) rfl (fun g13 => ?_) (fun g13 => ?_)
 ·
  refine Z X X (d := 6) X<|v_field_addr X Tryz.underlying70 X Tryz.sizeOf9 X X<|Z X X (d := 6) X<|v_load_cells1 (j := 1) st11.sub (hc5.up le10) X X X Tryz.isAgg9 X<|Z X X (d := 6) X<|za st11 X X X Tryz.call77 X (c_stem_letters st11.sub _ zO _) ?_
  intro r14 w15 h16 le17 st18 q19
  obtain rfl := q19
  refine v_pickT (v := (.bool _)) X X X<|v_mvB X X ?_
  refine zp (d := 11) rfl (fun g20 => ?_) (fun g20 => ?_)
  ·
   refine Z X X (d := 11) X<|v_field_addr X Tryz.underlying70 X Tryz.sizeOf9 X X<|Z X X (d := 11) X<|v_load_cells1 (j := 0) st18.sub (hc5.up (le10.trans le17)) X X X Tryz.isAgg9 X<|Z X X (d := 11) X<|v_field_addr X Tryz.underlying70 X Tryz.sizeOf9 X X<|Z X X (d := 11) X<|v_load_cells1 (j := 1) st18.sub (hc5.up (le10.trans le17)) X X X Tryz.isAgg9 X<|Z X X (d := 11) X<|ze X X (r_sneq X X)<|v_pickT (v := (.bool _)) X X X<|v_mvB X X ?_
   refine zp (d := 18) rfl (fun g21 => ?_) (fun g21 => ?_)
   ·
    replace g21 := of_decide_eq_true g21
    refine Z X X (d := 18) X<|v_field_addr X Tryz.underlying70 X Tryz.sizeOf3 X X<|Z X X (d := 18) X<|v_load_cells1 (j := 2) st18.sub (hc5.up (le10.trans le17)) X X X Tryz.isAgg3 X<|Z X X (d := 18) X<|zG (L := LInt) (xs := [(r.least)]) (cs := [.int .i64 (r.least)]) st18 (Enc.cons (L := LInt) (vs := [.int .i64 (r.least)]) (x := (r.least)) (h := h16) (X) Enc.nil) X X X Tryz.underlying46 Tryz.info3 X X X t_kr ?_
    intro v22 w23 h26 le27 f24 st25
    refine Z X X (d := 18) X<|za st25 X X X Tryz.call88 X (c_stem_in st25.sub _ _ f24) ?_
    intro r28 w29 h30 le31 st32 q33
    obtain rfl := q33
    refine v_pickT (v := (.bool _)) X X X<|v_asB X X<|Y<|zk<|O Tryz.results87 ?_
    refine ⟨h30, _, rfl, st32.done, ?_⟩
    refine zn ?_
    simp_all [ruleB, inAll_one]
   ·
    replace g21 := of_decide_eq_false g21
    refine M X X X X X<|M X X X X X<|M X X X X X<|M X X X X X<|v_pickF (v := (.bool _)) X X X<|v_asB X X<|Y<|zk<|O Tryz.results87 ?_
    refine ⟨h16, _, rfl, st18.done, ?_⟩
    refine zn ?_
    simp_all [ruleB, inAll_one]
  ·
   refine M X X X X X<|M X X X X X<|M X X X X X<|M X X X X X<|M X X X X X<|v_pickF (v := (.bool _)) X X X<|v_mvB X X<|M X X X X X<|M X X X X X<|M X X X X X<|M X X X X X<|v_pickF (v := (.bool _)) X X X<|v_asB X X<|Y<|zk<|O Tryz.results87 ?_
   refine ⟨h16, _, rfl, st18.done, ?_⟩
   refine zn ?_
   simp_all [ruleB, inAll_one]
 ·
  refine M X X X X X<|M X X X X X<|M X X X X X<|v_pickF (v := (.bool _)) X X X<|v_mvB X X<|M X X X X X<|M X X X X X<|M X X X X X<|M X X X X X<|M X X X X X<|v_pickF (v := (.bool _)) X X X<|v_mvB X X<|M X X X X X<|M X X X X X<|M X X X X X<|M X X X X X<|v_pickF (v := (.bool _)) X X X<|v_asB X X<|Y<|zk<|O Tryz.results87 ?_
  refine ⟨h9, _, rfl, st11.done, ?_⟩
  refine zn ?_
  simp_all [ruleB, inAll_one]
set_option maxRecDepth 4000 in
theorem c_stem_Check_2 {h0 h : Heap} {w0 w : World} {rest : Own} {m : List (Int × Bool)} {m_o : List (Nat × Obj)} {m_v : Value} (m_M : OM (fun n : Int => .int .i64 n) (fun b : Bool => .bool b) m m_o m_v) (m_N : (m.map (·.1)).Nodup) {d : Decision} (d_l2 : 0 ≤ d.kind ∧ d.kind ≤ 255) (d_l3 : d.form.length ≤ 281474976710656) (d_l7 : d.to.stem.length ≤ 281474976710656) (d_l8 : 0 ≤ d.to.mark ∧ d.to.mark ≤ 255) {numbers_b : Nat} (numbers_c : Cells h numbers_b 0 [m_v]) {t_b : Nat} {t : Text} {t_v0 : Value} (t_f0 : Sl LChapter h t_v0 t.chapters) (t_c : Cells h t_b 0 [t_v0]) (K0 : Cells h 0 0 Tryz.glob0) (ht : textB t = true) (st0 : St h0 w0 h w (m_o :: rest)) : Calls Tryz.prog 90 #[.agg #[.int .i64 d.number, .int .u8 d.kind, strV d.form, .int .i64 d.at_.chapter, .int .i64 d.at_.line, .int .i64 d.at_.word, strV d.to.stem, .int .u8 d.to.mark, .int .i64 d.of_], .pointer (some ⟨numbers_b, 0, none⟩), .pointer (some ⟨t_b, 0, none⟩)] w (fun e_ w' => ∃ h' res_ m_o', e_ = .returned res_ ∧ Le h h' ∧ St h0 w0 h' w' (m_o' :: rest) ∧ OM (fun n : Int => .int .i64 n) (fun b : Bool => .bool b) (putM m d.number true) m_o' m_v ∧ ((putM m d.number true).map (·.1)).Nodup ∧ (res_ = .bool ((!((look m d.number).getD false) && decisionB t d)))) := by
 refine zx (n := 20) (args := [.agg #[.int .i64 d.number, .int .u8 d.kind, strV d.form, .int .i64 d.at_.chapter, .int .i64 d.at_.line, .int .i64 d.at_.word, strV d.to.stem, .int .u8 d.to.mark, .int .i64 d.of_], .pointer (some ⟨numbers_b, 0, none⟩), .pointer (some ⟨t_b, 0, none⟩)]) Tryz.func90 X X X ?_
 have t_f0_b := t_f0.le
 refine W.sr<|zl st0 (cs := [.int .i64 (d.number), .int .u8 (d.kind), strV (d.form), .int .i64 (d.at_.chapter), .int .i64 (d.at_.line), .int .i64 (d.at_.word), strV (d.to.stem), .int .u8 (d.to.mark), .int .i64 (d.of_)]) X X X ?_
 intro b1 w2 h3 le4 hc5 st6
 refine v_asB X X<|Y<|W.sr<|v_load_cells1 (j := 0) st6.sub (numbers_c.up le4) X X X Tryz.isAgg49 X<|v_field_addr X Tryz.underlying34 X Tryz.sizeOf3 X X<|v_load_cells1 (j := 0) st6.sub hc5 X X X Tryz.isAgg3 X<|ze X X (r_look (k := (d.number)) (zu := false) (key_int Tryz.underlying3) Tryz.underlying49 m_M (st6.ent (k := 0) X) Tryz.zeroValue4 X X X)<|v_asB X X<|Y<|W.sr<|v_load_cells1 (j := 0) st6.sub (numbers_c.up le4) X X X Tryz.isAgg49 X<|v_field_addr X Tryz.underlying34 X Tryz.sizeOf3 X X<|v_load_cells1 (j := 0) st6.sub hc5 X X X Tryz.isAgg3 X<|OpsL.mapUpdate (i := 0) st6 m_M X m_N (key_int Tryz.underlying3) Tryz.underlying49 X (k := (d.number)) X (u := true) X ?_
 intro o7 w8 _ e9 f10 nd11 st12
 subst e9
 refine Y<|W.sr<|v_mvB X X<|v_not X X<|v_mvB X X ?_
 refine zp (d := 15) rfl (fun g13 => ?_) (fun g13 => ?_)
 ·
  refine Z X X (d := 15) X<|v_load_call st12.sub (t_c.up le4) X Tryz.isAgg24 Tryz.sizeOf24 X X<|Z X X (d := 15) X<|v_load_call st12.sub hc5 X Tryz.isAgg34 Tryz.sizeOf34 X X<|Z X X (d := 15) X ?_
  refine za st12 rfl rfl rfl Tryz.call91 rfl (c_stem_decided st12.sub (t := t) (t_f0.up le4) (d := d) t_u8 zO zO t_u8 (K0.up le4) (by assumption)) ?_
  intro r14 w15 h16 le17 st18 q19
  obtain rfl := q19
  refine v_pickT (v := (.bool _)) X X X<|v_asB X X<|Y<|zk<|O Tryz.results90 ?_
  refine ⟨h16, _, o7, rfl, (le4.trans le17), st18, f10, nd11, ?_⟩
  refine zn ?_
  simp_all
 ·
  refine M X X X X X<|M X X X X X<|M X X X X X<|v_pickF (v := (.bool _)) X X X<|v_asB X X<|Y<|zk<|O Tryz.results90 ?_
  refine ⟨h3, _, o7, rfl, le4, st12, f10, nd11, ?_⟩
  refine zn ?_
  simp_all
set_option maxRecDepth 4000 in
theorem c_stem_Check {h : Heap} {w : World} (hs : Sub h w) {t : Text} {t_v0 : Value} (t_f0 : Sl LChapter h t_v0 t.chapters) {x : Lexicon} {x_v0 : Value} (x_f0 : Sl LRule h x_v0 x.rules) {x_v1 : Value} (x_f1 : Sl LDecision h x_v1 x.decisions) (K0 : Cells h 0 0 Tryz.glob0) : Calls Tryz.prog 48 #[.agg #[t_v0], .agg #[x_v0, x_v1]] w (Rets h w (fun _ _ res_ => res_ = .int .i64 (checkN t x))) := by
 refine zx (n := 40) (args := [.agg #[t_v0], .agg #[x_v0, x_v1]]) Tryz.func48 X X X ?_
 have st0 : St h w h w [] := St.start hs
 have t_f0_b := t_f0.le
 have x_f0_b := x_f0.le
 have x_f1_b := x_f1.le
 refine W.sr<|zl st0 (cs := [t_v0]) X X X ?_
 intro b1 w2 h3 le4 hc5 st6
 refine zl st6 (cs := [x_v0, x_v1]) X X X ?_
 intro b7 w8 h9 le10 hc11 st12
 refine v_asI X X<|Y<|zg<|W.sr<|v_load_call st12.sub (hc5.up le10) X Tryz.isAgg24 Tryz.sizeOf24 X X<|za st12 X X X Tryz.call85 X (c_leaf_Check st12.sub (t := t) (t_f0.up (le4.trans le10))) ?_
 intro r13 w14 h15 le16 st17 q18
 obtain rfl := q18
 refine v_asI X X<|Y<|W.sr<|v_mvI X X<|v_neq X X X<|Y ?_
 refine zh rfl (fun c19 => ?_) (fun c19 => ?_)
 ·
  replace c19 := of_decide_eq_true c19
  refine W.sr<|v_mvI X X<|v_asI X X<|Y<|zk<|zd<|O Tryz.results48 ?_
  refine ⟨h15, _, rfl, st17.done, ?_⟩
  refine zC ?_
  first | (simp_all [checkN, lexiconB]; done) | (simp_all [checkN, lexiconB]; omega) | (simp [checkN, ht, lexiconB]; intros; omega)
 ·
  replace c19 := of_decide_eq_false c19
  refine zo<|U<|W.sr<|OpsL.makeMap (κ := Int) (υ := Bool) (ek := (fun n : Int => .int .i64 n)) (eu := (fun b : Bool => .bool b)) st17 X ?_
  intro v20 o21 w22 f23 st24
  obtain ⟨mb25, rfl⟩ := f23.form
  have nd26 : (([] : List (Int × Bool)).map (·.1)).Nodup := by simp
  refine zy st24 Tryz.zeroValue49 X X ?_
  intro b27 w28 st29
  refine OpsL.store1 st29 (k := 1) X X (v := (.map (some mb25))) X f23.one Tryz.sizeOf49 X X X ?_
  intro w30 st31
  obtain ⟨h32, le33, hb34, st36⟩ := st31.freeze (k := 1) rfl
  have hc35 := Cells.of hb34
  refine Y<|W.sr<|v_field_addr X Tryz.underlying28 X Tryz.sizeOf25 X X<|v_load_cells1 (j := 0) st36.sub (hc11.up (le16.trans le33)) X X X Tryz.isAgg25 X ?_
  refine za st36 rfl rfl rfl Tryz.call86 rfl (c_stem_all_api_Rule st36.sub (x_f0.up (((le4.trans le10).trans le16).trans le33)) (fun x_ => ruleB (x_)) (fun x_ h_ w_ vs_ le_ hs_ hx_ hr_ u_ hu_ => by obtain ⟨rfl, f0_, f1_⟩ := hr_; cases hu_; simp only [big] at *; exact c_stem_Check_1 hs_ (r := x_) f0_ f1_) Tryz.call87) ?_
  intro r37 w38 h39 le40 st41 q42
  obtain rfl := q42
  refine v_asB X X<|Y<|W.sr<|v_field_addr X Tryz.underlying28 X Tryz.sizeOf26 X X<|v_load_cells1 (j := 1) st41.sub (hc11.up ((le16.trans le33).trans le40)) X X X Tryz.isAgg26 X<|v_make_func X X X ?_
  have ht : textB t = true := by
   have q := c19
   cases e : textB t with
   | true => rfl
   | false => rw [e] at q; simp at q
  have con := c_stem_all_api_Decision_st (xs := x.decisions) (v := x_v1) (g := 90) (caps := [.pointer (some ⟨b27, 0, none⟩), .pointer (some ⟨b1, 0, none⟩)]) (fun (k_ : Nat) (h_ : Heap) (w_ : World) => ∃ (m_ : List (Int × Bool)) (o_ : List (Nat × Obj)), Le h39 h_ ∧ St h w h_ w_ [o_, []] ∧ OM (fun n : Int => .int .i64 n) (fun b : Bool => .bool b) m_ o_ (.map (some mb25)) ∧ (m_.map (·.1)).Nodup ∧ (∀ n_, (look m_ n_).getD false = decide (n_ ∈ ((x.decisions).take k_).map (·.number)))) (decP t x.decisions) ?_ ?_ ?_ Tryz.call90 ⟨[], _, Le.refl _, st41, f23, nd26, by simp [look]⟩
  rotate_left
  ·rintro k_ h_ w_ ⟨m_, o_, l_, s_, _⟩
   exact ⟨s_.sub, (x_f1.up ((((le4.trans le10).trans le16).trans le33).trans le40)).up l_⟩
  ·rintro k_ h_ w_ h2_ w2_ ⟨m_, o_, l_, s_, q_⟩ s2_
   exact ⟨m_, o_, l_.trans s2_.le, s_.call0 s2_, q_⟩
  ·rintro k_ d_ h_ w_ vs_ ⟨m_, o_, l_, s_, hM_, hN_, hm_⟩ hx_ hr_
   obtain ⟨rfl, f0_, f1_, f2_, f3_⟩ := hr_
   simp only [big] at *
   refine (c_stem_Check_2 hM_ hN_ (d := d_) f0_ f1_ f2_ f3_ ((hc35.up le40).up l_) (t := t) ((t_f0.up ((((le4.trans le10).trans le16).trans le33).trans le40)).up l_) ((hc5.up (((le10.trans le16).trans le33).trans le40)).up l_) ((K0.up ((((le4.trans le10).trans le16).trans le33).trans le40)).up l_) (by assumption) s_).mono ?_
   rintro e_ w3_ ⟨h3_, res_, o3_, rfl, l3_, s3_, hM3_, hN3_, rfl⟩
   refine ⟨h3_, ?_, l3_, _, _, l_.trans l3_, s3_, hM3_, hN3_, ?_⟩
   ·rw [decP_some hx_, hm_]
   ·intro n_
    rw [look_putM, take_snoc hx_, List.map_append]
    by_cases e_ : n_ = d_.number
    ·simp [e_]
    ·simp only [if_neg e_, hm_]; simp [e_]
  refine zD rfl rfl (zS rfl Tryz.call89 rfl) (con.mono ?_)
  rintro _ w44 ⟨h45, k50, bb49, rfl, ⟨m51, o52, le53, st47, hM54, hN55, hm56⟩, hb48⟩
  refine ⟨_, rfl, ?_⟩
  clear con
  have hdB := decisions_iff hb48
  clear hb48
  subst hdB
  refine v_asB X X<|Y<|zg<|W.sr<|v_mvB X X<|v_not X X<|v_mvB X X ?_
  refine zp (d := 24) rfl (fun g57 => ?_) (fun g57 => ?_)
  ·
   refine M X X X X X<|M X X X X X<|v_pickT (v := (.bool _)) X X X<|v_mvB X X<|M X X X X X<|M X X X X X<|M X X X X X<|M X X X X X<|v_pickT (v := (.bool _)) X X X<|v_mvB X X<|M X X X X X<|M X X X X X<|M X X X X X<|M X X X X X<|v_pickT (v := (.bool _)) X X X<|Y ?_
   refine zh rfl (fun c58 => ?_) (fun c58 => ?_)
   ·
    refine W.sr<|v_asI X X<|Y<|zk<|zd<|O Tryz.results48 ?_
    refine ⟨h45, _, rfl, st47.done, ?_⟩
    refine zC ?_
    cases e : x.rules.all ruleB with
    | true => exact absurd g57 (by rw [e]; simp)
    | false => simp only [checkN, ht, lexiconB, e]; simp
   ·
    cases c58
  ·
   refine Z X X (d := 24) X<|v_mvB X X<|Z X X (d := 24) X<|v_not X X<|v_pickF (v := (.bool _)) X X X<|v_mvB X X ?_
   refine zp (d := 28) rfl (fun g59 => ?_) (fun g59 => ?_)
   ·
    refine M X X X X X<|M X X X X X<|M X X X X X<|M X X X X X<|v_pickT (v := (.bool _)) X X X<|v_mvB X X<|M X X X X X<|M X X X X X<|M X X X X X<|M X X X X X<|v_pickT (v := (.bool _)) X X X<|Y ?_
    refine zh rfl (fun c60 => ?_) (fun c60 => ?_)
    ·
     refine W.sr<|v_asI X X<|Y<|zk<|zd<|O Tryz.results48 ?_
     refine ⟨h45, _, rfl, st47.done, ?_⟩
     refine zC ?_
     have q : (x.decisions.all (decisionB t) && decide (x.decisions.map (·.number)).Nodup) = false := by
      cases e : (x.decisions.all (decisionB t) && decide (x.decisions.map (·.number)).Nodup) with
      | true => exact absurd g59 (by rw [e]; simp)
      | false => rfl
     rw [checkN, show lexiconB t x = (decide (x.rules.length ≤ 12) && (decide (x.decisions.length ≤ 20) && (x.rules.all ruleB && (x.decisions.all (decisionB t) && decide (x.decisions.map (·.number)).Nodup)))) from by simp only [lexiconB, Bool.and_assoc], q]
     simp [ht]
    ·
     cases c60
   ·
    refine Z X X (d := 28) X<|v_field_addr X Tryz.underlying28 X Tryz.sizeOf25 X X<|Z X X (d := 28) X<|v_load_cells1 (j := 0) st47.sub (hc11.up (((le16.trans le33).trans le40).trans le53)) X X X Tryz.isAgg25 X<|Z X X (d := 28) X<|v_len (x_f0.up (((((le4.trans le10).trans le16).trans le33).trans le40).trans le53)) X Tryz.underlying25 X<|Z X X (d := 28) X<|v_gtr X X X<|v_pickF (v := (.bool _)) X X X<|v_mvB X X ?_
    refine zp (d := 34) rfl (fun g61 => ?_) (fun g61 => ?_)
    ·
     replace g61 := of_decide_eq_true g61
     refine M X X X X X<|M X X X X X<|M X X X X X<|M X X X X X<|v_pickT (v := (.bool _)) X X X<|Y ?_
     refine zh rfl (fun c62 => ?_) (fun c62 => ?_)
     ·
      refine W.sr<|v_asI X X<|Y<|zk<|zd<|O Tryz.results48 ?_
      refine ⟨h45, _, rfl, st47.done, ?_⟩
      refine zC ?_
      first | (simp_all [checkN, lexiconB]; done) | (simp_all [checkN, lexiconB]; omega) | (simp [checkN, ht, lexiconB]; intros; omega)
     ·
      cases c62
    ·
     replace g61 := of_decide_eq_false g61
     refine Z X X (d := 34) X<|v_field_addr X Tryz.underlying28 X Tryz.sizeOf26 X X<|Z X X (d := 34) X<|v_load_cells1 (j := 1) st47.sub (hc11.up (((le16.trans le33).trans le40).trans le53)) X X X Tryz.isAgg26 X<|Z X X (d := 34) X<|v_len (x_f1.up (((((le4.trans le10).trans le16).trans le33).trans le40).trans le53)) X Tryz.underlying26 X<|Z X X (d := 34) X<|v_gtr X X X<|v_pickF (v := (.bool _)) X X X<|Y ?_
     refine zh rfl (fun c63 => ?_) (fun c63 => ?_)
     ·
      replace c63 := of_decide_eq_true c63
      refine W.sr<|v_asI X X<|Y<|zk<|zd<|O Tryz.results48 ?_
      refine ⟨h45, _, rfl, st47.done, ?_⟩
      refine zC ?_
      first | (simp_all [checkN, lexiconB]; done) | (simp_all [checkN, lexiconB]; omega) | (simp [checkN, ht, lexiconB]; intros; omega)
     ·
      replace c63 := of_decide_eq_false c63
      refine zo<|U<|W.sr<|v_asI X X<|Y<|zk<|O Tryz.results48 ?_
      refine ⟨h45, _, rfl, st47.done, ?_⟩
      refine zC ?_
      first | (simp_all [checkN, lexiconB]; done) | (simp_all [checkN, lexiconB]; omega) | (simp [checkN, ht, lexiconB]; intros; omega)
end Go.Pk

namespace Go.Pk
open Go Go.RowKit Go.Proofs
set_option maxRecDepth 4000 in
theorem zad {h : Heap} {w : World} (hs : Sub h w) {s_v : Value} {s : (List Decision)} (s_f : Sl LDecision h s_v s) (hl : s.length * 88 ≤ 140737488355328) : Calls Tryz.prog 64 #[s_v] w (fun e_ w' => ∃ h' res_ o_, e_ = .returned res_ ∧ Le h h' ∧ St h w h' w' [o_] ∧ OSl LDecision 34 h' res_ (s) o_) := by
 refine zx (n := 8) (args := [s_v]) Tryz.func64 X X X ?_
 have st0 : St h w h w [] := St.start hs
 have s_f_b := s_f.le
 refine W.sr<|v_asL X X<|Y<|zg<|W.sr<|v_move (v := s_v) X X ?_
 obtain ⟨nb1, hn2, hn2_r⟩ := Sl.nilb (P := Tryz.prog) s_f
 refine ze X X (hn2_r Tryz.underlying26 X X)<|Y ?_
 refine zh rfl (fun c3 => ?_) (fun c3 => ?_)
 ·
  refine W.sr<|v_asL X X<|Y<|zk<|zd<|O Tryz.results64 ?_
  have st4 := st0.snoc
  have f5 := OSl.nil LDecision 34 h
  refine ⟨h, _, _, rfl, Le.refl _, st4, OSl.to f5 ?_⟩
  simp_all
 ·
  refine zo<|U<|W.sr<|OpsL.sliceE (L := LDecision) st0 X ⟨_, Tryz.sizeOf34⟩ Tryz.underlying26 ?_
  intro v6 o7 w8 f9 st10
  refine v_move (v := s_v) X X ?_
  refine OpsL.append (k := 0) (nb := 88) st10 f9 rfl s_f rfl rfl rfl Tryz.underlying26 Tryz.info34 rfl rfl rfl (by decide) rfl t_om t_om ?_
  intro v11 o12 w13 _ e14 f15 st16
  subst e14
  refine v_assign (v := v11) X X<|Y<|zk<|O Tryz.results64 ?_
  refine ⟨h, _, _, rfl, Le.refl _, st16, OSl.to f15 ?_⟩
  simp
set_option maxRecDepth 4000 in
theorem c_slices_Clone_Lapi_Rule_api_Rule {h : Heap} {w : World} (hs : Sub h w) {s_v : Value} {s : (List Rule)} (s_f : Sl LRule h s_v s) (hl : s.length * 40 ≤ 140737488355328) : Calls Tryz.prog 63 #[s_v] w (fun e_ w' => ∃ h' res_ o_, e_ = .returned res_ ∧ Le h h' ∧ St h w h' w' [o_] ∧ OSl LRule 70 h' res_ (s) o_) := by
 refine zx (n := 8) (args := [s_v]) Tryz.func63 X X X ?_
 have st0 : St h w h w [] := St.start hs
 have s_f_b := s_f.le
 refine W.sr<|v_asL X X<|Y<|zg<|W.sr<|v_move (v := s_v) X X ?_
 obtain ⟨nb1, hn2, hn2_r⟩ := Sl.nilb (P := Tryz.prog) s_f
 refine ze X X (hn2_r Tryz.underlying25 X X)<|Y ?_
 refine zh rfl (fun c3 => ?_) (fun c3 => ?_)
 ·
  refine W.sr<|v_asL X X<|Y<|zk<|zd<|O Tryz.results63 ?_
  have st4 := st0.snoc
  have f5 := OSl.nil LRule 70 h
  refine ⟨h, _, _, rfl, Le.refl _, st4, OSl.to f5 ?_⟩
  simp_all
 ·
  refine zo<|U<|W.sr<|OpsL.sliceE (L := LRule) st0 X ⟨_, Tryz.sizeOf70⟩ Tryz.underlying25 ?_
  intro v6 o7 w8 f9 st10
  refine v_move (v := s_v) X X ?_
  refine OpsL.append (k := 0) (nb := 40) st10 f9 rfl s_f rfl rfl rfl Tryz.underlying25 Tryz.info70 rfl rfl rfl (by decide) rfl t_om t_om ?_
  intro v11 o12 w13 _ e14 f15 st16
  subst e14
  refine v_assign (v := v11) X X<|Y<|zk<|O Tryz.results63 ?_
  refine ⟨h, _, _, rfl, Le.refl _, st16, OSl.to f15 ?_⟩
  simp
end Go.Pk

namespace Go.Pk
open Go Go.RowKit Go.Proofs
set_option maxRecDepth 4000 in
theorem c_stem_opened_1 {h : Heap} {w : World} (hs : Sub h w) {a : Decision} (a_l2 : 0 ≤ a.kind ∧ a.kind ≤ 255) (a_l3 : a.form.length ≤ 281474976710656) (a_l7 : a.to.stem.length ≤ 281474976710656) (a_l8 : 0 ≤ a.to.mark ∧ a.to.mark ≤ 255) {b : Decision} (b_l2 : 0 ≤ b.kind ∧ b.kind ≤ 255) (b_l3 : b.form.length ≤ 281474976710656) (b_l7 : b.to.stem.length ≤ 281474976710656) (b_l8 : 0 ≤ b.to.mark ∧ b.to.mark ≤ 255) (ha : 1 ≤ a.number ∧ a.number ≤ 999) (hb : 1 ≤ b.number ∧ b.number ≤ 999) : Calls Tryz.prog 103 #[.agg #[.int .i64 a.number, .int .u8 a.kind, strV a.form, .int .i64 a.at_.chapter, .int .i64 a.at_.line, .int .i64 a.at_.word, strV a.to.stem, .int .u8 a.to.mark, .int .i64 a.of_], .agg #[.int .i64 b.number, .int .u8 b.kind, strV b.form, .int .i64 b.at_.chapter, .int .i64 b.at_.line, .int .i64 b.at_.word, strV b.to.stem, .int .u8 b.to.mark, .int .i64 b.of_]] w (Rets h w (fun _ _ res_ => res_ = .int .i64 (b.number - a.number))) := by
 refine zx (n := 10) (args := [.agg #[.int .i64 a.number, .int .u8 a.kind, strV a.form, .int .i64 a.at_.chapter, .int .i64 a.at_.line, .int .i64 a.at_.word, strV a.to.stem, .int .u8 a.to.mark, .int .i64 a.of_], .agg #[.int .i64 b.number, .int .u8 b.kind, strV b.form, .int .i64 b.at_.chapter, .int .i64 b.at_.line, .int .i64 b.at_.word, strV b.to.stem, .int .u8 b.to.mark, .int .i64 b.of_]]) Tryz.func103 X X X ?_
 have st0 : St h w h w [] := St.start hs
 refine W.sr<|zl st0 (cs := [.int .i64 (a.number), .int .u8 (a.kind), strV (a.form), .int .i64 (a.at_.chapter), .int .i64 (a.at_.line), .int .i64 (a.at_.word), strV (a.to.stem), .int .u8 (a.to.mark), .int .i64 (a.of_)]) X X X ?_
 intro b1 w2 h3 le4 hc5 st6
 refine zl st6 (cs := [.int .i64 (b.number), .int .u8 (b.kind), strV (b.form), .int .i64 (b.at_.chapter), .int .i64 (b.at_.line), .int .i64 (b.at_.word), strV (b.to.stem), .int .u8 (b.to.mark), .int .i64 (b.of_)]) X X X ?_
 intro b7 w8 h9 le10 hc11 st12
 refine v_asI X X<|Y<|W.sr<|v_field_addr X Tryz.underlying34 X Tryz.sizeOf3 X X<|v_load_cells1 (j := 0) st12.sub hc11 X X X Tryz.isAgg3 X<|v_field_addr X Tryz.underlying34 X Tryz.sizeOf3 X X<|v_load_cells1 (j := 0) st12.sub (hc5.up le10) X X X Tryz.isAgg3 X<|v_sub X X t_om X<|v_asI X X<|Y<|zk<|O Tryz.results103 ?_
 refine ⟨h9, _, rfl, st12.done, ?_⟩
 refine zC ?_
 rfl
set_option maxRecDepth 4000 in
theorem c_stem_opened {h : Heap} {w : World} (hs : Sub h w) {t : Text} {t_v0 : Value} (t_f0 : Sl LChapter h t_v0 t.chapters) {x : Lexicon} {x_v0 : Value} (x_f0 : Sl LRule h x_v0 x.rules) {x_v1 : Value} (x_f1 : Sl LDecision h x_v1 x.decisions) (hx : OkD x) (hl : x.decisions.length ≤ 25) : Calls Tryz.prog 61 #[.agg #[t_v0], .agg #[x_v0, x_v1]] w (Rets h w (fun h' _ res_ => ∃ u0, res_ = u0 ∧ Box LOffice h' true (Office.mk x t (standM x)) u0)) := by
 refine zx (n := 67) (args := [.agg #[t_v0], .agg #[x_v0, x_v1]]) Tryz.func61 X X X ?_
 have st0 : St h w h w [] := St.start hs
 have t_f0_b := t_f0.le
 have x_f0_b := x_f0.le
 have x_f1_b := x_f1.le
 refine W.sr<|zl st0 (cs := [t_v0]) X X X ?_
 intro b1 w2 h3 le4 hc5 st6
 refine zl st6 (cs := [x_v0, x_v1]) X X X ?_
 intro b7 w8 h9 le10 hc11 st12
 refine v_assign X X<|Y<|W.sr<|v_load_call st12.sub hc11 X Tryz.isAgg28 Tryz.sizeOf28 X X<|v_load_call st12.sub (hc5.up le10) X Tryz.isAgg24 Tryz.sizeOf24 X X<|OpsL.makeMap (κ := Int) (υ := Decision) (ek := (fun n : Int => .int .i64 n)) (eu := (fun x : Decision => .agg [.int .i64 x.number, .int .u8 x.kind, strV x.form, .int .i64 x.at_.chapter, .int .i64 x.at_.line, .int .i64 x.at_.word, strV x.to.stem, .int .u8 x.to.mark, .int .i64 x.of_].toArray)) st12 X ?_
 intro v13 o14 w15 f16 st17
 obtain ⟨mb18, rfl⟩ := f16.form
 have nd19 : (([] : List (Int × Decision)).map (·.1)).Nodup := by simp
 refine ze rfl rfl (zY (cs := [x_v0, x_v1, t_v0, (.map (some mb18))]) (by obtain ⟨_, _, rfl⟩ := Sl.form x_f0; obtain ⟨_, _, rfl⟩ := Sl.form x_f1; obtain ⟨_, _, rfl⟩ := Sl.form t_f0; kernel_rfl)) ?_
 refine zl st17 (cs := [x_v0, x_v1, t_v0, (.map (some mb18))]) X X X ?_
 intro b20 w21 h22 le23 hc24 st25
 refine v_asP X X<|Y<|W.sr<|v_field_addr X Tryz.underlying28 X Tryz.sizeOf26 X X<|v_load_cells1 (j := 1) st25.sub (hc11.up le23) X X X Tryz.isAgg26 X ?_
 refine zD rfl rfl (zS rfl Tryz.call64 rfl) ((zad st25.sub (x_f1.up ((le4.trans le10).trans le23)) (by omega)).mono ?_)
 rintro _ w27 ⟨h28, v26, o31, rfl, le29, s33, f32⟩
 refine ⟨_, rfl, ?_⟩
 have st30 := st25.call s33
 refine v_assign (v := v26) X X<|Y<|W.sr<|v_move (v := v26) X X ?_
 have con := sortFunc (L := LDecision) (T := 34) Tryz.sort_api_Decision Tryz.isAgg34 Tryz.sizeOf34 (by decide) (fun x : Decision => [.int .i64 x.number, .int .u8 x.kind, strV x.form, .int .i64 x.at_.chapter, .int .i64 x.at_.line, .int .i64 x.at_.word, strV x.to.stem, .int .u8 x.to.mark, .int .i64 x.of_]) (by rintro _ _ _ ⟨rfl, _⟩; rfl) (fun a b : Decision => b.number - a.number) (swo_desc _) (g := 103) (caps := []) (i := 1) st30 f32 rfl (by omega) Tryz.call103 ?_
 rotate_left
 ·intro a_ ha_ b_ hb_ w_ hs_
  obtain ⟨_, rfl, p0, p1, p2, p3⟩ := OSl.memR f32 ha_
  obtain ⟨_, rfl, q0, q1, q2, q3⟩ := OSl.memR f32 hb_
  simp only [big] at *
  exact c_stem_opened_1 hs_ (a := a_) p0 p1 p2 p3 (b := b_) q0 q1 q2 q3 (by have q := (hx.2 a_ ha_); omega) (by have q := (hx.2 b_ hb_); omega)
 refine zD rfl rfl (zS rfl Tryz.call65 rfl) (con.mono ?_)
 rintro _ w34 ⟨rfl, ys35, o36, _, e37, hp38, hw39, f40, st41⟩
 subst e37
 refine ⟨_, rfl, ?_⟩
 clear con
 have hdl : (downD x).length = x.decisions.length := (downD_perm x).length_eq
 have f42 := OSl.to f40 (show ys35 = (downD x) from downD_eq hp38 hw39 hx.1)
 obtain ⟨h43, le44, f45, st46⟩ := OSl.freeze (k := 1) st41 f42 rfl t_om
 refine Y<|zg<|W.sr<|v_move (v := v26) X X<|v_len f45 X Tryz.underlying26 X<|v_mvI X X<|Y<|zr ?_
 refine zN [8, 25, 26, 27, 28, 29, 30, 31, 32, 33, 34, 35, 36] (G := Nat × List (Nat × Obj) × Heap) (fun ⟨k, o_15, h47⟩ => [(25, .int .i64 (k : Int))]) (fun ⟨k, o_15, h47⟩ w' => Le h43 h47 ∧ St h w h47 w' [o_15, []] ∧ (OM (fun n : Int => .int .i64 n) (fun x : Decision => .agg [.int .i64 x.number, .int .u8 x.kind, strV x.form, .int .i64 x.at_.chapter, .int .i64 x.at_.line, .int .i64 x.at_.word, strV x.to.stem, .int .u8 x.to.mark, .int .i64 x.of_].toArray) (((downD x).take k).map pairD) o_15 (.map (some mb18))) ∧ (((((downD x).take k).map pairD).map (·.1)).Nodup) ∧ (k ≤ (downD x).length)) (fun ⟨k, o_15, h47⟩ => (downD x).length - k) ⟨0, o14, h43⟩ ⟨rfl, trivial⟩ ⟨Le.refl _, st46, (by have q := f16; simpa using q), (by have q := nd19; simp), zV⟩ ?_
 rintro ⟨k, o_15, h47⟩ _ w50 ⟨le48, st49, hM_15, hN_15, hk⟩
 refine W.sr<|v_lss X X X<|Y<|zg ?_
 refine zh rfl (fun c51 => ?_) (fun c51 => ?_)
 ·
  replace c51 := of_decide_eq_true c51
  refine zo<|U<|zg<|zr<|W.sr ?_
  have hd : ∃ y_, ((downD x))[k]? = some y_ := ⟨_, List.getElem?_eq_getElem (by omega)⟩
  obtain ⟨d, hd⟩ := hd
  obtain ⟨b52, o53, _, he55, hc54, hr_d⟩ := Sl.elem (f45.up le48) hd
  obtain ⟨rfl, lu56, ls57, ls58, lu59⟩ := hr_d
  simp only [big] at ls57
  simp only [big] at ls58
  refine v_index_el he55 X X (hk := X) (hu := Tryz.underlying26) (hz := Tryz.sizeOf34) X<|v_load_call st49.sub hc54 X Tryz.isAgg34 Tryz.sizeOf34 X X<|zy st49 Tryz.zeroValue34 X X ?_
  intro b60 w61 st62
  refine zq st62 (k := 2) X X X (E X (E X (E X (E X (E X (E X (E X (E X (E X zI))))))))) Tryz.sizeOf34 X X X ?_
  intro w63 st64
  obtain ⟨h65, le66, hb67, st69⟩ := st64.freeze (k := 2) rfl
  have hc68 := Cells.of hb67
  refine Y<|zZ (er := ([], [], [], [], 0)) (dsts := [29, 30, 31, 32, 33, 34, 35]) st69 Tryz.mixed<|zc 0 [] X t_kr t_kr X X (fun hD wD τD hL hS hO  => (r_mvP X))<|zc 1 [0] X t_kr t_kr X X (fun hD wD τD hL hS hO _ _ => (r_nil_check X))<|zc 2 [0] X t_kr t_kr X X (fun hD wD τD hL hS hO _ _ => (zA X Tryz.underlying129 X Tryz.sizeOf127 X))<|zc 3 [0] X t_kr t_kr X X (fun hD wD τD hL hS hO _ _ => (zf (j := 3) (hL.sub hS) (hc24.up (((le29.trans le44).trans le48).trans le66)) X X X Tryz.isAgg127))<|zc 4 [] X t_kr t_kr X X (fun hD wD τD hL hS hO  => (zA X Tryz.underlying34 X Tryz.sizeOf3 X))<|zc 5 [0] X t_kr t_kr X X (fun hD wD τD hL hS hO _ _ => (zf (j := 0) (hL.sub hS) hc68 X X X Tryz.isAgg3))<|zc 6 [] X t_kr t_kr X X (fun hD wD τD hL hS hO  => (zB (hL.sub hS) hc68 X Tryz.isAgg34 Tryz.sizeOf34 X))<|Drw.ch<|Drw.nil X X X X X X ⟨t_kr, X, t_kr, X, t_kr, X, X, t_kr, (zaf X cx_nil)⟩ ?_
  intro hE71 w72 _ le73 st74 _ _ _ _ _ _ _ _ _ _ _ _ _ _
  refine OpsL.mapUpdate (i := 0) st74 hM_15 X hN_15 (key_int Tryz.underlying3) Tryz.underlying127 X (k := (d.number)) X (u := d) X ?_
  intro o75 w76 _ e77 f78 nd79 st80
  subst e77
  refine zj ⟨undef, rfl, _, _, Le.refl _, st80, ?_⟩
  intro hE81 w82 _ le83 st84 _ _ _ _ _ _ _ _ _ _ _ _ _ _
  refine AllDeps.fin X<|zz<|U<|zm<|v_add X X t_om X<|v_mvI X X<|Y ?_
  refine ⟨⟨k + 1, o75, hE81⟩, ⟨rfl, trivial⟩, ?_, ⟨(((le48.trans le66).trans le73).trans le83), st84.take 2, ?_, ?_, ?_⟩, ?_⟩
  ·exact zR
  ·have q := f78
   rw [map_fill (downD_nodup hx.1) hd] at q; exact q
  ·have q := nd79
   rw [map_fill (downD_nodup hx.1) hd] at q; exact q
  ·first | omega | (simp; omega)
  ·show (downD x).length - ((k + 1)) < (downD x).length - k
   omega
 ·
  replace c51 := of_decide_eq_false c51
  refine zP<|zi<|zi<|zJ<|U<|zg<|W.sr<|v_move (v := v26) X X<|v_len (f45.up le48) X Tryz.underlying26 X<|v_mvI X X<|Y<|zr ?_
  refine zN [10, 11, 12, 39, 40, 41, 42, 43, 44, 45, 46, 47, 48, 49, 50, 51, 52, 53, 54, 55, 56, 57, 58, 59, 60, 61, 62, 63, 64, 65] (G := Nat × List (Nat × Obj) × Heap) (fun ⟨k, o_15, h86⟩ => [(39, .int .i64 (k : Int))]) (fun ⟨k, o_15, h86⟩ w' => Le h47 h86 ∧ St h w h86 w' [o_15, []] ∧ (OM (fun n : Int => .int .i64 n) (fun x : Decision => .agg [.int .i64 x.number, .int .u8 x.kind, strV x.form, .int .i64 x.at_.chapter, .int .i64 x.at_.line, .int .i64 x.at_.word, strV x.to.stem, .int .u8 x.to.mark, .int .i64 x.of_].toArray) (((downD x).filter (leftK x k)).map pairD) o_15 (.map (some mb18))) ∧ (((((downD x).filter (leftK x k)).map pairD).map (·.1)).Nodup) ∧ (k ≤ (downD x).length)) (fun ⟨k, o_15, h86⟩ => (downD x).length - k) ⟨0, o_15, h47⟩ ⟨rfl, trivial⟩ ⟨Le.refl _, st49, (by have q := hM_15; rw [leftK_zero]; rw [List.take_of_length_le (by omega)] at q; exact q), (by have q := hN_15; rw [leftK_zero]; rw [List.take_of_length_le (by omega)] at q; exact q), zV⟩ ?_
  rintro ⟨k, o_15, h86⟩ _ w89 ⟨le87, st88, hM_15, hN_15, hk⟩
  refine W.sr<|v_lss X X X<|Y<|zg ?_
  refine zh rfl (fun c90 => ?_) (fun c90 => ?_)
  ·
   replace c90 := of_decide_eq_true c90
   refine zo<|U<|zg<|zr<|W.sr ?_
   have hd : ∃ y_, ((downD x))[k]? = some y_ := ⟨_, List.getElem?_eq_getElem (by omega)⟩
   obtain ⟨d, hd⟩ := hd
   obtain ⟨b91, o92, _, he94, hc93, hr_d⟩ := Sl.elem (f45.up (le48.trans le87)) hd
   obtain ⟨rfl, lu95, ls96, ls97, lu98⟩ := hr_d
   simp only [big] at ls96
   simp only [big] at ls97
   refine v_index_el he94 X X (hk := X) (hu := Tryz.underlying26) (hz := Tryz.sizeOf34) X<|v_load_call st88.sub hc93 X Tryz.isAgg34 Tryz.sizeOf34 X X<|zy st88 Tryz.zeroValue34 X X ?_
   intro b99 w100 st101
   refine zq st101 (k := 2) X X X (E X (E X (E X (E X (E X (E X (E X (E X (E X zI))))))))) Tryz.sizeOf34 X X X ?_
   intro w102 st103
   obtain ⟨h104, le105, hb106, st108⟩ := st103.freeze (k := 2) rfl
   have hc107 := Cells.of hb106
   refine Y<|zg<|zZ (er := ([6], [], [], [], 0)) (dsts := [44, 45, 46, 47, 48, 49, 50, 43, 51, 52, 11, 12]) st108 Tryz.mixed<|zc 0 [] X t_kr t_kr X X (fun hD wD τD hL hS hO  => (r_mvP X))<|zc 1 [0] X t_kr t_kr X X (fun hD wD τD hL hS hO _ _ => (r_nil_check X))<|zc 2 [0] X t_kr t_kr X X (fun hD wD τD hL hS hO _ _ => (zA X Tryz.underlying129 X Tryz.sizeOf127 X))<|zc 3 [0] X t_kr t_kr X X (fun hD wD τD hL hS hO _ _ => (zf (j := 3) (hL.sub hS) (hc24.up ((((le29.trans le44).trans le48).trans le87).trans le105)) X X X Tryz.isAgg127))<|zc 4 [] X t_kr t_kr X X (fun hD wD τD hL hS hO  => (zA X Tryz.underlying34 X Tryz.sizeOf3 X))<|zc 5 [0] X t_kr t_kr X X (fun hD wD τD hL hS hO _ _ => (zf (j := 0) (hL.sub hS) hc107 X X X Tryz.isAgg3))<|zc 6 [2, 0] X t_kr t_kr X X (fun hD wD τD hL hS hO _ _ _ _ => (r_look_ok (k := (d.number)) (zu := zDecision) (key_int Tryz.underlying3) Tryz.underlying127 hM_15 ((hO X).ent (k := 0) X) Tryz.zeroValue34 X X X))<|zc 7 [0] X t_kr t_kr X X (fun hD wD τD hL hS hO _ _ => (r_mvT X))<|zc 8 [0] X t_kr t_kr X X (fun hD wD τD hL hS hO _ _ => (r_extract (v := (.agg (List.toArray _))) X X))<|zc 9 [1] X t_kr t_kr X X (fun hD wD τD hL hS hO _ _ => (r_extract (v := (.bool _)) X X))<|Drw.al Tryz.zeroValue34 X<|Drw.ch<|zc 12 [11, 10, 9, 8, 7, 6, 5, 4, 3, 2, 1, 0] X t_kr t_kr X X (fun hD wD τD hL hS hO _ _ _ _ _ _ _ _ _ _ _ _ _ _ _ _ _ _ _ _ => (r_asB X))<|Drw.nil X X X X X X ⟨t_kr, X, t_kr, X, t_kr, X, X, t_kr, (zaf X cx_nil)⟩ ?_
   intro b109
   intro hE111 w112 _ le113 st114 _ _ _ _ _ _ _ _ _ _ _ _ _ _ _ _ _ _
   refine zq st114 (k := 3) X X X (E X (E X (E X (E X (E X (E X (E X (E X (E X zI))))))))) Tryz.sizeOf34 X X X ?_
   intro w115 st116
   obtain ⟨h117, le118, hb119, st121⟩ := st116.freeze (k := 3) rfl
   have hc120 := Cells.of hb119
   refine zj ⟨undef, rfl, _, _, le118, st121, ?_⟩
   intro hE122 w123 _ le124 st125 _ _ _ _ _ _ _ _ _ _ _ _ _ _ _ _ _ _ _ _ _ _
   refine AllDeps.fin X<|U<|W.sr<|v_mvB X X<|v_mvB X X ?_
   refine zp (d := 54) rfl (fun g127 => ?_) (fun g127 => ?_)
   ·
    refine Z X X (d := 54) X<|v_field_addr X Tryz.underlying34 X Tryz.sizeOf5 X X<|Z X X (d := 54) X<|v_load_cells1 (j := 1) st125.sub (hc107.up ((le113.trans le118).trans le124)) X X X Tryz.isAgg5 X<|Z X X (d := 54) X<|v_eql X X X<|v_pickT (v := (.bool _)) X X X<|Y ?_
    refine zh rfl (fun c128 => ?_) (fun c128 => ?_)
    ·
     replace c128 := of_decide_eq_true c128
     refine zZ (er := ([], [], [], [], 0)) (dsts := [59, 60, 61, 62, 63, 64]) st125 Tryz.mixed<|zc 0 [] X t_kr t_kr X X (fun hD wD τD hL hS hO  => (r_mvP X))<|zc 1 [0] X t_kr t_kr X X (fun hD wD τD hL hS hO _ _ => (r_nil_check X))<|zc 2 [0] X t_kr t_kr X X (fun hD wD τD hL hS hO _ _ => (zA X Tryz.underlying129 X Tryz.sizeOf127 X))<|zc 3 [0] X t_kr t_kr X X (fun hD wD τD hL hS hO _ _ => (zf (j := 3) (hL.sub hS) (hc24.up (((((((le29.trans le44).trans le48).trans le87).trans le105).trans le113).trans le118).trans le124)) X X X Tryz.isAgg127))<|zc 4 [] X t_kr t_kr X X (fun hD wD τD hL hS hO  => (zA X Tryz.underlying34 X Tryz.sizeOf3 X))<|zc 5 [0] X t_kr t_kr X X (fun hD wD τD hL hS hO _ _ => (zf (j := 8) (hL.sub hS) (hc107.up ((le113.trans le118).trans le124)) X X X Tryz.isAgg3))<|Drw.ch<|Drw.nil X X X X X X ⟨t_kr, X, t_kr, X, t_kr, X, X, t_kr, (zaf X cx_nil)⟩ ?_
     intro hE130 w131 _ le132 st133 _ _ _ _
     refine OpsL.mapDelete (i := 0) st133 hM_15 X hN_15 (key_int Tryz.underlying3) Tryz.underlying127 X (k := (d.of_)) X ?_
     intro o134 w135 _ e136 f137 nd138 st139
     subst e136
     refine zj ⟨undef, rfl, _, _, Le.refl _, st139, ?_⟩
     intro hE140 w141 _ le142 st143 _ _ _ _ _ _ _ _ _ _ _ _
     refine AllDeps.fin X<|zz<|U<|zm<|v_add X X t_om X<|v_mvI X X<|Y ?_
     refine ⟨⟨k + 1, o134, hE140⟩, ⟨rfl, trivial⟩, ?_, ⟨((((((le87.trans le105).trans le113).trans le118).trans le124).trans le132).trans le142), st143.take 2, ?_, ?_, ?_⟩, ?_⟩
     ·exact zR
     ·have q := f137
      rw [map_void hd ⟨c128, (look_left hx hd).symm.trans g127⟩] at q; exact q
     ·have q := nd138
      rw [map_void hd ⟨c128, (look_left hx hd).symm.trans g127⟩] at q; exact q
     ·first | omega | (simp; omega)
     ·show (downD x).length - ((k + 1)) < (downD x).length - k
      omega
    ·
     replace c128 := of_decide_eq_false c128
     refine zo<|zz<|U<|zm<|v_add X X t_om X<|v_mvI X X<|Y ?_
     refine ⟨⟨k + 1, o_15, hE122⟩, ⟨rfl, trivial⟩, ?_, ⟨((((le87.trans le105).trans le113).trans le118).trans le124), st125.take 2, ?_, ?_, ?_⟩, ?_⟩
     ·exact zR
     ·have q := hM_15
      rw [map_stay hd (by rintro ⟨e1, _⟩; exact c128 e1)] at q; exact q
     ·have q := hN_15
      rw [map_stay hd (by rintro ⟨e1, _⟩; exact c128 e1)] at q; exact q
     ·first | omega | (simp; omega)
     ·show (downD x).length - ((k + 1)) < (downD x).length - k
      omega
   ·
    refine M X X X X X<|M X X X X X<|M X X X X X<|v_pickF (v := (.bool _)) X X X<|Y ?_
    refine zh rfl (fun c145 => ?_) (fun c145 => ?_)
    ·
     cases c145
    ·
     refine zo<|zz<|U<|zm<|v_add X X t_om X<|v_mvI X X<|Y ?_
     refine ⟨⟨k + 1, o_15, hE122⟩, ⟨rfl, trivial⟩, ?_, ⟨((((le87.trans le105).trans le113).trans le118).trans le124), st125.take 2, ?_, ?_, ?_⟩, ?_⟩
     ·exact zR
     ·have q := hM_15
      rw [map_stay hd (by rintro ⟨_, e1⟩; rw [← look_left hx hd] at e1; rw [e1] at g127; cases g127)] at q; exact q
     ·have q := hN_15
      rw [map_stay hd (by rintro ⟨_, e1⟩; rw [← look_left hx hd] at e1; rw [e1] at g127; cases g127)] at q; exact q
     ·first | omega | (simp; omega)
     ·show (downD x).length - ((k + 1)) < (downD x).length - k
      omega
  ·
   replace c90 := of_decide_eq_false c90
   refine zP<|zi<|zi<|zJ<|U<|W.sr<|v_mvP X X<|v_asP X X<|Y<|zk<|O Tryz.results61 ?_
   obtain ⟨h146, le147, f148, st149⟩ := OM.freeze (k := 0) st88 hM_15 rfl
   have f148_r := f148.to (show _ = (standM x) by rw [← leftK_end hx]; first | rfl | (congr 3; omega))
   have f148_l : FML (fun n : Int => .int .i64 n) (fun x : Decision => [.int .i64 x.number, .int .u8 x.kind, strV x.form, .int .i64 x.at_.chapter, .int .i64 x.at_.line, .int .i64 x.at_.word, strV x.to.stem, .int .u8 x.to.mark, .int .i64 x.of_]) LDecision h146 (standM x) (.map (some mb18)) := ⟨f148_r, by intro p hp_; have q := (standM_mem hp_).1; obtain ⟨vs_, r_⟩ := x_f1.memR q; obtain ⟨rfl, q1⟩ := r_; exact ⟨rfl, q1⟩⟩
   refine ⟨h146, _, rfl, st149.done, ?_⟩
   refine ⟨_, rfl, Box.some ?_ (hc24.up ((((le29.trans le44).trans le48).trans le87).trans le147)) ⟨_, _, _, _, rfl, (x_f0.up (((((((le4.trans le10).trans le23).trans le29).trans le44).trans le48).trans le87).trans le147)), (x_f1.up (((((((le4.trans le10).trans le23).trans le29).trans le44).trans le48).trans le87).trans le147)), (t_f0.up (((((((le4.trans le10).trans le23).trans le29).trans le44).trans le48).trans le87).trans le147)), f148_l⟩⟩
   rfl
end Go.Pk

namespace Go.Pk
open Go Go.RowKit Go.Proofs
set_option maxRecDepth 4000 in
theorem c_stem_open {h : Heap} {w : World} (hs : Sub h w) {t : Text} {t_v0 : Value} (t_f0 : Sl LChapter h t_v0 t.chapters) {x : Lexicon} {x_v0 : Value} (x_f0 : Sl LRule h x_v0 x.rules) {x_v1 : Value} (x_f1 : Sl LDecision h x_v1 x.decisions) (K0 : Cells h 0 0 Tryz.glob0) : Calls Tryz.prog 67 #[.agg #[t_v0], .agg #[x_v0, x_v1]] w (Rets h w (fun h' _ res_ => ∃ u0, res_ = .tuple #[u0, .int .i64 (checkN t x)] ∧ Box LOffice h' (decide (checkN t x = 0)) (Office.mk x t (standM x)) u0)) := by
 refine zx (n := 16) (args := [.agg #[t_v0], .agg #[x_v0, x_v1]]) Tryz.func67 X X X ?_
 have st0 : St h w h w [] := St.start hs
 have t_f0_b := t_f0.le
 have x_f0_b := x_f0.le
 have x_f1_b := x_f1.le
 refine W.sr<|zl st0 (cs := [t_v0]) X X X ?_
 intro b1 w2 h3 le4 hc5 st6
 refine zl st6 (cs := [x_v0, x_v1]) X X X ?_
 intro b7 w8 h9 le10 hc11 st12
 refine v_assign X X<|v_asI X X<|Y<|zg<|W.sr<|v_load_call st12.sub (hc5.up le10) X Tryz.isAgg24 Tryz.sizeOf24 X X<|v_load_call st12.sub hc11 X Tryz.isAgg28 Tryz.sizeOf28 X X<|za st12 X X X Tryz.call48 X (c_stem_Check st12.sub (t := t) (t_f0.up (le4.trans le10)) (x := x) (x_f0.up (le4.trans le10)) (x_f1.up (le4.trans le10)) (K0.up (le4.trans le10))) ?_
 intro r13 w14 h15 le16 st17 q18
 obtain rfl := q18
 refine v_asI X X<|Y<|W.sr<|v_mvI X X<|v_neq X X X<|Y ?_
 refine zh rfl (fun c19 => ?_) (fun c19 => ?_)
 ·
  replace c19 := of_decide_eq_true c19
  refine W.sr<|v_mvI X X<|v_assign X X<|v_asI X X<|Y<|zk<|zd<|zH Tryz.results67 ?_
  refine ⟨h15, _, rfl, st17.done, ?_⟩
  refine ⟨_, tup2 rfl (zC ?_), Box.nil ?_⟩
  ·rfl
  ·simpa using c19
 ·
  replace c19 := of_decide_eq_false c19
  refine zo<|U<|W.sr<|v_load_call st17.sub (hc5.up (le10.trans le16)) X Tryz.isAgg24 Tryz.sizeOf24 X X<|v_load_call st17.sub (hc11.up le16) X Tryz.isAgg28 Tryz.sizeOf28 X X ?_
  refine za st17 rfl rfl rfl Tryz.call61 rfl (c_stem_opened st17.sub (t := t) (t_f0.up ((le4.trans le10).trans le16)) (x := x) (x_f0.up ((le4.trans le10).trans le16)) (x_f1.up ((le4.trans le10).trans le16)) (by exact okD_of (by simpa using c19)) (by have q := lexicon_20 (show checkN t x = 0 by simpa using c19); omega)) ?_
  intro r20 w21 h22 le23 st24 q25
  obtain ⟨v26, rfl, f27⟩ := q25
  obtain ⟨b28, vs29, rfl, hc30, hr31⟩ := f27
  obtain ⟨v32, v34, v36, v38, rfl, f33, f35, f37, lm39⟩ := hr31
  have f33_b := f33.le
  have f35_b := f35.le
  have f37_b := f37.le
  refine v_asP X X<|v_asI X X<|Y<|zk<|zH Tryz.results67 ?_
  refine ⟨h22, _, rfl, st24.done, ?_⟩
  refine ⟨_, tup2 rfl (zC ?_), Box.some ?_ hc30 ⟨_, _, _, _, rfl, f33, f35, f37, lm39⟩⟩
  ·exact (by simpa using c19 : checkN t x = 0).symm
  ·simpa using c19
end Go.Pk

namespace Go.Pk
open Go Go.RowKit Go.Proofs
set_option maxRecDepth 4000 in
theorem c_internal_stringslite_HasSuffix {h : Heap} {w : World} (hs : Sub h w) (s : Str) (s_le : s.length ≤ 281474976710656) (p : Str) (p_le : p.length ≤ 281474976710656) : Calls Tryz.prog 223 #[strV s, strV p] w (Rets h w (fun _ _ res_ => res_ = .bool (hasSuf s p))) := by
 refine zx (n := 21) (args := [strV s, strV p]) Tryz.func223 X X X ?_
 have st0 : St h w h w [] := St.start hs
 refine W.sr<|v_asB X X<|Y<|W.sr<|v_mvS X X<|v_len_str X Tryz.underlying9 X<|v_mvS X X<|v_len_str X Tryz.underlying9 X<|v_geq X X X<|v_mvB X X ?_
 refine zp (d := 10) rfl (fun g1 => ?_) (fun g1 => ?_)
 ·
  replace g1 := of_decide_eq_true g1
  refine Z X X (d := 10) X<|v_mvS X X<|Z X X (d := 10) X<|v_mvS X X<|Z X X (d := 10) X<|v_len_str X Tryz.underlying9 X<|Z X X (d := 10) X<|v_mvS X X<|Z X X (d := 10) X<|v_len_str X Tryz.underlying9 X<|Z X X (d := 10) X<|v_sub X X t_om X<|Z X X (d := 10) X ?_
  refine ze rfl rfl (r_slice_from rfl rfl (hk := (show _ = ((s.length - p.length : Nat) : Int) by omega)) (hle := by omega) (hu := Tryz.underlying9)) ?_
  refine Z X X (d := 10) X<|v_mvS X X<|Z X X (d := 10) X<|v_seql X X X<|v_pickT (v := (.bool _)) X X X<|v_asB X X<|Y<|zk<|O Tryz.results223 ?_
  refine ⟨h, _, rfl, st0.done, ?_⟩
  refine zn ?_
  first | (simp_all [hasSuf]; done) | (simp_all [hasSuf]; omega) | (simp_all [hasSuf]; intros; omega)
 ·
  replace g1 := of_decide_eq_false g1
  refine M X X X X X<|M X X X X X<|M X X X X X<|M X X X X X<|M X X X X X<|M X X X X X<|M X X X X X<|M X X X X X<|M X X X X X<|v_pickF (v := (.bool _)) X X X<|v_asB X X<|Y<|zk<|O Tryz.results223 ?_
  refine ⟨h, _, rfl, st0.done, ?_⟩
  refine zn ?_
  first | (simp_all [hasSuf]; done) | (simp_all [hasSuf]; omega) | (simp_all [hasSuf]; intros; omega)
set_option maxRecDepth 4000 in
theorem c_internal_stringslite_CutSuffix {h : Heap} {w : World} (hs : Sub h w) (s : Str) (s_le : s.length ≤ 281474976710656) (p : Str) (p_le : p.length ≤ 281474976710656) : Calls Tryz.prog 209 #[strV s, strV p] w (Rets h w (fun _ _ res_ => res_ = .tuple #[strV ((if hasSuf s p then s.take (s.length - p.length) else s)), .bool (hasSuf s p)])) := by
 refine zx (n := 18) (args := [strV s, strV p]) Tryz.func209 X X X ?_
 have st0 : St h w h w [] := St.start hs
 refine W.sr<|v_asS X X<|v_asB X X<|Y<|zg<|W.sr<|v_mvS X X<|v_mvS X X<|za st0 X X X Tryz.call223 X (c_internal_stringslite_HasSuffix st0.sub _ zO _ zO) ?_
 intro r1 w2 h3 le4 st5 q6
 obtain rfl := q6
 refine v_not X X<|Y ?_
 refine zh rfl (fun c7 => ?_) (fun c7 => ?_)
 ·
  refine W.sr<|v_mvS X X<|v_asS X X<|v_asB X X<|Y<|zk<|zd<|zH Tryz.results209 ?_
  refine ⟨h3, _, rfl, st5.done, ?_⟩
  refine tup2 (str_eq ?_) (zn ?_)
  all_goals simp_all
 ·
  refine zo<|U<|zg ?_
  have hsl : p.length ≤ s.length := by
   have q := c7
   simp [hasSuf] at q
   exact q.1
  refine zm<|v_mvS X X<|v_mvS X X<|v_len_str X Tryz.underlying9 X<|v_mvS X X<|v_len_str X Tryz.underlying9 X<|v_sub X X t_om X ?_
  refine ze rfl rfl (r_slice_to rfl rfl (hk := (show _ = ((s.length - p.length : Nat) : Int) by omega)) (hle := by omega) (hu := Tryz.underlying9)) ?_
  refine v_asS X X<|v_asB X X<|Y<|zk<|zH Tryz.results209 ?_
  refine ⟨h3, _, rfl, st5.done, ?_⟩
  refine tup2 (str_eq ?_) (zn ?_)
  all_goals simp_all
set_option maxRecDepth 4000 in
theorem c_strings_CutSuffix {h : Heap} {w : World} (hs : Sub h w) (s : Str) (s_le : s.length ≤ 281474976710656) (p : Str) (p_le : p.length ≤ 281474976710656) : Calls Tryz.prog 171 #[strV s, strV p] w (Rets h w (fun _ _ res_ => res_ = .tuple #[strV ((if hasSuf s p then s.take (s.length - p.length) else s)), .bool (hasSuf s p)])) := by
 refine zx (n := 11) (args := [strV s, strV p]) Tryz.func171 X X X ?_
 have st0 : St h w h w [] := St.start hs
 refine W.sr<|v_asS X X<|v_asB X X<|Y<|W.sr<|v_mvS X X<|v_mvS X X<|za st0 X X X Tryz.call209 X (c_internal_stringslite_CutSuffix st0.sub _ zO _ zO) ?_
 intro r1 w2 h3 le4 st5 q6
 obtain rfl := q6
 refine v_extract (v := (strV _)) X X X<|v_extract (v := (.bool _)) X X X<|v_asS X X<|v_asB X X<|Y<|zk<|zH Tryz.results171 ?_
 refine ⟨h3, _, rfl, st5.done, ?_⟩
 refine tup2 (str_eq ?_) (zn ?_)
 all_goals rfl
set_option maxRecDepth 4000 in
theorem c_stem_office_turns_1 {h0 h : Heap} {w0 w : World} {rest : Own} {left_b : Nat} {left : Int} {word_b : Nat} {word : Str} (word_le : word.length ≤ 281474976710656) {o_b : Nat} {o : Office} {o_v0 : Value} (o_f0 : Sl LRule h o_v0 o.lex.rules) {o_v1 : Value} (o_f1 : Sl LDecision h o_v1 o.lex.decisions) {o_v2 : Value} (o_f2 : Sl LChapter h o_v2 o.text.chapters) {o_v3 : Value} (o_f3 : FML (fun n : Int => .int .i64 n) (fun x : Decision => [.int .i64 x.number, .int .u8 x.kind, strV x.form, .int .i64 x.at_.chapter, .int .i64 x.at_.line, .int .i64 x.at_.word, strV x.to.stem, .int .u8 x.to.mark, .int .i64 x.of_]) LDecision h o.stands o_v3) (o_c : Cells h o_b 0 [o_v0, o_v1, o_v2, o_v3]) {o_bb : Nat} (o_cc : Cells h o_bb 0 [.pointer (some ⟨o_b, 0, none⟩)]) (hl : 0 ≤ left ∧ left ≤ 4) (hw12 : word.length ≤ 12) (st0 : St h0 w0 h w ([(left_b, .cells (List.toArray [.int .i64 left]) 3)] :: [(word_b, .cells (List.toArray [strV word]) 9)] :: rest)) : Calls Tryz.prog 170 #[.pointer (some ⟨left_b, 0, none⟩), .pointer (some ⟨word_b, 0, none⟩), .pointer (some ⟨o_bb, 0, none⟩)] w (fun e_ w' => ∃ h' res_ left' word', e_ = .returned res_ ∧ Le h h' ∧ St h0 w0 h' w' ([(left_b, .cells (List.toArray [.int .i64 left']) 3)] :: [(word_b, .cells (List.toArray [strV word']) 9)] :: rest) ∧ left' = turnL left ∧ word' = turnW o.lex.rules left word ∧ (res_ = .tuple #[strV (turnW o.lex.rules left word), .bool (turnB o.lex.rules left word)])) := by
 refine zx (n := 56) (args := [.pointer (some ⟨left_b, 0, none⟩), .pointer (some ⟨word_b, 0, none⟩), .pointer (some ⟨o_bb, 0, none⟩)]) Tryz.func170 X X X ?_
 have o_f0_b := o_f0.le
 have o_f1_b := o_f1.le
 have o_f2_b := o_f2.le
 refine W.sr<|v_asS X X<|v_asB X X<|Y<|W.scope<|zg<|W.sr<|v_load_b1 (st0.get (k := 0) X) X X Tryz.isAgg3 X<|v_eql X X X<|Y ?_
 refine zh rfl (fun c1 => ?_) (fun c1 => ?_)
 ·
  replace c1 := of_decide_eq_true c1
  refine W.sr<|v_load_b1 (st0.get (k := 1) X) X X Tryz.isAgg9 X<|v_asS X X<|v_asB X X<|Y<|zk<|zd<|NoGo.ret<|zH Tryz.results170 ?_
  refine ⟨h, _, _, _, rfl, Le.refl _, st0, ?_, ?_, ?_⟩
  ·simp_all [turnL]
  ·simp_all [turnW]
  refine tup2 (str_eq ?_) (zn ?_)
  ·simp_all [turnW]
  ·simp_all [turnB]
 ·
  replace c1 := of_decide_eq_false c1
  refine zo<|U<|W.sr<|v_load_b1 (st0.get (k := 0) X) X X Tryz.isAgg3 X<|v_sub X X t_om X<|OpsL.store1 st0 (k := 0) X X X X Tryz.sizeOf3 X X X ?_
  intro w2 st3
  refine Y<|zg<|W.label<|U<|zg<|W.sr<|v_load_cells1 (j := 0) st3.sub o_cc X X X Tryz.isAgg116 X<|ze X X (r_nil_check X)<|v_field_addr X Tryz.underlying129 X Tryz.sizeOf28 X X<|v_field_addr X Tryz.underlying28 X Tryz.sizeOf25 X X<|v_load_cells1 (j := 0) st3.sub o_c X X X Tryz.isAgg25 X<|v_len o_f0 X Tryz.underlying25 X<|v_mvI X X<|Y<|zr ?_
  refine zN [3, 4, 6, 7, 8, 20, 21, 22, 23, 24, 25, 26, 27, 28, 29, 30, 31, 32, 33, 34, 35, 36, 37, 38, 39, 40, 41, 42, 43, 44, 45, 46, 47, 48, 49, 50, 51, 52, 53, 54] (G := Nat × Heap) (fun ⟨i, h4⟩ => [(20, .int .i64 (i : Int))]) (fun ⟨i, h4⟩ w' => Le h h4 ∧ St h0 w0 h4 w' ([(left_b, .cells (List.toArray [.int .i64 (left - 1)]) 3)] :: [(word_b, .cells (List.toArray [strV word]) 9)] :: rest) ∧ (i ≤ o.lex.rules.length) ∧ ((o.lex.rules.take i).findSome? (made · word) = none)) (fun ⟨i, h4⟩ => o.lex.rules.length - i) ⟨0, h⟩ ⟨rfl, trivial⟩ ⟨Le.refl _, st3, zV, zV⟩ ?_
  rintro ⟨i, h4⟩ _ w7 ⟨le5, st6, hi, ht⟩
  refine W.sr<|v_lss X X X<|Y<|zg ?_
  refine zh rfl (fun c8 => ?_) (fun c8 => ?_)
  ·
   replace c8 := of_decide_eq_true c8
   refine zo<|U<|zg<|zr<|W.sr ?_
   have hr : ∃ y_, (o.lex.rules)[i]? = some y_ := ⟨_, List.getElem?_eq_getElem (by omega)⟩
   obtain ⟨r, hr⟩ := hr
   obtain ⟨b9, o10, _, he12, hc11, hr_r⟩ := Sl.elem (o_f0.up le5) hr
   obtain ⟨rfl, ls13, ls14⟩ := hr_r
   simp only [big] at ls13
   simp only [big] at ls14
   refine v_index_el he12 X X (hk := X) (hu := Tryz.underlying25) (hz := Tryz.sizeOf70) X<|v_load_call st6.sub hc11 X Tryz.isAgg70 Tryz.sizeOf70 X X<|OpsL.allocSt st6 Tryz.zeroValue70 X X X (us := [strV (r.cut), strV (r.put), .int .i64 (r.least)]) (fun _ => X) (E X (E X (E X zI))) Tryz.sizeOf70 X ?_
   intro b15 w16 h17 le18 hc19 st20
   refine Y<|W.sr<|v_load_b1 (st20.get (k := 1) X) X X Tryz.isAgg9 X<|v_field_addr X Tryz.underlying70 X Tryz.sizeOf9 X X<|v_load_cells1 (j := 0) st20.sub hc19 X X X Tryz.isAgg9 X<|za st20 X X X Tryz.call171 X (c_strings_CutSuffix st20.sub _ zO _ zO) ?_
   intro r21 w22 h23 le24 st25 q26
   obtain rfl := q26
   have hrl : (if hasSuf (word) (r.cut) then (word).take ((word).length - (r.cut).length) else (word)).length ≤ word.length := by split <;> simp
   refine v_mvT X X<|v_extract (v := (strV _)) X X X<|v_extract (v := (.bool _)) X X X<|v_asS X X<|v_asB X X<|Y<|zg<|W.sr<|v_mvB X X<|v_not X X<|v_mvB X X ?_
   refine zp (d := 33) rfl (fun g27 => ?_) (fun g27 => ?_)
   ·
    refine M X X X X X<|M X X X X X<|M X X X X X<|M X X X X X<|M X X X X X<|v_pickT (v := (.bool _)) X X X<|v_mvB X X<|M X X X X X<|M X X X X X<|M X X X X X<|M X X X X X<|M X X X X X<|M X X X X X<|M X X X X X<|v_pickT (v := (.bool _)) X X X<|Y ?_
    refine zh rfl (fun c28 => ?_) (fun c28 => ?_)
    ·
     refine zP<|zi<|zJ<|U<|zm<|v_add X X t_om X<|v_mvI X X<|Y ?_
     refine ⟨⟨i + 1, h23⟩, ⟨rfl, trivial⟩, ?_, ⟨((le5.trans le18).trans le24), st25, ?_, ?_⟩, ?_⟩
     ·exact zR
     ·first | omega | (simp; omega)
     ·exact turn_take ht hr (made_no (fun qh _ => by rw [qh] at g27; cases g27))
     ·show o.lex.rules.length - ((i + 1)) < o.lex.rules.length - i
      omega
    ·
     cases c28
   ·
    refine Z X X (d := 33) X<|v_mvS X X<|Z X X (d := 33) X<|v_len_str X Tryz.underlying9 X<|Z X X (d := 33) X<|v_field_addr X Tryz.underlying70 X Tryz.sizeOf3 X X<|Z X X (d := 33) X<|v_load_cells1 (j := 2) st25.sub (hc19.up le24) X X X Tryz.isAgg3 X<|Z X X (d := 33) X<|v_lss X X X<|v_pickF (v := (.bool _)) X X X<|v_mvB X X ?_
    refine zp (d := 40) rfl (fun g29 => ?_) (fun g29 => ?_)
    ·
     replace g29 := of_decide_eq_true g29
     refine M X X X X X<|M X X X X X<|M X X X X X<|M X X X X X<|M X X X X X<|M X X X X X<|M X X X X X<|v_pickT (v := (.bool _)) X X X<|Y ?_
     refine zh rfl (fun c30 => ?_) (fun c30 => ?_)
     ·
      refine zP<|zi<|zJ<|U<|zm<|v_add X X t_om X<|v_mvI X X<|Y ?_
      refine ⟨⟨i + 1, h23⟩, ⟨rfl, trivial⟩, ?_, ⟨((le5.trans le18).trans le24), st25, ?_, ?_⟩, ?_⟩
      ·exact zR
      ·first | omega | (simp; omega)
      ·exact turn_take ht hr (made_no (fun qh q => by rw [if_pos qh] at g29; omega))
      ·show o.lex.rules.length - ((i + 1)) < o.lex.rules.length - i
       omega
     ·
      cases c30
    ·
     replace g29 := of_decide_eq_false g29
     refine Z X X (d := 40) X<|v_mvS X X<|Z X X (d := 40) X<|v_len_str X Tryz.underlying9 X<|Z X X (d := 40) X<|v_field_addr X Tryz.underlying70 X Tryz.sizeOf9 X X<|Z X X (d := 40) X<|v_load_cells1 (j := 1) st25.sub (hc19.up le24) X X X Tryz.isAgg9 X<|Z X X (d := 40) X<|v_len_str X Tryz.underlying9 X<|Z X X (d := 40) X<|v_add X X t_om X<|Z X X (d := 40) X<|v_gtr X X X<|v_pickF (v := (.bool _)) X X X<|Y ?_
     refine zh rfl (fun c31 => ?_) (fun c31 => ?_)
     ·
      replace c31 := of_decide_eq_true c31
      refine zP<|zi<|zJ<|U<|zm<|v_add X X t_om X<|v_mvI X X<|Y ?_
      refine ⟨⟨i + 1, h23⟩, ⟨rfl, trivial⟩, ?_, ⟨((le5.trans le18).trans le24), st25, ?_, ?_⟩, ?_⟩
      ·exact zR
      ·first | omega | (simp; omega)
      ·exact turn_take ht hr (made_no (fun qh q => by rw [if_pos qh] at c31; omega))
      ·show o.lex.rules.length - ((i + 1)) < o.lex.rules.length - i
       omega
     ·
      replace c31 := of_decide_eq_false c31
      refine zo<|U<|W.sr<|v_mvS X X<|v_field_addr X Tryz.underlying70 X Tryz.sizeOf9 X X<|v_load_cells1 (j := 1) st25.sub (hc19.up le24) X X X Tryz.isAgg9 X<|ze X X (r_sadd X X t_om)<|OpsL.store1 st25 (k := 1) X X X X Tryz.sizeOf9 X X X ?_
      intro w32 st33
      refine Y<|W.sr<|v_load_b1 (st33.get (k := 1) X) X X Tryz.isAgg9 X<|v_asS X X<|v_asB X X<|Y<|zk<|zw<|zd<|zd<|zw<|zd<|NoGo.ret<|zH Tryz.results170 ?_
      have qh : hasSuf word r.cut = true := by simpa using g27
      have em := made_yes qh (by have q := g29; rw [if_pos qh] at q; omega) (by have q := c31; rw [if_pos qh] at q; omega)
      have es := stepOf_at ht hr em
      have hl0 : ¬ left = 0 := c1
      simp only [if_pos qh]
      refine ⟨h23, _, _, _, rfl, ((le5.trans le18).trans le24), st33, ?_, ?_, ?_⟩
      ·simp [turnL, hl0]
      ·simp [turnW, hl0, es, qh]
      refine tup2 (str_eq ?_) (zn ?_)
      ·simp [turnW, hl0, es]
      ·simp [turnB, hl0, es]
  ·
   replace c8 := of_decide_eq_false c8
   refine zP<|zi<|zi<|zJ<|U<|W.sr<|v_load_b1 (st6.get (k := 1) X) X X Tryz.isAgg9 X<|v_asS X X<|v_asB X X<|Y<|zk<|NoGo.ret<|zH Tryz.results170 ?_
   have es := stepOf_none ht (by omega)
   have hl0 : ¬ left = 0 := c1
   refine ⟨h4, _, _, _, rfl, le5, st6, ?_, ?_, ?_⟩
   ·simp [turnL, hl0]
   ·simp [turnW, hl0, es]
   refine tup2 (str_eq ?_) (zn ?_)
   ·simp [turnW, hl0, es]
   ·simp [turnB, hl0, es]
end Go.Pk

namespace Go.Pk
open Go Go.RowKit Go.Proofs
set_option maxRecDepth 4000 in
theorem c_stem_office_turns {h : Heap} {w : World} (hs : Sub h w) {o_b : Nat} {o : Office} {o_v0 : Value} (o_f0 : Sl LRule h o_v0 o.lex.rules) {o_v1 : Value} (o_f1 : Sl LDecision h o_v1 o.lex.decisions) {o_v2 : Value} (o_f2 : Sl LChapter h o_v2 o.text.chapters) {o_v3 : Value} (o_f3 : FML (fun n : Int => .int .i64 n) (fun x : Decision => [.int .i64 x.number, .int .u8 x.kind, strV x.form, .int .i64 x.at_.chapter, .int .i64 x.at_.line, .int .i64 x.at_.word, strV x.to.stem, .int .u8 x.to.mark, .int .i64 x.of_]) LDecision h o.stands o_v3) (o_c : Cells h o_b 0 [o_v0, o_v1, o_v2, o_v3]) (word : Str) (word_le : word.length ≤ 281474976710656) : Calls Tryz.prog 113 #[.pointer (some ⟨o_b, 0, none⟩), strV word] w (fun e_ w' => ∃ h' bl bw bo, e_ = .returned (.func (.func 170) #[] #[.pointer (some ⟨bl, 0, none⟩), .pointer (some ⟨bw, 0, none⟩), .pointer (some ⟨bo, 0, none⟩)]) ∧ Le h h' ∧ St h w h' w' [[(bw, .cells [strV word].toArray 9)], [(bl, .cells [.int .i64 4].toArray 3)]] ∧ Cells h' bo 0 [.pointer (some ⟨o_b, 0, none⟩)]) := by
 refine zx (n := 7) (args := [.pointer (some ⟨o_b, 0, none⟩), strV word]) Tryz.func113 X X X ?_
 have st0 : St h w h w [] := St.start hs
 have o_f0_b := o_f0.le
 have o_f1_b := o_f1.le
 have o_f2_b := o_f2.le
 refine W.sr<|zl st0 (cs := [.pointer (some ⟨o_b, 0, none⟩)]) X X X ?_
 intro b1 w2 h3 le4 hc5 st6
 refine OpsL.boxO st6 (cs := [strV word]) X X X ?_
 intro b7 w8 st9
 refine v_assign X X<|Y<|W.sr<|zy st9 Tryz.zeroValue3 X X ?_
 intro b10 w11 st12
 refine OpsL.store1 st12 (k := 1) X X X X Tryz.sizeOf3 X X X ?_
 intro w13 st14
 refine Y<|W.sr<|v_make_func X X X<|ze X X (r_asF X)<|Y<|zk<|O Tryz.results113 ?_
 exact ⟨h3, _, _, _, rfl, le4, st14, hc5⟩
set_option maxRecDepth 4000 in
theorem c_stem_office_steps {h : Heap} {w : World} (hs : Sub h w) {o_b : Nat} {o : Office} {o_v0 : Value} (o_f0 : Sl LRule h o_v0 o.lex.rules) {o_v1 : Value} (o_f1 : Sl LDecision h o_v1 o.lex.decisions) {o_v2 : Value} (o_f2 : Sl LChapter h o_v2 o.text.chapters) {o_v3 : Value} (o_f3 : FML (fun n : Int => .int .i64 n) (fun x : Decision => [.int .i64 x.number, .int .u8 x.kind, strV x.form, .int .i64 x.at_.chapter, .int .i64 x.at_.line, .int .i64 x.at_.word, strV x.to.stem, .int .u8 x.to.mark, .int .i64 x.of_]) LDecision h o.stands o_v3) (o_c : Cells h o_b 0 [o_v0, o_v1, o_v2, o_v3]) (word : Str) (word_le : word.length ≤ 281474976710656) (hw : word.length ≤ 12) : Calls Tryz.prog 78 #[.pointer (some ⟨o_b, 0, none⟩), strV word] w (Rets h w (fun h' _ res_ => ∃ u0, res_ = u0 ∧ Sl LStr h' u0 (stepsN o.lex.rules 4 word))) := by
 refine zx (n := 30) (args := [.pointer (some ⟨o_b, 0, none⟩), strV word]) Tryz.func78 X X X ?_
 have st0 : St h w h w [] := St.start hs
 have o_f0_b := o_f0.le
 have o_f1_b := o_f1.le
 have o_f2_b := o_f2.le
 refine W.sr<|v_asL X X<|Y<|W.sr<|v_mvS X X<|OpsL.sliceO (L := LStr) (xs := [word]) (cs := [strV word]) st0 (Enc.cons (L := LStr) (vs := [strV word]) (x := word) (h := h) (⟨rfl, zO⟩) Enc.nil) X X X Tryz.underlying62 Tryz.info9 X X X X t_kr ?_
 intro v1 o5 w2 f3 st4
 refine v_assign (v := v1) X X<|Y<|W.sr<|v_mvP X X<|v_mvS X X ?_
 refine zD rfl rfl (zS rfl Tryz.call113 rfl) ((c_stem_office_turns st4.sub (o := o) o_f0 o_f1 o_f2 o_f3 o_c _ zO).mono ?_)
 rintro _ w6 ⟨h7, bl8, bw9, bo10, rfl, le11, s12, hc13⟩
 refine ⟨_, rfl, ?_⟩
 have st14 := st4.call s12
 refine v_assign (v := (.func (.func 170) #[] #[.pointer (some ⟨bl8, 0, none⟩), .pointer (some ⟨bw9, 0, none⟩), .pointer (some ⟨bo10, 0, none⟩)])) X X<|Y<|zg<|W.sr<|v_move (v := (.func (.func 170) #[] #[.pointer (some ⟨bl8, 0, none⟩), .pointer (some ⟨bw9, 0, none⟩), .pointer (some ⟨bo10, 0, none⟩)])) X X ?_
 have con := c_stem_office_turns_1 (left_b := bl8) (left := 4) (word_b := bw9) (word := word) (by omega) (o := o) (o_f0.up le11) (o_f1.up le11) (o_f2.up le11) (o_f3.up le11) (o_c.up le11) hc13 (by omega) (by exact hw) (st14.perm (List.reverse_perm _).symm)
 refine zD rfl rfl (zaa (fs := []) (cs := [.pointer (some ⟨bl8, 0, none⟩), .pointer (some ⟨bw9, 0, none⟩), .pointer (some ⟨bo10, 0, none⟩)]) rfl rfl Tryz.call170 rfl) (con.mono ?_)
 rintro _ w15 ⟨h16, _, l17, w18, rfl, le19, s20, rfl, rfl, rfl⟩
 refine ⟨_, rfl, ?_⟩
 clear con
 have st21 := s20.perm (List.reverse_perm _).symm
 refine v_mvT X X<|v_extract (v := (strV _)) X X X<|v_extract (v := (.bool _)) X X X<|v_asS X X<|v_asB X X<|Y<|zr ?_
 refine zN [5, 7, 8, 19, 20, 21, 22, 23, 24, 25, 26, 27, 28] (G := Nat × List Str × Str × Str × Bool × Int × Value × List (Nat × Obj) × Heap) (fun ⟨k, ini, la, cw, tb, lf, v_5, o_5, h23⟩ => [(5, v_5), (7, strV cw), (8, .bool tb)]) (fun ⟨k, ini, la, cw, tb, lf, v_5, o_5, h23⟩ w' => Le h16 h23 ∧ St h w h23 w' [o_5, [(bw9, .cells (List.toArray [strV cw]) 9)], [(bl8, .cells (List.toArray [.int .i64 lf]) 3)]] ∧ (OSl LStr 9 h23 v_5 (ini ++ [la]) o_5) ∧ (k ≤ 4) ∧ (ini.length = k) ∧ (la.length ≤ 12) ∧ (cw.length ≤ 12) ∧ (0 ≤ lf ∧ lf ≤ 4) ∧ (stepsN o.lex.rules 4 word = ini ++ stepsN o.lex.rules (4 - k) la) ∧ (tb = true → k < 4 ∧ stepOf o.lex.rules la = some cw ∧ lf = 3 - k) ∧ (tb = false → stepsN o.lex.rules (4 - k) la = [la])) (fun ⟨k, ini, la, cw, tb, lf, v_5, o_5, h23⟩ => 4 - k) ⟨0, [], word, (turnW o.lex.rules 4 word), (turnB o.lex.rules 4 word), (turnL 4), v1, o5, h16⟩ ⟨rfl, rfl, rfl, trivial⟩ ⟨Le.refl _, st21, (OSl.to (f3.up (le11.trans le19)) (by rfl)), zV, (by rfl), (by exact hw), (by exact turnW_len hw), (by decide), (by rfl), (by exact fun q => ⟨by omega, (turn_true q).2, by decide⟩), (by exact fun q => turn_false q (by rfl))⟩ ?_
 rintro ⟨k, ini, la, cw, tb, lf, v_5, o_5, h23⟩ _ w26 ⟨le24, st25, hO_5, hk, hn, hla, hcw, hlf, hq, ht, hf⟩
 refine zg<|W.sr<|v_mvB X X<|Y ?_
 refine zh rfl (fun c27 => ?_) (fun c27 => ?_)
 ·
  refine zo<|U<|zg<|zr<|zm<|v_move (v := v_5) X X<|v_mvS X X<|zG (L := LStr) (xs := [cw]) (cs := [strV cw]) st25 (Enc.cons (L := LStr) (vs := [strV cw]) (x := cw) (h := h23) (⟨rfl, zO⟩) Enc.nil) X X X Tryz.underlying62 Tryz.info9 X X X t_kr ?_
  intro v28 w29 h32 le33 f30 st31
  refine OpsL.append (k := 0) (nb := 16) st31 (hO_5.up le33) rfl f30 rfl rfl rfl Tryz.underlying62 Tryz.info9 rfl rfl rfl (by decide) rfl (by simp [hn]; omega) (by simp [hn]; omega) ?_
  intro v34 o35 w36 _ e37 f38 st39
  subst e37
  refine v_assign (v := v34) X X<|zj<|zz<|U<|zm<|v_move (v := (.func (.func 170) #[] #[.pointer (some ⟨bl8, 0, none⟩), .pointer (some ⟨bw9, 0, none⟩), .pointer (some ⟨bo10, 0, none⟩)])) X X ?_
  have con := c_stem_office_turns_1 (left_b := bl8) (left := lf) (word_b := bw9) (word := cw) (by omega) (o := o) (o_f0.up (((le11.trans le19).trans le24).trans le33)) (o_f1.up (((le11.trans le19).trans le24).trans le33)) (o_f2.up (((le11.trans le19).trans le24).trans le33)) (o_f3.up (((le11.trans le19).trans le24).trans le33)) (o_c.up (((le11.trans le19).trans le24).trans le33)) (hc13.up ((le19.trans le24).trans le33)) (by omega) (by exact hcw) (st39.perm (List.reverse_perm _).symm)
  refine zD rfl rfl (zaa (fs := []) (cs := [.pointer (some ⟨bl8, 0, none⟩), .pointer (some ⟨bw9, 0, none⟩), .pointer (some ⟨bo10, 0, none⟩)]) rfl rfl Tryz.call170 rfl) (con.mono ?_)
  rintro _ w40 ⟨h41, _, l42, w43, rfl, le44, s45, rfl, rfl, rfl⟩
  refine ⟨_, rfl, ?_⟩
  clear con
  have st46 := s45.perm (List.reverse_perm _).symm
  refine v_mvT X X<|v_extract (v := (strV _)) X X X<|v_extract (v := (.bool _)) X X X<|v_asS X X<|v_asB X X<|Y ?_
  have q1 := ht c27
  refine ⟨⟨k + 1, ini ++ [la], cw, (turnW o.lex.rules lf cw), (turnB o.lex.rules lf cw), (turnL lf), v34, o35, h41⟩, ⟨rfl, rfl, rfl, trivial⟩, ?_, ⟨((le24.trans le33).trans le44), st46, ?_, ?_, ?_, ?_, ?_, ?_, ?_, ?_, ?_⟩, ?_⟩
  ·exact zR
  ·refine OSl.to (f38.up le44) ?_
   rfl
  ·omega
  ·simp [hn]
  ·exact hcw
  ·exact turnW_len hcw
  ·unfold turnL; split <;> omega
  ·rw [hq, stepsN_some (show 4 - k = (4 - (k + 1)) + 1 by omega) q1.2.1]; simp
  ·exact fun q => ⟨by have := (turn_true q).1; omega, (turn_true q).2, by have := (turn_true q).1; unfold turnL; rw [if_neg this]; omega⟩
  ·exact fun q => turn_false q (by omega)
  ·show 4 - ((k + 1)) < 4 - k
   omega
 ·
  refine zP<|zi<|zi<|zJ<|U<|W.sr<|v_move (v := v_5) X X<|v_assign (v := v_5) X X<|Y<|zk<|O Tryz.results78 ?_
  obtain ⟨h48, le49, f50, st51⟩ := OSl.freeze (k := 0) st25 hO_5 rfl (by simp [hn]; omega)
  refine ⟨h48, _, rfl, st51.done, ?_⟩
  refine ⟨_, rfl, Sl.to f50 ?_⟩
  rw [hq, hf (by simpa using c27)]
end Go.Pk
